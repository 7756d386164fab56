import PyProof.Rows.All
import Wide.All
import OpenK.AllK
import Wide.FinOn
import HandS.ForMost
import HandS.Exc
import HandS.ExcOwn
import HandS.TupAny
import HandS.Flow
import HandS.Style
import HandS.Defaults
import HandS.IsInst
import HandS.WordsExc
import KE.KStateDown
import Lean
import HandS.Head0
import HandS.Head1
import HandS.Head2
import HandS.HeadEnd
import HandS.HeadHook1
import HandS.HeadHook2
import PySem.Challenge.RW_sinktree_k04_evaluate
import HandS.Base
import HandS.Call
import HandS.Ends
import HandS.More
import HandS.Words
set_option Elab.async false
set_option linter.all false
set_option maxRecDepth 100000
/-! D0: plain values, a plain heap, and the meaning of the constructs as functions on them. -/
namespace DN
open PySem

/-- plain values: tuples by value; fl, fd: a list, a dict that nobody changes any more; sl: the script; ref: an object of the plain heap; fn: a def; xc: a caught exception -/
inductive D where
  | non | bl (b : Bool) | int (i : Int) | str (s : List Nat) | tup (xs : List D) | fl (xs : List D) | sl (xs : List D) | fd (kvs : List (D × D)) | ref (n : Nat) | fn (f : Nat) | xc (c : Nat) (fs : List (Nat × D))
  deriving Inhabited
/-- objects that change -/
inductive O where
  | lst (xs : List D) | dct (kvs : List (D × D)) | ins (c : Nat) (fs : List (Nat × D))
  deriving Inhabited
abbrev Hs := List O
abbrev Env := List (Option D)
/-- an end: a value, an exception, or none (not known) -/
inductive R (α : Type) where
  | ok (a : α) (h : Hs) | xc (c : Nat) (fs : List (Nat × D)) (h : Hs) | no
def R.bind {α β : Type} (r : R α) (f : α → Hs → R β) : R β := match r with
  | .ok a h => f a h
  | .xc c fs h => .xc c fs h
  | .no => .no
@[simp] theorem bind_ok {α β : Type} (a : α) (h : Hs) (f : α → Hs → R β) : (R.ok a h).bind f = f a h := rfl
@[simp] theorem bind_xc {α β : Type} (c : Nat) (fs : List (Nat × D)) (h : Hs) (f : α → Hs → R β) : (R.xc c fs h : R α).bind f = .xc c fs h := rfl
@[simp] theorem bind_no {α β : Type} (f : α → Hs → R β) : (R.no : R α).bind f = .no := rfl
theorem bind_ite {α β : Type} (c : Prop) [Decidable c] (a b : R α) (f : α → Hs → R β) : (if c then a else b).bind f = if c then a.bind f else b.bind f := by split <;> rfl
theorem bind_assoc {α β γ : Type} (r : R α) (f : α → Hs → R β) (g : β → Hs → R γ) : (r.bind f).bind g = r.bind fun a h => (f a h).bind g := by cases r <;> rfl

/-- the greatest size of a sequence -/
def SZ : Nat := 16777216
abbrev M (α : Type) := Env → Hs → R α

/-! ### equality of data -/
mutual
def D.eqv : D → D → Bool
  | .non, .non => true
  | .bl a, .bl b => a == b
  | .bl a, .int j => (if a then 1 else 0) == j
  | .int i, .bl b => i == (if b then 1 else 0)
  | .int i, .int j => i == j
  | .str x, .str y => x == y
  | .tup xs, .tup ys => D.eqvs xs ys
  | .fl xs, .fl ys => D.eqvs xs ys
  | _, _ => false
def D.eqvs : List D → List D → Bool
  | [], [] => true
  | x :: xs, y :: ys => D.eqv x y && D.eqvs xs ys
  | _, _ => false
end
-- data of at most n storeys: None, flags, ints, texts, tuples, lists
mutual
def D.dat : Nat → D → Bool
  | _, .non => true
  | _, .bl _ => true
  | _, .int _ => true
  | _, .str s => s.all (· < 1114112)
  | 0, _ => false
  | n + 1, .tup xs => D.dats n xs
  | n + 1, .fl xs => D.dats n xs
  | _, _ => false
def D.dats : Nat → List D → Bool
  | _, [] => true
  | n, x :: xs => D.dat n x && D.dats n xs
end
-- no object of place k or more is in it
mutual
def D.blw (k : Nat) : D → Bool
  | .tup xs => D.blws k xs
  | .fl xs => D.blws k xs
  | .sl xs => D.blws k xs
  | .fd kvs => D.blwp k kvs
  | .ref n => decide (n < k)
  | .xc _ _ => false
  | _ => true
def D.blws (k : Nat) : List D → Bool
  | [] => true
  | x :: xs => D.blw k x && D.blws k xs
def D.blwp (k : Nat) : List (D × D) → Bool
  | [] => true
  | (x, y) :: xs => D.blw k x && D.blw k y && D.blwp k xs
end

/-! ### views -/
def lstOf (h : Hs) : D → Option (List D)
  | .fl xs => some xs
  | .sl xs => some xs
  | .ref n => match h[n]? with
    | some (.lst xs) => some xs
    | _ => none
  | _ => none
/-- a list, not the script -/
def lsuOf (h : Hs) : D → Option (List D)
  | .fl xs => some xs
  | .ref n => match h[n]? with
    | some (.lst xs) => some xs
    | _ => none
  | _ => none
def seqOf (h : Hs) : D → Option (List D)
  | .tup xs => some xs
  | d => lstOf h d
def dctOf (h : Hs) : D → Option (List (D × D))
  | .fd kvs => some kvs
  | .ref n => match h[n]? with
    | some (.dct kvs) => some kvs
    | _ => none
  | _ => none
/-- a list of the heap as data -/
def datOf (h : Hs) : D → D
  | .ref n => match h[n]? with
    | some (.lst xs) => .fl xs
    | _ => .ref n
  | d => d
/-- a new list: on the heap or not -/
def mkL (hp : Bool) (xs : List D) (h : Hs) : R D := if xs.length ≤ SZ then (if hp then .ok (.ref h.length) (h ++ [.lst xs]) else .ok (.fl xs) h) else .no
def mkD (hp : Bool) (kvs : List (D × D)) (h : Hs) : R D := if kvs.length ≤ SZ then (if hp then .ok (.ref h.length) (h ++ [.dct kvs]) else .ok (.fd kvs) h) else .no
def mkT (xs : List D) (h : Hs) : R D := if xs.length ≤ SZ then .ok (.tup xs) h else .no
def mkS (s : List Nat) (h : Hs) : R D := if s.length ≤ SZ then .ok (.str s) h else .no

def truth (h : Hs) : D → Option Bool
  | .non => some false
  | .bl b => some b
  | .int i => some (i != 0)
  | .str s => if s.length ≤ SZ then some (s.length != 0) else none
  | .tup xs => some (!xs.isEmpty)
  | .fl xs => some (!xs.isEmpty)
  | .sl xs => some (!xs.isEmpty)
  | .fd kvs => some (!kvs.isEmpty)
  | .ref n => match h[n]? with
    | some (.lst xs) => some (!xs.isEmpty)
    | some (.dct kvs) => some (!kvs.isEmpty)
    | _ => none
  | _ => none

/-! ### places, slices -/
def ixD (n : Nat) (i : Int) : Option Nat := if 0 ≤ i then (if i < n then some i.toNat else none) else if -(n : Int) ≤ i then some (i + n).toNat else none
/-- where a slice's end stands -/
def sixD (n d : Nat) : Option Int → Nat
  | none => d
  | some v => if v < 0 then (v + (n : Int)).toNat else min v.toNat n
def cutD {α : Type} (xs : List α) (lo hi : Option Int) : List α := (xs.drop (sixD xs.length 0 lo)).take (sixD xs.length xs.length hi - sixD xs.length 0 lo)

/-! ### keys of dicts -/
def isKey : D → Bool
  | .int _ => true
  | .str _ => true
  | _ => false
def keyEq : D → D → Bool
  | .int i, .int j => i == j
  | .str s, .str t => s == t
  | _, _ => false
def dget : List (D × D) → D → Option D
  | [], _ => none
  | (k, v) :: r, x => if keyEq k x then some v else dget r x
def dput (kvs : List (D × D)) (x v : D) : List (D × D) := if kvs.any (fun p => keyEq p.1 x) then kvs.map (fun p => if keyEq p.1 x then (p.1, v) else p) else kvs ++ [(x, v)]
def ddrop (kvs : List (D × D)) (x : D) : List (D × D) := kvs.filter fun p => !keyEq p.1 x

/-! ### operators on values -/
def opAdd (hp : Bool) (x y : D) (h : Hs) : R D := match x, y with
  | .int a, .int b => .ok (.int (a + b)) h
  | .str a, .str b => if a.length + b.length ≤ SZ then .ok (.str (a ++ b)) h else .no
  | .tup a, .tup b => if a.length + b.length ≤ SZ then .ok (.tup (a ++ b)) h else .no
  | a, b => match lsuOf h a, lsuOf h b with
    | some xs, some ys => if xs.length + ys.length ≤ SZ then mkL hp (xs ++ ys) h else .no
    | _, _ => .no
def opSub (x y : D) (h : Hs) : R D := match x, y with
  | .int a, .int b => .ok (.int (a - b)) h
  | _, _ => .no
def opMul (hp : Bool) (x y : D) (h : Hs) : R D := match x, y with
  | .int a, .int b => if (-(2 ^ 64) < a ∧ a < 2 ^ 64) ∨ (-(2 ^ 64) < b ∧ b < 2 ^ 64) then .ok (.int (a * b)) h else .no
  | a, .int k => match lsuOf h a with
    | some xs => if -(2 ^ 63) ≤ k ∧ k < 2 ^ 63 ∧ xs.length * k.toNat ≤ SZ then mkL hp (List.replicate k.toNat xs).flatten h else .no
    | none => .no
  | _, _ => .no
def opFdiv (x y : D) (h : Hs) : R D := match x, y with
  | .int a, .int b => if b ≠ 0 ∧ b.natAbs < 1073741824 then .ok (.int (a.fdiv b)) h else .no
  | _, _ => .no
def opMod (x y : D) (h : Hs) : R D := match x, y with
  | .int a, .int b => if b ≠ 0 then .ok (.int (a.fmod b)) h else .no
  | _, _ => .no
def opPow (x y : D) (h : Hs) : R D := match x, y with
  | .int a, .int b => if 0 ≤ b ∧ b ≤ 1000000 ∧ a.natAbs < 2 ^ 64 then .ok (.int (a ^ b.toNat)) h else .no
  | _, _ => .no
/-- flat things: no object -/
def flatD : D → Bool
  | .non => true
  | .bl _ => true
  | .int _ => true
  | .str _ => true
  | _ => false
inductive Cop where
  | eq | ne | lt | le | gt | ge | isx | isnot | inn | notin
def inD (h : Hs) (x y : D) : Option Bool := match x, y with
  | .str [c], .str z => some (decide (c ∈ z))
  | x, y => match seqOf h y with
    | some ys => if flatD x && ys.all flatD then some (ys.any fun z => D.eqv z x) else none
    | none => match dctOf h y with
      | some kvs => if isKey x then some ((dget kvs x).isSome) else none
      | none => none
def eqD (h : Hs) (x y : D) : Option Bool := match x, y with
  | .str a, .str b => some (a == b)
  | x, y => if D.dat 64 (datOf h x) && D.dat 64 (datOf h y) then some (D.eqv (datOf h x) (datOf h y)) else none
def isD (x y : D) : Option Bool := match y, x with
  | .non, .non => some true
  | .non, _ => some false
  | .bl b, .bl c => some (c == b)
  | .bl _, _ => some false
  | _, _ => none
def cmpD (o : Cop) (x y : D) (h : Hs) : Option Bool := match o with
  | .eq => eqD h x y
  | .ne => (eqD h x y).map (!·)
  | .inn => inD h x y
  | .notin => (inD h x y).map (!·)
  | .isx => isD x y
  | .isnot => (isD x y).map (!·)
  | .lt => match x, y with
    | .int a, .int b => some (decide (a < b))
    | .str a, .str b => some (decide (a < b))
    | _, _ => none
  | .le => match x, y with
    | .int a, .int b => some (decide (a ≤ b))
    | .str a, .str b => some (decide (a ≤ b))
    | _, _ => none
  | .gt => match x, y with
    | .int a, .int b => some (decide (b < a))
    | .str a, .str b => some (decide (b < a))
    | _, _ => none
  | .ge => match x, y with
    | .int a, .int b => some (decide (b ≤ a))
    | .str a, .str b => some (decide (b ≤ a))
    | _, _ => none
def opCmp (o : Cop) (x y : D) (h : Hs) : R D := match cmpD o x y h with
  | some b => .ok (.bl b) h
  | none => .no

/-! ### expressions -/
def mLit (d : D) : M D := fun _ h => .ok d h
def mVar (i : Nat) : M D := fun σ h => match σ[i]? with
  | some (some d) => .ok d h
  | _ => .no
def mOp (f : D → D → Hs → R D) (a b : M D) : M D := fun σ h => (a σ h).bind fun x h1 => (b σ h1).bind fun y h2 => f x y h2
def mNeg (a : M D) : M D := fun σ h => (a σ h).bind fun x h1 => match x with
  | .int i => .ok (.int (-i)) h1
  | _ => .no
/-- a o b o' c: b is asked once -/
def mChain (o o' : Cop) (a b c : M D) : M D := fun σ h => (a σ h).bind fun x h1 => (b σ h1).bind fun y h2 => match cmpD o x y h2 with
  | some true => (c σ h2).bind fun z h3 => opCmp o' y z h3
  | some false => .ok (.bl false) h2
  | none => .no
/-- and, or, not as values: of flags but for the last -/
def mAnd (a b : M D) : M D := fun σ h => (a σ h).bind fun x h1 => match x with
  | .bl true => b σ h1
  | .bl false => .ok (.bl false) h1
  | _ => .no
def mOr (a b : M D) : M D := fun σ h => (a σ h).bind fun x h1 => match x with
  | .bl true => .ok (.bl true) h1
  | .bl false => b σ h1
  | _ => .no
def mNot (a : M D) : M D := fun σ h => (a σ h).bind fun x h1 => match x with
  | .bl b => .ok (.bl (!b)) h1
  | _ => .no
/-- not x as a value, of any truth -/
def mNotT (t : M D) : M D := fun σ h => (t σ h).bind fun x h1 => match truth h1 x with
  | some b => .ok (.bl (!b)) h1
  | none => .no
/-- tests -/
def tVal (a : M D) : M Bool := fun σ h => (a σ h).bind fun x h1 => match truth h1 x with
  | some b => .ok b h1
  | none => .no
def tAnd (a b : M Bool) : M Bool := fun σ h => (a σ h).bind fun x h1 => if x = true then b σ h1 else .ok false h1
def tOr (a b : M Bool) : M Bool := fun σ h => (a σ h).bind fun x h1 => if x = true then .ok true h1 else b σ h1
def tNot (a : M Bool) : M Bool := fun σ h => (a σ h).bind fun x h1 => .ok (!x) h1
def mIfe (t : M Bool) (a b : M D) : M D := fun σ h => (t σ h).bind fun x h1 => if x = true then a σ h1 else b σ h1
/-- a row of expressions, from the left -/
def mNil : M (List D) := fun _ h => .ok [] h
def mCons (a : M D) (r : M (List D)) : M (List D) := fun σ h => (a σ h).bind fun x h1 => (r σ h1).bind fun xs h2 => .ok (x :: xs) h2
/-- a function of the values of a row -/
def mApp (f : List D → Hs → R D) (as : M (List D)) : M D := fun σ h => (as σ h).bind f
def mTup (as : M (List D)) : M D := mApp mkT as
def mLst (hp : Bool) (as : M (List D)) : M D := mApp (mkL hp) as
def opIx (x y : D) (h : Hs) : R D := match x, y with
  | .str s, .int i => if s.length ≤ SZ then (match (ixD s.length i).bind fun j => s[j]? with
    | some c => .ok (.str [c]) h
    | none => .no) else .no
  | x, y => match seqOf h x with
    | some xs => (match y with
      | .int i => (match (ixD xs.length i).bind fun j => xs[j]? with
        | some v => .ok v h
        | none => .no)
      | _ => .no)
    | none => (match dctOf h x with
      | some kvs => if isKey y then (match dget kvs y with
        | some v => .ok v h
        | none => .no) else .no
      | none => .no)
/-- the ends of a slice -/
def mPart (a : Option (M D)) : M (Option Int) := match a with
  | none => fun _ h => .ok none h
  | some a => fun σ h => (a σ h).bind fun x h1 => match x with
    | .int i => .ok (some i) h1
    | _ => .no
def opSlc (hp : Bool) (x : D) (lo hi : Option Int) (h : Hs) : R D := match x with
  | .str s => if s.length ≤ SZ then .ok (.str (cutD s lo hi)) h else .no
  | .tup xs => .ok (.tup (cutD xs lo hi)) h
  | x => match lstOf h x with
    | some xs => mkL hp (cutD xs lo hi) h
    | none => .no
def mSlc (hp : Bool) (a : M D) (lo hi : Option (M D)) : M D := fun σ h => (a σ h).bind fun x h1 => (mPart lo σ h1).bind fun l h2 => (mPart hi σ h2).bind fun u h3 => opSlc hp x l u h3

/-! ### statements -/
inductive Out where
  | nx (σ : Env) (h : Hs) | rt (d : D) (h : Hs) | bk (σ : Env) (h : Hs) | ct (σ : Env) (h : Hs) | xc (c : Nat) (fs : List (Nat × D)) (σ : Env) (h : Hs) | no
abbrev B := Env → Hs → Out
/-- a value, then a statement's rest -/
def R.out {α : Type} (r : R α) (σ : Env) (f : α → Hs → Out) : Out := match r with
  | .ok a h => f a h
  | .xc c fs h => .xc c fs σ h
  | .no => .no
@[simp] theorem out_ok {α : Type} (a : α) (h : Hs) (σ : Env) (f : α → Hs → Out) : (R.ok a h).out σ f = f a h := rfl
@[simp] theorem out_xc {α : Type} (c : Nat) (fs : List (Nat × D)) (h : Hs) (σ : Env) (f : α → Hs → Out) : (R.xc c fs h : R α).out σ f = .xc c fs σ h := rfl
@[simp] theorem out_no {α : Type} (σ : Env) (f : α → Hs → Out) : (R.no : R α).out σ f = .no := rfl
def Out.andThen (o : Out) (f : B) : Out := match o with
  | .nx σ h => f σ h
  | o => o
@[simp] theorem then_nx (σ : Env) (h : Hs) (f : B) : (Out.nx σ h).andThen f = f σ h := rfl
@[simp] theorem then_rt (d : D) (h : Hs) (f : B) : (Out.rt d h).andThen f = .rt d h := rfl
@[simp] theorem then_bk (σ : Env) (h : Hs) (f : B) : (Out.bk σ h).andThen f = .bk σ h := rfl
@[simp] theorem then_ct (σ : Env) (h : Hs) (f : B) : (Out.ct σ h).andThen f = .ct σ h := rfl
@[simp] theorem then_xc (c : Nat) (fs : List (Nat × D)) (σ : Env) (h : Hs) (f : B) : (Out.xc c fs σ h).andThen f = .xc c fs σ h := rfl
@[simp] theorem then_no (f : B) : (Out.no).andThen f = .no := rfl
def sPass : B := fun σ h => .nx σ h
def sSeq (a b : B) : B := fun σ h => (a σ h).andThen b
def sEx (a : M D) : B := fun σ h => (a σ h).out σ fun _ h1 => .nx σ h1
def sRet (a : M D) : B := fun σ h => (a σ h).out σ fun d h1 => .rt d h1
def sBrk : B := fun σ h => .bk σ h
def sCnt : B := fun σ h => .ct σ h
def sIf (t : M Bool) (a b : B) : B := fun σ h => (t σ h).out σ fun x h1 => if x = true then a σ h1 else b σ h1
/-- a target: what a value does to the slots and the heap -/
abbrev Tg := D → Env → Hs → R Env
def gVar (i : Nat) : Tg := fun d σ h => .ok (σ.set i (some d)) h
def gTup (gs : List Tg) : Tg := fun d σ h => match d with
  | .tup xs => if xs.length = gs.length then go gs xs σ h else .no
  | _ => .no
where go : List Tg → List D → Env → Hs → R Env
  | [], _, σ, h => .ok σ h
  | g :: gs, x :: xs, σ, h => (g x σ h).bind fun σ1 h1 => go gs xs σ1 h1
  | _ :: _, [], _, _ => .no
def opSet (x y v : D) (h : Hs) : Option Hs := match x with
  | .ref n => match h[n]?, y with
    | some (.lst xs), .int i => (match ixD xs.length i with
      | some j => some (h.set n (.lst (xs.set j v)))
      | none => none)
    | some (.dct kvs), y => if isKey y && decide (kvs.length < SZ) then some (h.set n (.dct (dput kvs y v))) else none
    | _, _ => none
  | _ => none
def gSub (a i : M D) : Tg := fun v σ h => (a σ h).bind fun x h1 => (i σ h1).bind fun y h2 => match opSet x y v h2 with
  | some h3 => .ok σ h3
  | none => .no
/-- behind a target's store; a target that raises is not served -/
def R.gout (r : R Env) (f : Env → Hs → Out) : Out := match r with
  | .ok a h => f a h
  | _ => .no
@[simp] theorem gout_ok (a : Env) (h : Hs) (f : Env → Hs → Out) : (R.ok a h).gout f = f a h := rfl
def sAsg (a : M D) (g : Tg) : B := fun σ h => (a σ h).out σ fun x h1 => (g x σ h1).gout .nx
def opIAdd (x y : D) (h : Hs) : R D := match x, y with
  | .int a, .int b => .ok (.int (a + b)) h
  | .str a, .str b => if a.length + b.length ≤ SZ then .ok (.str (a ++ b)) h else .no
  | _, _ => .no
/-- x += e -/
def sAug (i : Nat) (f : D → D → Hs → R D) (a : M D) : B := fun σ h => match σ[i]? with
  | some (some x) => (a σ h).out σ fun y h1 => (f x y h1).out σ fun z h2 => .nx (σ.set i (some z)) h2
  | _ => .no
-- what a for walks: its values, and the thing (a list of the heap must stand still)
open Classical in
noncomputable def loopGo (chk : Hs → Prop) (g : Tg) (b : B) : List D → Env → Hs → Out
  | [], σ, h => if chk h then .nx σ h else .no
  | x :: xs, σ, h => if chk h then (g x σ h).gout fun σ1 h1 => (match b σ1 h1 with
    | .nx σ2 h2 => loopGo chk g b xs σ2 h2
    | .ct σ2 h2 => loopGo chk g b xs σ2 h2
    | .bk σ2 h2 => .nx σ2 h2
    | o => o) else .no
/-- a walk: the items, and what is looked at ahead of each turn -/
abbrev It := M (List D × (Hs → Prop))
def chkTrue : Hs → Prop := fun _ => True
def itOf (h : Hs) (d : D) : R (List D × (Hs → Prop)) := match d with
  | .tup xs => .ok (xs, chkTrue) h
  | .fl xs => .ok (xs, chkTrue) h
  | .sl xs => .ok (xs, chkTrue) h
  | .str s => .ok (s.map fun c => .str [c], chkTrue) h
  | .ref n => match h[n]? with
    | some (.lst xs) => .ok (xs, fun h' => h'[n]? = some (.lst xs)) h
    | _ => .no
  | _ => .no
def iVal (a : M D) : It := fun σ h => (a σ h).bind fun d h1 => itOf h1 d
def rngL (i : Int) : Nat → List D
  | 0 => []
  | n + 1 => .int i :: rngL (i + 1) n
def iRng1 (a : M D) : It := fun σ h => (a σ h).bind fun x h1 => match x with
  | .int j => if -(2 ^ 62) ≤ j ∧ j < 2 ^ 62 then .ok (rngL 0 j.toNat, chkTrue) h1 else .no
  | _ => .no
def iRng2 (a b : M D) : It := fun σ h => (a σ h).bind fun x h1 => (b σ h1).bind fun y h2 => match x, y with
  | .int i, .int j => if (-(2 ^ 62) ≤ i ∧ i < 2 ^ 62) ∧ -(2 ^ 62) ≤ j ∧ j < 2 ^ 62 then .ok (rngL i (j - i).toNat, chkTrue) h2 else .no
  | _, _ => .no
noncomputable def sFor (g : Tg) (it : It) (b : B) : B := fun σ h => (it σ h).out σ fun p h1 => loopGo p.2 g b p.1 σ h1
def whileGo (t : M Bool) (b : B) : Nat → Env → Hs → Out
  | 0, _, _ => .no
  | n + 1, σ, h => (t σ h).out σ fun x h1 => if x = true then (match b σ h1 with
    | .nx σ2 h2 => whileGo t b n σ2 h2
    | .ct σ2 h2 => whileGo t b n σ2 h2
    | .bk σ2 h2 => .nx σ2 h2
    | o => o) else .nx σ h1
def sWhile (n : Nat) (t : M Bool) (b : B) : B := whileGo t b n
end DN

set_option Elab.async false
set_option linter.all false
set_option maxRecDepth 100000
/-! C0: calls and built-ins as functions on plain values. -/
namespace DN
open PySem

/-! ### defs -/
abbrev Calls := Nat → List D → Hs → R D
/-- one def: how many parameters, how many slots, whether it leaves no trace, its body -/
structure FnE where
  ar : Nat
  sl : Nat
  pure : Bool
  body : Nat → Calls → B
def finB : Out → R D
  | .nx _ h => .ok .non h
  | .rt d h => .ok d h
  | .xc c fs _ h => .xc c fs h
  | _ => .no
/-- what a traceless def hands back: nothing of what it made is an object any more -/
def frz (k : Nat) (h' h : Hs) : D → R D
  | .ref n => if n < k then .ok (.ref n) h else (match h'[n]? with
    | some (.lst xs) => if D.blws k xs then .ok (.fl xs) h else .no
    | some (.dct kvs) => if D.blwp k kvs then .ok (.fd kvs) h else .no
    | _ => .no)
  | d => if D.blw k d then .ok d h else .no
open Classical in
noncomputable def purify (h : Hs) : R D → R D
  | .ok d h' => if ∃ g, h' = h ++ g then frz h.length h' h d else .no
  | .xc c fs h' => if (∃ g, h' = h ++ g) ∧ D.blws h.length (fs.map (·.2)) = true then .xc c fs h else .no
  | .no => .no
def startE (sl : Nat) (ds : List D) : Env := ds.map some ++ List.replicate (sl - ds.length) none
noncomputable def FnE.run (f : FnE) (n : Nat) (C : Calls) (ds : List D) (h : Hs) : R D :=
  if ds.length = f.ar then (if f.pure then purify h (finB (f.body n C (startE f.sl ds) h)) else finB (f.body n C (startE f.sl ds) h)) else .no
/-- the defs of a text, to a depth -/
noncomputable def callG (tab : Nat → Option FnE) (n : Nat) : Nat → Calls
  | 0 => fun _ _ _ => .no
  | d + 1 => fun f ds h => match tab f with
    | some fe => fe.run n (callG tab n d) ds h
    | none => .no
@[irreducible] noncomputable def callF (tab : Nat → Option FnE) (n d : Nat) : Calls := callG tab n d
theorem callF_0 (tab : Nat → Option FnE) (n f : Nat) (ds : List D) (h : Hs) : callF tab n 0 f ds h = .no := by
  unfold callF
  rfl
theorem callF_s {tab : Nat → Option FnE} {n d f : Nat} {fe : FnE} (e : tab f = some fe) (ds : List D) (h : Hs) : callF tab n (d + 1) f ds h = fe.run n (callF tab n d) ds h := by
  unfold callF
  show (match tab f with | some fe => fe.run n (callG tab n d) ds h | none => .no) = _
  rw [e]
def mCall (C : Calls) (f : Nat) (as : M (List D)) : M D := mApp (C f) as
/-- a local name that holds a def -/
def mCallV (C : Calls) (i : Nat) (as : M (List D)) : M D := fun σ h => match σ[i]? with
  | some (some (.fn f)) => mApp (C f) as σ h
  | _ => .no

/-! ### built-ins -/
def bLen (ds : List D) (h : Hs) : R D := match ds with
  | [.str s] => if s.length ≤ SZ then .ok (.int s.length) h else .no
  | [d] => (match seqOf h d with
    | some xs => .ok (.int xs.length) h
    | none => match dctOf h d with
      | some kvs => .ok (.int kvs.length) h
      | none => .no)
  | _ => .no
def bAbs (ds : List D) (h : Hs) : R D := match ds with
  | [.int i] => .ok (.int (if i < 0 then -i else i)) h
  | _ => .no
def bInt (ds : List D) (h : Hs) : R D := match ds with
  | [.int i] => .ok (.int i) h
  | [.bl b] => .ok (.int (if b then 1 else 0)) h
  | _ => .no
def bMin2 (ds : List D) (h : Hs) : R D := match ds with
  | [.int i, .int j] => .ok (.int (if j < i then j else i)) h
  | _ => .no
def bMax2 (ds : List D) (h : Hs) : R D := match ds with
  | [.int i, .int j] => .ok (.int (if j > i then j else i)) h
  | _ => .no
def bList (hp : Bool) (ds : List D) (h : Hs) : R D := match ds with
  | [d] => (match seqOf h d with
    | some xs => mkL hp xs h
    | none => .no)
  | _ => .no
def bTuple (ds : List D) (h : Hs) : R D := match ds with
  | [.tup xs] => .ok (.tup xs) h
  | [d] => (match lstOf h d with
    | some xs => mkT xs h
    | none => .no)
  | _ => .no
def bOrd (ds : List D) (h : Hs) : R D := match ds with
  | [.str [c]] => .ok (.int c) h
  | _ => .no
inductive Ty where
  | int | bool | str | tuple | list | dict
  deriving DecidableEq
/-- isinstance -/
def isTy (h : Hs) : D → Ty → Option Bool
  | .non, _ => some false
  | .bl _, t => some (t == .bool || t == .int)
  | .int _, t => some (t == .int)
  | .str _, t => some (t == .str)
  | .tup _, t => some (t == .tuple)
  | .fl _, t => some (t == .list)
  | .sl _, t => some (t == .list)
  | .fd _, t => some (t == .dict)
  | .ref n, t => match h[n]? with
    | some (.lst _) => some (t == .list)
    | some (.dct _) => some (t == .dict)
    | _ => none
  | _, _ => none
def bIsi (t : Ty) (ds : List D) (h : Hs) : R D := match ds with
  | [d] => (match isTy h d t with
    | some b => .ok (.bl b) h
    | none => .no)
  | _ => .no
/-! ### methods of lists -/
def eAppend (x : D) (ds : List D) (h : Hs) : R D := match x, ds with
  | .ref n, [d] => (match h[n]? with
    | some (.lst xs) => if xs.length < SZ then .ok .non (h.set n (.lst (xs ++ [d]))) else .no
    | _ => .no)
  | _, _ => .no
def eExtend (x : D) (ds : List D) (h : Hs) : R D := match x, ds with
  | .ref n, [d] => (match h[n]?, lsuOf h d with
    | some (.lst xs), some ys => if xs.length + ys.length ≤ SZ then .ok .non (h.set n (.lst (xs ++ ys))) else .no
    | _, _ => .no)
  | _, _ => .no
def ePop (x : D) (ds : List D) (h : Hs) : R D := match x, ds with
  | .ref n, [] => (match h[n]? with
    | some (.lst xs) => (match xs[xs.length - 1]? with
      | some y => .ok y (h.set n (.lst xs.dropLast))
      | none => .no)
    | _ => .no)
  | .ref n, [.int 0] => (match h[n]? with
    | some (.lst (y :: xs)) => .ok y (h.set n (.lst xs))
    | _ => .no)
  | _, _ => .no
def mMth (f : D → List D → Hs → R D) (o : M D) (as : M (List D)) : M D := fun σ h => (o σ h).bind fun x h1 => (as σ h1).bind fun ds h2 => f x ds h2

def mIsi (t : Ty) (m : M D) : M D := fun σ h => (m σ h).bind fun x h1 => match isTy h1 x t with
  | some b => .ok (.bl b) h1
  | none => .no
def isT (T : String) (h : Hs) (x : D) : Bool := match T with
  | "list" => (lstOf h x).isSome
  | "dict" => (dctOf h x).isSome
  | "str" => match x with
    | .str _ => true
    | _ => false
  | _ => false
/-- o.m(..): the receiver's type is looked at first -/
def mBM (T : String) (f : D → List D → Hs → R D) (o : M D) (as : M (List D)) : M D := fun σ h => (o σ h).bind fun x h1 => if isT T h1 x then (as σ h1).bind fun ds h2 => f x ds h2 else .no
/-- a call's arguments are as many as the def asks: told by the meaning -/
def mCallN (C : Calls) (ar f : Nat) (as : M (List D)) : M D := mApp (fun ds h => if ds.length = ar then C f ds h else .no) as
/-! ### comprehensions of one clause; what is made raises nothing -/
def wipeE (σ : Env) : List Nat → Env
  | [] => σ
  | v :: vs => (wipeE σ vs).set v none
/-- the targets of a comprehension: one name, a tuple of names -/
def cTg : List Nat → Tg
  | [i] => gVar i
  | is => gTup (is.map gVar)
open Classical in
noncomputable def lcGo (chk : Hs → Prop) (own : List Nat) (g : Tg) (t : M Bool) (e : M D) : List D → Env → Hs → R (List D)
  | [], _, h => if chk h then .ok [] h else .no
  | x :: xs, σ, h => if chk h then (match g x (wipeE σ own) h with
    | .ok σ1 h1 => (match t σ1 h1 with
      | .ok true h2 => (match e σ1 h2 with
        | .ok y h3 => (match lcGo chk own g t e xs σ h3 with
          | .ok ys h4 => .ok (y :: ys) h4
          | _ => .no)
        | _ => .no)
      | .ok false h2 => lcGo chk own g t e xs σ h2
      | _ => .no)
    | _ => .no) else .no
def tYesM : M Bool := fun _ h => .ok true h
noncomputable def mLc (hp : Bool) (own : List Nat) (is : List Nat) (it : It) (t : M Bool) (e : M D) : M D := fun σ h => (it σ h).bind fun p h1 => match lcGo p.2 own (cTg is) t e p.1 σ h1 with
  | .ok ys h2 => mkL hp ys h2
  | _ => .no
end DN

set_option Elab.async false
set_option linter.all false
set_option maxRecDepth 100000
/-! D1: plain values and heaps against the layer's values and heaps; what a construct's meaning asks. -/
namespace DN
open PySem PySem.Spec L2
open PyProof.Rows hiding St

/-- the names of one law: the written part, attributes, defs, classes -/
structure Nm where
  K : PySem.W.Frag
  attr : Nat → Str
  fa : Nat → Addr
  ca : Nat → Addr
/-- a world: where the plain heap's objects stand; what never changes; what a construct holds for itself (a comprehension's list) -/
structure Wd where
  io : List Addr
  im : Hp
  pv : Hp
structure Wd.le (w w' : Wd) : Prop where
  io : ∃ more, w'.io = w.io ++ more
  im : ∀ a o, w.im a = some o → w'.im a = some o
  pv : ∀ a o, w.pv a = some o → w'.pv a = some o
theorem Wd.le.refl (w : Wd) : w.le w := ⟨⟨[], by simp⟩, fun _ _ h => h, fun _ _ h => h⟩
theorem Wd.le.trans {a b c : Wd} (x : a.le b) (y : b.le c) : a.le c := by
  obtain ⟨⟨m, e⟩, h, h'⟩ := x
  obtain ⟨⟨n, f⟩, g, g'⟩ := y
  exact ⟨⟨m ++ n, by rw [f, e, List.append_assoc]⟩, fun a o q => g a o (h a o q), fun a o q => g' a o (h' a o q)⟩
theorem Wd.le.at_ {w w' : Wd} (x : w.le w') {n : Nat} {a : Addr} (h : w.io[n]? = some a) : w'.io[n]? = some a := by
  obtain ⟨⟨m, e⟩, _⟩ := x
  rw [e, List.getElem?_append_left (List.getElem?_eq_some_iff.mp h).1]
  exact h

def toS (s : List Nat) : Str := ⟨s.toArray⟩
theorem toS_list (s : List Nat) : (toS s).cps.toList = s := rfl
theorem toS_length (s : List Nat) : (toS s).length = s.length := by simp [Str.length, toS]
theorem toS_of (x : Str) : toS x.cps.toList = x := by
  obtain ⟨a⟩ := x
  simp [toS]
theorem toS_inj {s t : List Nat} (h : toS s = toS t) : s = t := by
  have := congrArg (fun x : Str => x.cps.toList) h
  exact this

def KeyRep : D → Key → Prop
  | .int i, k => k = Sum.inl i
  | .str s, k => k = Sum.inr (toS s)
  | _, _ => False
/-- an unchanging tuple, list: tracked, or of the written part -/
def TupAt (N : Nm) (w : Wd) (a : Addr) (vs : List V) : Prop := w.im a = some (.tup vs) ∨ SqT N.K (fun _ => none) a vs
def LstAt (w : Wd) (a : Addr) (vs : List V) : Prop := w.im a = some (.lst vs)
def ScrAt (N : Nm) (w : Wd) (a : Addr) (vs : List V) : Prop := (∃ o, w.im a = some (.frz o (.lst vs))) ∨ SqL N.K (fun _ => none) a vs
theorem TupAt.up {N : Nm} {w w' : Wd} {a : Addr} {vs : List V} (x : w.le w') (r : TupAt N w a vs) : TupAt N w' a vs := r.imp (x.im a _) id
theorem LstAt.up {w w' : Wd} {a : Addr} {vs : List V} (x : w.le w') (r : LstAt w a vs) : LstAt w' a vs := x.im a _ r
theorem ScrAt.up {N : Nm} {w w' : Wd} {a : Addr} {vs : List V} (x : w.le w') (r : ScrAt N w a vs) : ScrAt N w' a vs := r.imp (fun ⟨o, h⟩ => ⟨o, x.im a _ h⟩) id
mutual
def Rep (N : Nm) (w : Wd) : D → V → Prop
  | .non, v => v = .non
  | .bl b, v => v = .bl b
  | .int i, v => v = .int i
  | .str s, v => v = .str (toS s)
  | .tup xs, v => ∃ a vs, v = .ref a ∧ TupAt N w a vs ∧ Reps N w xs vs
  | .fl xs, v => ∃ a vs, v = .ref a ∧ LstAt w a vs ∧ Reps N w xs vs
  | .sl xs, v => ∃ a vs, v = .ref a ∧ ScrAt N w a vs ∧ Reps N w xs vs
  | .fd kvs, v => ∃ a ks, v = .ref a ∧ w.im a = some (.dK ks) ∧ Repd N w kvs ks
  | .ref n, v => ∃ a, w.io[n]? = some a ∧ v = .ref a
  | .fn f, v => v = .ref (N.fa f)
  | .xc _ _, _ => False
def Reps (N : Nm) (w : Wd) : List D → List V → Prop
  | [], vs => vs = []
  | x :: xs, vs => ∃ v r, vs = v :: r ∧ Rep N w x v ∧ Reps N w xs r
def Repd (N : Nm) (w : Wd) : List (D × D) → List (Key × V) → Prop
  | [], vs => vs = []
  | (k, x) :: xs, vs => ∃ q v r, vs = (q, v) :: r ∧ KeyRep k q ∧ Rep N w x v ∧ Repd N w xs r
end
def Repf (N : Nm) (w : Wd) : List (Nat × D) → List (Str × V) → Prop
  | [], vs => vs = []
  | (k, x) :: xs, vs => ∃ v r, vs = (N.attr k, v) :: r ∧ Rep N w x v ∧ Repf N w xs r

section
variable {N : Nm} {w w' : Wd}
mutual
theorem Rep.up (x : w.le w') : ∀ (d : D) (v : V), Rep N w d v → Rep N w' d v
  | .non, _, h => h
  | .bl _, _, h => h
  | .int _, _, h => h
  | .str _, _, h => h
  | .tup xs, _, h => by
    obtain ⟨a, vs, e, s, r⟩ := h
    exact ⟨a, vs, e, s.up x, Reps.up x xs vs r⟩
  | .fl xs, _, h => by
    obtain ⟨a, vs, e, s, r⟩ := h
    exact ⟨a, vs, e, s.up x, Reps.up x xs vs r⟩
  | .sl xs, _, h => by
    obtain ⟨a, vs, e, s, r⟩ := h
    exact ⟨a, vs, e, s.up x, Reps.up x xs vs r⟩
  | .fd kvs, _, h => by
    obtain ⟨a, vs, e, s, r⟩ := h
    exact ⟨a, vs, e, x.im a _ s, Repd.up x kvs vs r⟩
  | .ref _, _, h => by
    obtain ⟨a, e, r⟩ := h
    exact ⟨a, x.at_ e, r⟩
  | .fn _, _, h => h
  | .xc _ _, _, h => h
theorem Reps.up (x : w.le w') : ∀ (ds : List D) (vs : List V), Reps N w ds vs → Reps N w' ds vs
  | [], _, h => h
  | d :: ds, _, h => by
    obtain ⟨v, r, e, h1, h2⟩ := h
    exact ⟨v, r, e, Rep.up x d v h1, Reps.up x ds r h2⟩
theorem Repd.up (x : w.le w') : ∀ (ds : List (D × D)) (vs : List (Key × V)), Repd N w ds vs → Repd N w' ds vs
  | [], _, h => h
  | (k, d) :: ds, _, h => by
    obtain ⟨q, v, r, e, hk, h1, h2⟩ := h
    exact ⟨q, v, r, e, hk, Rep.up x d v h1, Repd.up x ds r h2⟩
end
theorem Repf.up (x : w.le w') : ∀ (ds : List (Nat × D)) (vs : List (Str × V)), Repf N w ds vs → Repf N w' ds vs
  | [], _, h => h
  | (k, d) :: ds, _, h => by
    obtain ⟨v, r, e, h1, h2⟩ := h
    exact ⟨v, r, e, Rep.up x d v h1, Repf.up x ds r h2⟩
end

/-- an object of the plain heap stands so -/
def ObRep (N : Nm) (w : Wd) : O → Option HO → Prop
  | .lst xs, o => ∃ vs, o = some (.lst vs) ∧ Reps N w xs vs
  | .dct kvs, o => ∃ ks, o = some (.dK ks) ∧ Repd N w kvs ks
  | .ins c fs, o => ∃ dx fv, o = some (.ins (N.ca c) dx fv) ∧ Repf N w fs fv
theorem ObRep.up {N : Nm} {w w' : Wd} (x : w.le w') : ∀ (o : O) (u : Option HO), ObRep N w o u → ObRep N w' o u
  | .lst xs, _, ⟨vs, e, r⟩ => ⟨vs, e, Reps.up x xs vs r⟩
  | .dct xs, _, ⟨vs, e, r⟩ => ⟨vs, e, Repd.up x xs vs r⟩
  | .ins _ fs, _, ⟨dx, fv, e, r⟩ => ⟨dx, fv, e, Repf.up x fs fv r⟩
/-- the plain heap h stands for the layer's heap H -/
structure RelH (N : Nm) (w : Wd) (h : Hs) (H : Hp) : Prop where
  imm : ∀ a o, w.im a = some o → H a = some o
  prv : ∀ a o, w.pv a = some o → H a = some o ∧ w.im a = none ∧ a ∉ w.io
  len : w.io.length = h.length
  nod : w.io.Nodup
  sep : ∀ a ∈ w.io, w.im a = none
  obj : ∀ (n : Nat) (a : Addr) (o : O), w.io[n]? = some a → h[n]? = some o → ObRep N w o (H a)
/-- the slots -/
def RelE (N : Nm) (w : Wd) (ρ : Env) (σ : St) : Prop := ρ.length = σ.length ∧ ∀ (i : Nat) (d : D), ρ[i]? = some (some d) → ∃ v, σ[i]? = some (some v) ∧ Rep N w d v
theorem RelE.up {N : Nm} {w w' : Wd} {ρ : Env} {σ : St} (x : w.le w') (r : RelE N w ρ σ) : RelE N w' ρ σ := ⟨r.1, fun i d e => by
  obtain ⟨v, h1, h2⟩ := r.2 i d e
  exact ⟨v, h1, Rep.up x d v h2⟩⟩
theorem RelE.set {N : Nm} {w : Wd} {ρ : Env} {σ : St} {i : Nat} {d : D} {v : V} (r : RelE N w ρ σ) (q : Rep N w d v) : RelE N w (ρ.set i (some d)) (σ.set i (some v)) := ⟨by rw [List.length_set, List.length_set, r.1], fun j e h => by
  by_cases hj : i = j
  · subst hj
    have hl : i < ρ.length := by
      have := (List.getElem?_eq_some_iff.mp h).1
      rwa [List.length_set] at this
    rw [List.getElem?_set_self hl] at h
    cases h
    exact ⟨v, List.getElem?_set_self (by rw [← r.1]; exact hl), q⟩
  · rw [List.getElem?_set_ne hj] at h
    obtain ⟨u, h1, h2⟩ := r.2 j e h
    exact ⟨u, by rw [List.getElem?_set_ne hj]; exact h1, h2⟩⟩
/-- a caught exception's fields stand in its own dict -/
def XRep (N : Nm) (w : Wd) (c : Nat) (fs : List (Nat × D)) (cls : Value) (d : Option Addr) (H : Hp) : Prop :=
  cls = .ref (N.ca c) ∧ match fs with
    | [] => d = none
    | fs => ∃ a fv, d = some a ∧ H a = some (.xd fv) ∧ Repf N w fs fv

/-! ### what is asked -/
def Post {α β : Type} (N : Nm) (Rl : Wd → α → β → Prop) (W : WX) (w : Wd) (σ : St) (Q : β → Hp → Prop) : R α → Prop
  | .ok d h' => ∀ w' H' v, w.le w' → RelH N w' h' H' → Rl w' d v → Q v H'
  | .xc c fs h' => ∀ w' H' cls dd, w.le w' → RelH N w' h' H' → XRep N w' c fs cls dd H' → W cls dd σ H'
  | .no => False
theorem Post.up {α β : Type} {N : Nm} {Rl : Wd → α → β → Prop} {W : WX} {w w' : Wd} {σ : St} {Q : β → Hp → Prop} (x : w.le w') : ∀ {r : R α}, Post N Rl W w σ Q r → Post N Rl W w' σ Q r
  | .ok _ _, p => fun w2 H' v l => p w2 H' v (x.trans l)
  | .xc _ _ _, p => fun w2 H' c d l => p w2 H' c d (x.trans l)
  | .no, p => p
theorem Post.mono {α β : Type} {N : Nm} {Rl : Wd → α → β → Prop} {W : WX} {w : Wd} {σ : St} {Q Q' : β → Hp → Prop} (hq : ∀ v H, Q v H → Q' v H) : ∀ {r : R α}, Post N Rl W w σ Q r → Post N Rl W w σ Q' r
  | .ok _ _, p => fun w2 H' v l r1 r2 => hq _ _ (p w2 H' v l r1 r2)
  | .xc _ _ _, p => p
  | .no, p => p
/-- what a meaning m asks -/
def TDg {α β : Type} (N : Nm) (Rl : Wd → α → β → Prop) (m : M α) (W : WX) : St → Hp → (β → Hp → Prop) → Prop := fun σ H Q =>
  ∃ w ρ h, RelH N w h H ∧ RelE N w ρ σ ∧ Post N Rl W w σ Q (m ρ h)
abbrev TD (N : Nm) (m : M D) (W : WX) : TE := TDg N (Rep N) m W
abbrev TDs (N : Nm) (m : M (List D)) (W : WX) : TA := TDg N (Reps N) m W
abbrev TDt (N : Nm) (m : M Bool) (W : WX) : TT := TDg N (fun _ a b => a = b) m W
/-- a first part, then the rest -/
theorem td_bind {α β γ δ : Type} {N : Nm} {Rl : Wd → α → β → Prop} {Rl2 : Wd → γ → δ → Prop} {m : M α} {f : α → Hs → R γ} {W : WX} {w : Wd} {ρ : Env} {h : Hs} {H : Hp} {σ : St} {Q : δ → Hp → Prop} (r1 : RelH N w h H) (r2 : RelE N w ρ σ)
    (p : Post N Rl2 W w σ Q ((m ρ h).bind f)) : TDg N Rl m W σ H (fun v H1 => ∃ w1 h1 x, w.le w1 ∧ RelH N w1 h1 H1 ∧ RelE N w1 ρ σ ∧ Rl w1 x v ∧ Post N Rl2 W w1 σ Q (f x h1)) := by
  refine ⟨w, ρ, h, r1, r2, ?_⟩
  cases e : m ρ h with
  | ok x h1 =>
    rw [e] at p
    exact fun w1 H1 v l q1 q2 => ⟨w1, h1, x, l, q1, r2.up l, q2, Post.up l p⟩
  | xc c fs h1 =>
    rw [e] at p
    exact p
  | no =>
    rw [e] at p
    exact p
/-- weaker wishes -/
theorem TDg.imp {α β : Type} {N : Nm} {Rl : Wd → α → β → Prop} {m : M α} {W : WX} {σ : St} {H : Hp} {Q Q' : β → Hp → Prop} (t : TDg N Rl m W σ H Q) (h : ∀ v H, Q v H → Q' v H) : TDg N Rl m W σ H Q' := by
  obtain ⟨w, ρ, hh, r1, r2, p⟩ := t
  exact ⟨w, ρ, hh, r1, r2, Post.mono h p⟩
/-- what is asked of a statement -/
def PostS (N : Nm) (W : WX) (w : Wd) (Dn : Ends) : Out → Prop
  | .nx ρ' h' => ∀ w' σ' H', w.le w' → RelH N w' h' H' → RelE N w' ρ' σ' → Dn.nx σ' H'
  | .bk ρ' h' => ∀ w' σ' H', w.le w' → RelH N w' h' H' → RelE N w' ρ' σ' → Dn.bk σ' H'
  | .ct ρ' h' => ∀ w' σ' H', w.le w' → RelH N w' h' H' → RelE N w' ρ' σ' → Dn.ct σ' H'
  | .rt d h' => ∀ w' H' v, w.le w' → RelH N w' h' H' → Rep N w' d v → Dn.rt v H'
  | .xc c fs ρ' h' => ∀ w' σ' H' cls dd, w.le w' → RelH N w' h' H' → RelE N w' ρ' σ' → XRep N w' c fs cls dd H' → W cls dd σ' H'
  | .no => False
theorem PostS.up {N : Nm} {W : WX} {w w' : Wd} {Dn : Ends} (x : w.le w') : ∀ {r : Out}, PostS N W w Dn r → PostS N W w' Dn r
  | .nx _ _, p => fun w2 s H' l => p w2 s H' (x.trans l)
  | .bk _ _, p => fun w2 s H' l => p w2 s H' (x.trans l)
  | .ct _ _, p => fun w2 s H' l => p w2 s H' (x.trans l)
  | .rt _ _, p => fun w2 H' v l => p w2 H' v (x.trans l)
  | .xc _ _ _ _, p => fun w2 s H' c d l => p w2 s H' c d (x.trans l)
  | .no, p => p
def TDS (N : Nm) (b : B) (W : WX) : TS := fun Dn σ H => ∃ w ρ h, RelH N w h H ∧ RelE N w ρ σ ∧ PostS N W w Dn (b ρ h)
theorem td_out {α β : Type} {N : Nm} {Rl : Wd → α → β → Prop} {m : M α} {f : α → Hs → Out} {W : WX} {w : Wd} {ρ : Env} {h : Hs} {H : Hp} {σ : St} {Dn : Ends} (r1 : RelH N w h H) (r2 : RelE N w ρ σ)
    (p : PostS N W w Dn ((m ρ h).out ρ f)) : TDg N Rl m W σ H (fun v H1 => ∃ w1 h1 x, w.le w1 ∧ RelH N w1 h1 H1 ∧ RelE N w1 ρ σ ∧ Rl w1 x v ∧ PostS N W w1 Dn (f x h1)) := by
  refine ⟨w, ρ, h, r1, r2, ?_⟩
  cases e : m ρ h with
  | ok x h1 =>
    rw [e] at p
    exact fun w1 H1 v l q1 q2 => ⟨w1, h1, x, l, q1, r2.up l, q2, PostS.up l p⟩
  | xc c fs h1 =>
    rw [e] at p
    exact fun w1 H1 cls dd l q1 q2 => p w1 σ H1 cls dd l q1 (r2.up l) q2
  | no =>
    rw [e] at p
    exact p

/-! ### reading the heap -/
theorem sqT_none {K : PySem.W.Frag} {H : Hp} {a : Addr} {vs : List V} (h : SqT K (fun _ => none) a vs) : SqT K H a vs := by
  rcases h with (h | ⟨o, h⟩) | h
  · cases h
  · cases h
  · exact .inr h
theorem sqL_none {K : PySem.W.Frag} {H : Hp} {a : Addr} {vs : List V} (h : SqL K (fun _ => none) a vs) : SqL K H a vs := by
  rcases h with (h | ⟨o, h⟩) | h
  · cases h
  · cases h
  · exact .inr h
section
variable {N : Nm} {w : Wd} {h : Hs} {H : Hp}
theorem RelH.sqT (r : RelH N w h H) {a : Addr} {vs : List V} (s : TupAt N w a vs) : SqT N.K H a vs := by
  rcases s with s | s
  · exact .inl (.inl (r.imm _ _ s))
  · exact sqT_none s
theorem RelH.sqL (r : RelH N w h H) {a : Addr} {vs : List V} (s : LstAt w a vs) : H a = some (.lst vs) := r.imm _ _ s
theorem RelH.scr (r : RelH N w h H) {a : Addr} {vs : List V} (s : ScrAt N w a vs) : SqL N.K H a vs := by
  rcases s with ⟨o, s⟩ | s
  · exact .inl (.inr ⟨o, r.imm _ _ s⟩)
  · exact sqL_none s
/-- an object of the plain heap -/
theorem RelH.at_ (r : RelH N w h H) {n : Nat} {o : O} (e : h[n]? = some o) : ∃ a, w.io[n]? = some a ∧ ObRep N w o (H a) := by
  have hn : n < w.io.length := by rw [r.len]; exact (List.getElem?_eq_some_iff.mp e).1
  exact ⟨w.io[n], List.getElem?_eq_getElem hn, r.obj n _ o (List.getElem?_eq_getElem hn) e⟩
/-- a list: frozen, or of the heap -/
theorem RelH.lsu (r : RelH N w h H) {d : D} {v : V} {xs : List D} (q : Rep N w d v) (e : lsuOf h d = some xs) : ∃ a vs, v = .ref a ∧ H a = some (.lst vs) ∧ Reps N w xs vs := by
  unfold lsuOf at e
  split at e
  · obtain ⟨a, vs, e1, e2, e3⟩ := q
    cases e
    exact ⟨a, vs, e1, r.sqL e2, e3⟩
  · rename_i n
    obtain ⟨a, e1, e2⟩ := q
    split at e
    · rename_i ys e3
      cases e
      obtain ⟨b, e4, vs, e5, e6⟩ := r.at_ e3
      rw [e1] at e4
      cases e4
      exact ⟨a, vs, e2, e5, e6⟩
    · cases e
  · cases e
theorem RelH.lst (r : RelH N w h H) {d : D} {v : V} {xs : List D} (q : Rep N w d v) (e : lstOf h d = some xs) : ∃ a vs, v = .ref a ∧ SqL N.K H a vs ∧ Reps N w xs vs := by
  unfold lstOf at e
  split at e
  · obtain ⟨a, vs, e1, e2, e3⟩ := q
    cases e
    exact ⟨a, vs, e1, .of (r.sqL e2), e3⟩
  · obtain ⟨a, vs, e1, e2, e3⟩ := q
    cases e
    exact ⟨a, vs, e1, r.scr e2, e3⟩
  · rename_i n
    obtain ⟨a, e1, e2⟩ := q
    split at e
    · rename_i ys e3
      cases e
      obtain ⟨b, e4, vs, e5, e6⟩ := r.at_ e3
      rw [e1] at e4
      cases e4
      exact ⟨a, vs, e2, .of e5, e6⟩
    · cases e
  · cases e
/-- a tuple or a list -/
theorem RelH.seq (r : RelH N w h H) {d : D} {v : V} {xs : List D} (q : Rep N w d v) (e : seqOf h d = some xs) : ∃ a vs, v = .ref a ∧ (SqL N.K H a vs ∨ SqT N.K H a vs) ∧ Reps N w xs vs := by
  unfold seqOf at e
  split at e
  · obtain ⟨a, vs, e1, e2, e3⟩ := q
    cases e
    exact ⟨a, vs, e1, .inr (r.sqT e2), e3⟩
  · obtain ⟨a, vs, e1, e2, e3⟩ := r.lst q e
    exact ⟨a, vs, e1, .inl e2, e3⟩
end
theorem Reps.length {N : Nm} {w : Wd} : ∀ {xs : List D} {vs : List V}, Reps N w xs vs → vs.length = xs.length
  | [], _, h => by
    have h : _ = [] := h
    rw [h] <;> rfl
  | x :: xs, _, h => by
    obtain ⟨v, r, e, _, q⟩ := h
    rw [e, List.length_cons, List.length_cons, Reps.length q]
theorem Reps.get {N : Nm} {w : Wd} : ∀ {xs : List D} {vs : List V} {i : Nat} {x : D}, Reps N w xs vs → xs[i]? = some x → ∃ v, vs[i]? = some v ∧ Rep N w x v
  | [], _, _, _, _, e => by simp at e
  | y :: xs, _, 0, x, h, e => by
    obtain ⟨v, r, rfl, q, _⟩ := h
    simp at e
    subst e
    exact ⟨v, rfl, q⟩
  | y :: xs, _, i + 1, x, h, e => by
    obtain ⟨v, r, rfl, _, q⟩ := h
    obtain ⟨u, h1, h2⟩ := Reps.get (i := i) q (by simpa using e)
    exact ⟨u, by simpa using h1, h2⟩
theorem Reps.append {N : Nm} {w : Wd} : ∀ {xs ys : List D} {vs us : List V}, Reps N w xs vs → Reps N w ys us → Reps N w (xs ++ ys) (vs ++ us)
  | [], _, _, _, h, q => by
    have h : _ = [] := h
    subst h
    exact q
  | x :: xs, _, _, _, h, q => by
    obtain ⟨v, r, rfl, h1, h2⟩ := h
    exact ⟨v, _, rfl, h1, Reps.append h2 q⟩
theorem Reps.drop {N : Nm} {w : Wd} : ∀ {xs : List D} {vs : List V} (n : Nat), Reps N w xs vs → Reps N w (xs.drop n) (vs.drop n)
  | _, _, 0, h => h
  | [], _, n + 1, h => by
    have h : _ = [] := h
    subst h
    exact rfl
  | x :: xs, _, n + 1, h => by
    obtain ⟨v, r, rfl, h1, h2⟩ := h
    exact Reps.drop n h2
theorem Reps.take {N : Nm} {w : Wd} : ∀ {xs : List D} {vs : List V} (n : Nat), Reps N w xs vs → Reps N w (xs.take n) (vs.take n)
  | xs, vs, 0, h => by
    rw [List.take_zero, List.take_zero]
    exact rfl
  | [], _, n + 1, h => by
    have h : _ = [] := h
    subst h
    exact rfl
  | x :: xs, _, n + 1, h => by
    obtain ⟨v, r, rfl, h1, h2⟩ := h
    exact ⟨v, _, rfl, h1, Reps.take n h2⟩
theorem Reps.set {N : Nm} {w : Wd} : ∀ {xs : List D} {vs : List V} {x : D} {v : V} (n : Nat), Reps N w xs vs → Rep N w x v → Reps N w (xs.set n x) (vs.set n v)
  | [], _, _, _, n, h, _ => by
    have h : _ = [] := h
    subst h
    exact rfl
  | y :: xs, _, x, v, 0, h, q => by
    obtain ⟨u, r, rfl, h1, h2⟩ := h
    exact ⟨v, _, rfl, q, h2⟩
  | y :: xs, _, x, v, n + 1, h, q => by
    obtain ⟨u, r, rfl, h1, h2⟩ := h
    exact ⟨u, _, rfl, h1, Reps.set n h2 q⟩

/-! ### changing the heap -/
section
variable {N : Nm} {w : Wd} {h : Hs} {H : Hp}
/-- a new unchanging object -/
theorem RelH.newIm (r : RelH N w h H) {p : Addr} {u : HO} (hp : H p = none) : ∃ w', w.le w' ∧ w'.im p = some u ∧ RelH N w' h (upd H p u) := by
  have h1 : ∀ a, w.im a ≠ none → a ≠ p := fun a ha e => by
    subst e
    cases q : w.im a with
    | none => exact ha q
    | some o =>
      have z := r.imm a o q
      rw [hp] at z
      cases z
  have h2 : ∀ n o a, w.io[n]? = some a → h[n]? = some o → a ≠ p := fun n o a e1 e2 e => by
    subst e
    have z := r.obj n a o e1 e2
    rw [hp] at z
    cases o with
    | lst xs => obtain ⟨_, e, _⟩ := z; cases e
    | dct xs => obtain ⟨_, e, _⟩ := z; cases e
    | ins c xs => obtain ⟨_, _, e, _⟩ := z; cases e
  have h3 : p ∉ w.io := fun hm => by
    obtain ⟨n, hn, e⟩ := List.getElem_of_mem hm
    have e2 : w.io[n]? = some p := by rw [List.getElem?_eq_getElem hn, e]
    have hn2 : n < h.length := by rw [← r.len]; exact hn
    exact h2 n h[n] p e2 (List.getElem?_eq_getElem hn2) rfl
  have le : w.le ⟨w.io, upd w.im p u, w.pv⟩ := ⟨⟨[], by simp⟩, fun a o e => by show upd w.im p u a = some o; rw [upd_ne (h1 a (by rw [e]; simp))]; exact e, fun _ _ e => e⟩
  refine ⟨⟨w.io, upd w.im p u, w.pv⟩, le, upd_same, ?_⟩
  refine ⟨fun a o e => ?_, fun a o e => ?_, r.len, r.nod, fun a ha => ?_, fun n a o e1 e2 => ?_⟩
  · by_cases hap : a = p
    · subst hap
      have e : upd w.im a u a = some o := e
      rw [upd_same] at e
      rw [upd_same]
      exact e
    · have e : upd w.im p u a = some o := e
      rw [upd_ne hap] at e
      rw [upd_ne hap]
      exact r.imm a o e
  · obtain ⟨z1, z2, z3⟩ := r.prv a o e
    have hap : a ≠ p := fun z => by
      subst z
      rw [hp] at z1
      cases z1
    refine ⟨by rw [upd_ne hap]; exact z1, ?_, z3⟩
    show upd w.im p u a = none
    rw [upd_ne hap]
    exact z2
  · have ha : a ∈ w.io := ha
    have hne : a ≠ p := fun e => h3 (by rw [← e]; exact ha)
    show upd w.im p u a = none
    rw [upd_ne hne]
    exact r.sep a ha
  · rw [upd_ne (h2 n o a e1 e2)]
    exact ObRep.up le o _ (r.obj n a o e1 e2)
/-- a new object of the plain heap -/
theorem RelH.newOb (r : RelH N w h H) {p : Addr} {u : HO} {o : O} (hp : H p = none) (q : ObRep N w o (some u)) : ∃ w', w.le w' ∧ w'.io[h.length]? = some p ∧ RelH N w' (h ++ [o]) (upd H p u) := by
  have h1 : w.im p = none := by
    cases q : w.im p with
    | none => rfl
    | some o =>
      have z := r.imm p o q
      rw [hp] at z
      cases z
  have h2 : ∀ n o a, w.io[n]? = some a → h[n]? = some o → a ≠ p := fun n o a e1 e2 e => by
    subst e
    have z := r.obj n a o e1 e2
    rw [hp] at z
    cases o with
    | lst xs => obtain ⟨_, e, _⟩ := z; cases e
    | dct xs => obtain ⟨_, e, _⟩ := z; cases e
    | ins c xs => obtain ⟨_, _, e, _⟩ := z; cases e
  have h3 : p ∉ w.io := fun hm => by
    obtain ⟨n, hn, e⟩ := List.getElem_of_mem hm
    have e2 : w.io[n]? = some p := by rw [List.getElem?_eq_getElem hn, e]
    have hn2 : n < h.length := by rw [← r.len]; exact hn
    exact h2 n h[n] p e2 (List.getElem?_eq_getElem hn2) rfl
  have le : w.le ⟨w.io ++ [p], w.im, w.pv⟩ := ⟨⟨[p], rfl⟩, fun _ _ e => e, fun _ _ e => e⟩
  refine ⟨⟨w.io ++ [p], w.im, w.pv⟩, le, ?_, fun a o e => ?_, fun a o e => ?_, ?_, ?_, fun a ha => ?_, fun n a o' e1 e2 => ?_⟩
  · rw [← r.len]
    exact List.getElem?_concat_length
  · have hap : a ≠ p := fun z => by
      subst z
      have e : w.im a = some o := e
      rw [h1] at e
      cases e
    rw [upd_ne hap]
    exact r.imm a o e
  · obtain ⟨z1, z2, z3⟩ := r.prv a o e
    have hap : a ≠ p := fun z => by
      subst z
      rw [hp] at z1
      cases z1
    refine ⟨by rw [upd_ne hap]; exact z1, z2, fun hm => ?_⟩
    rcases List.mem_append.mp hm with hm | hm
    · exact z3 hm
    · exact hap (by simpa using hm)
  · show (w.io ++ [p]).length = (h ++ [o]).length
    rw [List.length_append, List.length_append, r.len]
    rfl
  · show (w.io ++ [p]).Nodup
    rw [List.nodup_append]
    exact ⟨r.nod, by simp, fun a ha b hb => by
      have hb : b = p := by simpa using hb
      subst hb
      exact fun e => h3 (by rw [← e]; exact ha)⟩
  · rcases List.mem_append.mp ha with ha | ha
    · exact r.sep a ha
    · have ha : a = p := by simpa using ha
      subst ha
      exact h1
  · have e1 : (w.io ++ [p])[n]? = some a := e1
    by_cases hn : n < w.io.length
    · rw [List.getElem?_append_left hn] at e1
      rw [List.getElem?_append_left (by rw [← r.len]; exact hn)] at e2
      rw [upd_ne (h2 n o' a e1 e2)]
      exact ObRep.up le o' _ (r.obj n a o' e1 e2)
    · have hn2 : n = w.io.length := by
        have := (List.getElem?_eq_some_iff.mp e1).1
        rw [List.length_append] at this
        simp at this
        omega
      subst hn2
      rw [List.getElem?_concat_length] at e1
      cases e1
      rw [r.len, List.getElem?_concat_length] at e2
      cases e2
      rw [upd_same]
      exact ObRep.up le _ _ q
/-- an object is changed -/
theorem RelH.put (r : RelH N w h H) {n : Nat} {a : Addr} {u : HO} {o : O} (e : w.io[n]? = some a) (q : ObRep N w o (some u)) : RelH N w (h.set n o) (upd H a u) := by
  have ha : a ∈ w.io := List.mem_of_getElem? e
  have h1 := r.sep a ha
  refine ⟨fun b v z => ?_, fun b v z => ?_, by rw [List.length_set]; exact r.len, r.nod, r.sep, fun m b o' e1 e2 => ?_⟩
  · have hb : b ≠ a := fun y => by
      subst y
      rw [h1] at z
      cases z
    rw [upd_ne hb]
    exact r.imm b v z
  · obtain ⟨z1, z2, z3⟩ := r.prv b v z
    have hb : b ≠ a := fun y => by
      subst y
      exact z3 ha
    exact ⟨by rw [upd_ne hb]; exact z1, z2, z3⟩
  · by_cases hm : n = m
    · subst hm
      rw [e] at e1
      cases e1
      rw [List.getElem?_set_self (by rw [← r.len]; exact (List.getElem?_eq_some_iff.mp e).1)] at e2
      cases e2
      rw [upd_same]
      exact q
    · rw [List.getElem?_set_ne hm] at e2
      have hb : b ≠ a := fun y => by
        subst y
        obtain ⟨l1, q1⟩ := List.getElem?_eq_some_iff.mp e
        obtain ⟨l2, q2⟩ := List.getElem?_eq_some_iff.mp e1
        exact hm ((List.getElem_inj r.nod).mp (q1.trans q2.symm))
      rw [upd_ne hb]
      exact r.obj m b o' e1 e2
end
end DN

set_option Elab.async false
set_option linter.all false
set_option maxRecDepth 100000
/-! D2: the expressions' meanings are kept by the machine. -/
namespace DN
open PySem PySem.Spec L2
open PyProof.Rows hiding St

theorem pe_imp {X : Cx} {e : Expr} {t t' : TE} (h : PE X e t) (k : ∀ σ H Q, t' σ H Q → t σ H Q) : PE X e t' := ⟨fun pins s σ H Q I q => h.run pins s σ H Q I (k σ H Q q)⟩
theorem pt_imp {X : Cx} {e : Expr} {t t' : TT} (h : PT X e t) (k : ∀ σ H Q, t' σ H Q → t σ H Q) : PT X e t' := ⟨fun pins s σ H Q I q => h.run pins s σ H Q I (k σ H Q q)⟩
theorem pa_imp {X : Cx} {e : List Expr} {t t' : TA} (h : PA X e t) (k : ∀ σ H Q, t' σ H Q → t σ H Q) : PA X e t' := ⟨fun pos pins s σ H Q I q => h.run pos pins s σ H Q I (k σ H Q q)⟩
theorem ps_imp {X : Cx} {e : Stmt} {t t' : TS} (h : PS X e t) (k : ∀ Dn σ H, t' Dn σ H → t Dn σ H) : PS X e t' := ⟨fun pins s σ H Dn I q => h.run pins s σ H Dn I (k Dn σ H q)⟩
theorem pss_imp {X : Cx} {e : List Stmt} {t t' : TS} (h : PSs X e t) (k : ∀ Dn σ H, t' Dn σ H → t Dn σ H) : PSs X e t' := ⟨fun pins s σ H Dn I q => h.run pins s σ H Dn I (k Dn σ H q)⟩

theorem SZ_eq : SZ = sizeLine := by rw [sizeLine_eq]; rfl

section
variable {N : Nm} {W : WX} {w : Wd} {h : Hs} {H : Hp} {σ : St} {Q : VK}
theorem post_val {d : D} {v : V} (p : Post N (Rep N) W w σ Q (.ok d h)) (r : RelH N w h H) (q : Rep N w d v) : Q v H := p w H v (Wd.le.refl w) r q
theorem post_mkT {xs : List D} {vs : List V} (r : RelH N w h H) (q : Reps N w xs vs) (p : Post N (Rep N) W w σ Q (mkT xs h)) : vs.length ≤ sizeLine ∧ ∀ a, H a = none → Q (.ref a) (upd H a (.tup vs)) := by
  unfold mkT at p
  split at p
  · rename_i hz
    refine ⟨by rw [q.length, ← SZ_eq]; exact hz, fun a ha => ?_⟩
    obtain ⟨w', l, e, r'⟩ := r.newIm (u := .tup vs) ha
    exact p w' _ _ l r' ⟨a, vs, rfl, .inl e, Reps.up l _ _ q⟩
  · exact p.elim
theorem post_mkL {hp : Bool} {xs : List D} {vs : List V} (r : RelH N w h H) (q : Reps N w xs vs) (p : Post N (Rep N) W w σ Q (mkL hp xs h)) : vs.length ≤ sizeLine ∧ ∀ a, H a = none → Q (.ref a) (upd H a (.lst vs)) := by
  unfold mkL at p
  split at p
  · rename_i hz
    refine ⟨by rw [q.length, ← SZ_eq]; exact hz, fun a ha => ?_⟩
    split at p
    · obtain ⟨w', l, e, r'⟩ := r.newOb (u := .lst vs) (o := .lst xs) ha ⟨vs, rfl, q⟩
      exact p w' _ _ l r' ⟨a, e, rfl⟩
    · obtain ⟨w', l, e, r'⟩ := r.newIm (u := .lst vs) ha
      exact p w' _ _ l r' ⟨a, vs, rfl, e, Reps.up l _ _ q⟩
  · exact p.elim
end

/-! ### operators -/
def OpS (N : Nm) (r : R2) (g : D → D → Hs → R D) : Prop := ∀ (W : WX) (w : Wd) (h : Hs) (H : Hp) (σ : St) (x y : D) (v u : V) (Q : VK), RelH N w h H → Rep N w x v → Rep N w y u → Post N (Rep N) W w σ Q (g x y h) → r v u H Q
section
variable {X : Cx} {N : Nm} {W : WX} {ma mb mc : M D} {e a b c : Expr} {pos : Pos}
theorem td_op {r : R2} {g : D → D → Hs → R D} (hs : OpS N r g) (σ : St) (H : Hp) (Q : VK) (t : TD N (mOp g ma mb) W σ H Q) : tOp r (TD N ma W) (TD N mb W) σ H Q := by
  obtain ⟨w, ρ, h, r1, r2, p⟩ := t
  refine TDg.imp (td_bind (m := ma) r1 r2 p) fun v H1 ⟨w1, h1, x, l1, q1, q2, q3, p1⟩ => ?_
  refine TDg.imp (td_bind (m := mb) q1 q2 p1) fun u H2 ⟨w2, h2, y, l2, q4, q5, q6, p2⟩ => ?_
  exact hs W w2 h2 H2 σ x y v u Q q4 (Rep.up l2 _ _ q3) q6 p2
theorem snd_bin {op : Operator} {r : R2} {g : D → D → Hs → R D} (ho : OpR X (binaryOp op) r) (hs : OpS N r g) (ha : PE X a (TD N ma W)) (hb : PE X b (TD N mb W)) : PE X (.BinOp a op b pos) (TD N (mOp g ma mb) W) :=
  pe_imp (pe_op ho ha hb) (td_op hs)
theorem snd_cmp {op : CmpOp} {r : R2} {g : D → D → Hs → R D} (ho : OpR X (compareOp op) r) (hs : OpS N r g) (ha : PE X a (TD N ma W)) (hb : PE X b (TD N mb W)) (hm : behindInMarks op b = false) : PE X (.Compare a [op] [b] pos) (TD N (mOp g ma mb) W) :=
  pe_imp (pe_cmpR ho ha hb hm) (td_op hs)
/-! literals, names -/
theorem snd_lit {v : V} {d : D} (hv : ∀ w, Rep N w d v) (he : PE X e (tC v)) : PE X e (TD N (mLit d) W) := pe_imp he fun σ H Q t => by
  obtain ⟨w, ρ, h, r1, r2, p⟩ := t
  exact post_val p r1 (hv w)
theorem snd_var {i : Nat} (he : PE X e (tVar i)) : PE X e (TD N (mVar i) W) := pe_imp he fun σ H Q t => by
  obtain ⟨w, ρ, h, r1, r2, p⟩ := t
  unfold mVar at p
  split at p
  · rename_i d hd
    obtain ⟨v, h1, h2⟩ := r2.2 i d hd
    exact ⟨v, h1, post_val p r1 h2⟩
  · exact p.elim
theorem snd_neg (ha : PE X a (TD N ma W)) : PE X (.UnaryOp .USub a pos) (TD N (mNeg ma) W) := pe_imp (pe_un un_neg ha) fun σ H Q t => by
  obtain ⟨w, ρ, h, r1, r2, p⟩ := t
  refine TDg.imp (td_bind (m := ma) r1 r2 p) fun v H1 ⟨w1, h1, x, l1, q1, q2, q3, p1⟩ => ?_
  cases x with
  | int i => exact ⟨i, q3, post_val p1 q1 rfl⟩
  | _ => exact p1.elim
end
/-! ### add and its like -/
def rAddA (K : PySem.W.Frag) : R2 := fun x y H Q => rI0 (fun i j => .int (i + j)) x y H Q ∨ (∃ i j, x = .str i ∧ y = .str j ∧ i.length + j.length ≤ sizeLine ∧ Q (.str (i ++ j)) H) ∨ rCatA K x y H Q ∨ rCat x y H Q
theorem op_addA {X : Cx} : OpR X (binaryOp .Add) (rAddA X.K) := op_add.or (op_add_str.or (op_catA.or op_cat))
theorem toS_append (a b : List Nat) : toS a ++ toS b = toS (a ++ b) := by
  show (⟨a.toArray ++ b.toArray⟩ : Str) = ⟨(a ++ b).toArray⟩
  rw [List.append_toArray]
theorem ops_add {N : Nm} (hp : Bool) : OpS N (rAddA N.K) (opAdd hp) := by
  intro W w h H σ x y v u Q r qx qy p
  unfold opAdd at p
  split at p
  · obtain rfl := qx
    obtain rfl := qy
    exact .inl ⟨_, _, rfl, rfl, post_val p r rfl⟩
  · obtain rfl := qx
    obtain rfl := qy
    split at p
    · rename_i hz
      refine .inr (.inl ⟨_, _, rfl, rfl, by rw [toS_length, toS_length, ← SZ_eq]; exact hz, ?_⟩)
      rw [toS_append]
      exact post_val p r rfl
    · exact p.elim
  · rename_i xs ys
    obtain ⟨a, vs, rfl, ta, ra⟩ := qx
    obtain ⟨b, us, rfl, tb, rb⟩ := qy
    split at p
    · rename_i hz
      have hz2 : vs.length + us.length ≤ sizeLine := by rw [ra.length, rb.length, ← SZ_eq]; exact hz
      refine .inr (.inr (.inl ⟨a, b, vs, us, rfl, rfl, r.sqT ta, r.sqT tb, hz2, fun e => ?_, fun _ e => ?_, fun _ _ q hq => ?_⟩))
      · subst e
        refine post_val p r ⟨b, us, rfl, tb, ?_⟩
        have := Reps.append ra rb
        simpa using this
      · subst e
        refine post_val p r ⟨a, vs, rfl, ta, ?_⟩
        have := Reps.append ra rb
        simpa using this
      · have p2 : Post N (Rep N) W w σ Q (mkT (xs ++ ys) h) := by
          unfold mkT
          rw [List.length_append, if_pos hz]
          exact p
        exact (post_mkT r (Reps.append ra rb) p2).2 q hq
    · exact p.elim
  · split at p
    · rename_i xs ys e1 e2
      obtain ⟨a, vs, rfl, ta, ra⟩ := r.lsu qx e1
      obtain ⟨b, us, rfl, tb, rb⟩ := r.lsu qy e2
      split at p
      · rename_i hz
        have hz2 : vs.length + us.length ≤ sizeLine := by rw [ra.length, rb.length, ← SZ_eq]; exact hz
        exact .inr (.inr (.inr ⟨a, b, vs, us, rfl, rfl, ta, tb, hz2, (post_mkL r (Reps.append ra rb) p).2⟩))
      · exact p.elim
    · exact p.elim
theorem ops_sub {N : Nm} : OpS N (rI0 fun i j => .int (i - j)) opSub := by
  intro W w h H σ x y v u Q r qx qy p
  unfold opSub at p
  split at p
  · exact ⟨_, _, qx, qy, post_val p r rfl⟩
  · exact p.elim
theorem Reps.replicate {N : Nm} {w : Wd} {xs : List D} {vs : List V} (r : Reps N w xs vs) : ∀ n : Nat, Reps N w (List.replicate n xs).flatten (List.replicate n vs).flatten
  | 0 => rfl
  | n + 1 => by
    rw [List.replicate_succ, List.replicate_succ, List.flatten_cons, List.flatten_cons]
    exact Reps.append r (Reps.replicate r n)
def rMulA : R2 := fun x y H Q => rI CMul (fun i j => .int (i * j)) x y H Q ∨ rRep x y H Q
theorem op_mulA {X : Cx} : OpR X (binaryOp .Mult) rMulA := op_mul.or op_rep
theorem ops_mul {N : Nm} (hp : Bool) : OpS N rMulA (opMul hp) := by
  intro W w h H σ x y v u Q r qx qy p
  unfold opMul at p
  split at p
  · split at p
    · rename_i hz
      exact .inl ⟨_, _, qx, qy, hz, post_val p r rfl⟩
    · exact p.elim
  · split at p
    · rename_i xs e1
      obtain ⟨a, vs, rfl, ta, ra⟩ := r.lsu qx e1
      split at p
      · rename_i hz
        obtain ⟨h1, h2, h3⟩ := hz
        exact .inr ⟨a, _, vs, rfl, qy, ta, h1, h2, by rw [ra.length, ← SZ_eq]; exact h3, (post_mkL r (ra.replicate _) p).2⟩
      · exact p.elim
    · exact p.elim
  · exact p.elim
theorem ops_fdiv {N : Nm} : OpS N (rI CDivN fun i j => .int (i.fdiv j)) opFdiv := by
  intro W w h H σ x y v u Q r qx qy p
  unfold opFdiv at p
  split at p
  · split at p
    · rename_i hz
      exact ⟨_, _, qx, qy, hz, post_val p r rfl⟩
    · exact p.elim
  · exact p.elim
theorem ops_mod {N : Nm} : OpS N (rI (fun _ j => j ≠ 0) fun i j => .int (i.fmod j)) opMod := by
  intro W w h H σ x y v u Q r qx qy p
  unfold opMod at p
  split at p
  · split at p
    · rename_i hz
      exact ⟨_, _, qx, qy, hz, post_val p r rfl⟩
    · exact p.elim
  · exact p.elim
theorem ops_pow {N : Nm} : OpS N (rI CPow fun i j => .int (i ^ j.toNat)) opPow := by
  intro W w h H σ x y v u Q r qx qy p
  unfold opPow at p
  split at p
  · split at p
    · rename_i hz
      exact ⟨_, _, qx, qy, hz, post_val p r rfl⟩
    · exact p.elim
  · exact p.elim
end DN

set_option Elab.async false
set_option linter.all false
set_option maxRecDepth 100000
/-! D3: comparisons, subscripts, slices, tests, rows. -/
namespace DN
open PySem PySem.Spec L2
open PyProof.Rows hiding St

/-! ### data -/
mutual
def D.pd : D → PyData
  | .non => .none
  | .bl b => .bool b
  | .int i => .int i
  | .str s => .str (toS s)
  | .tup xs => .tuple (D.pds xs)
  | .fl xs => .list (D.pds xs)
  | _ => .none
def D.pds : List D → List PyData
  | [] => []
  | x :: xs => D.pd x :: D.pds xs
end
theorem toS_beq (s t : List Nat) : (toS s == toS t) = (s == t) := by
  rw [Bool.eq_iff_iff, beq_iff_eq, beq_iff_eq]
  exact ⟨toS_inj, fun e => by rw [e]⟩
mutual
theorem eqv_pd : ∀ (n m : Nat) (x y : D), D.dat n x = true → D.dat m y = true → PyData.eqv x.pd y.pd = D.eqv x y
  | n, m, x, y, hx, hy => by
    cases x with
    | tup xs =>
      cases n with
      | zero => cases hx
      | succ n =>
        cases y with
        | tup ys =>
          cases m with
          | zero => cases hy
          | succ m => exact eqv_pds n m xs ys hx hy
        | _ => first | rfl | (cases m <;> cases hy)
    | fl xs =>
      cases n with
      | zero => cases hx
      | succ n =>
        cases y with
        | fl ys =>
          cases m with
          | zero => cases hy
          | succ m => exact eqv_pds n m xs ys hx hy
        | _ => first | rfl | (cases m <;> cases hy)
    | str a =>
      cases y with
      | str b => exact toS_beq a b
      | _ => first | rfl | (cases m <;> cases hy)
    | non => cases y <;> first | rfl | (cases m <;> cases hy)
    | bl b => cases y <;> first | rfl | (cases m <;> cases hy)
    | int b => cases y <;> first | rfl | (cases m <;> cases hy)
    | _ => cases n <;> cases hx
theorem eqv_pds : ∀ (n m : Nat) (x y : List D), D.dats n x = true → D.dats m y = true → PyData.eqvAll (D.pds x) (D.pds y) = D.eqvs x y
  | _, _, [], [], _, _ => rfl
  | _, _, [], _ :: _, _, _ => rfl
  | _, _, _ :: _, [], _, _ => rfl
  | n, m, x :: xs, y :: ys, hx, hy => by
    have hx : (D.dat n x && D.dats n xs) = true := hx
    have hy : (D.dat m y && D.dats m ys) = true := hy
    rw [Bool.and_eq_true] at hx hy
    show (PyData.eqv x.pd y.pd && PyData.eqvAll (D.pds xs) (D.pds ys)) = (D.eqv x y && D.eqvs xs ys)
    rw [eqv_pd n m x y hx.1 hy.1, eqv_pds n m xs ys hx.2 hy.2]
end
theorem strOk_toS (s : List Nat) (h : s.all (· < 1114112) = true) : PySem.PyData.strOk (toS s) = true := by
  show (toS s).cps.all _ = true
  rw [← Array.all_toList]
  exact h
mutual
theorem lay_pd : ∀ (n : Nat) (x : D), D.dat n x = true → PyData.canLay0 x.pd = true ∧ PyData.depth x.pd ≤ n
  | n, x, hx => by
    cases x with
    | tup xs =>
      cases n with
      | zero => cases hx
      | succ n =>
        obtain ⟨a, b⟩ := lay_pds n xs hx
        exact ⟨a, Nat.succ_le_succ b⟩
    | fl xs =>
      cases n with
      | zero => cases hx
      | succ n =>
        obtain ⟨a, b⟩ := lay_pds n xs hx
        exact ⟨a, Nat.succ_le_succ b⟩
    | str s =>
      refine ⟨strOk_toS s ?_, Nat.zero_le _⟩
      cases n <;> exact hx
    | non => exact ⟨rfl, Nat.zero_le _⟩
    | bl _ => exact ⟨rfl, Nat.zero_le _⟩
    | int _ => exact ⟨rfl, Nat.zero_le _⟩
    | _ => cases n <;> cases hx
theorem lay_pds : ∀ (n : Nat) (x : List D), D.dats n x = true → PyData.canLayAll0 (D.pds x) = true ∧ PyData.depthAll (D.pds x) ≤ n
  | n, [], _ => ⟨rfl, Nat.zero_le _⟩
  | n, x :: xs, hx => by
    have hx : (D.dat n x && D.dats n xs) = true := hx
    rw [Bool.and_eq_true] at hx
    obtain ⟨a, b⟩ := lay_pd n x hx.1
    obtain ⟨c, d⟩ := lay_pds n xs hx.2
    refine ⟨?_, ?_⟩
    · show (PyData.canLay0 x.pd && PyData.canLayAll0 (D.pds xs)) = true
      rw [a, c]
      rfl
    · show max (PyData.depth x.pd) (PyData.depthAll (D.pds xs)) ≤ n
      omega
end
theorem shaped_pd {x : D} (h : D.dat 64 x = true) : SeqAt.shaped x.pd = true := by
  obtain ⟨a, b⟩ := lay_pd 64 x h
  unfold SeqAt.shaped
  rw [a, decide_eq_true b]
  rfl
section
variable {N : Nm} {w : Wd} {h : Hs} {H : Hp}
mutual
theorem dp_of (r : RelH N w h H) : ∀ (n : Nat) (x : D) (v : V), D.dat n x = true → Rep N w x v → Dp N.K H v x.pd
  | n, x, v, hx, q => by
    cases x with
    | tup xs =>
      cases n with
      | zero => cases hx
      | succ n =>
        obtain ⟨a, vs, rfl, t, rs⟩ := q
        exact .tup (r.sqT t) (dps_of r n xs vs hx rs)
    | fl xs =>
      cases n with
      | zero => cases hx
      | succ n =>
        obtain ⟨a, vs, rfl, t, rs⟩ := q
        exact .lst (.of (r.sqL t)) (dps_of r n xs vs hx rs)
    | str s => obtain rfl := q; exact .str _
    | non => obtain rfl := q; exact .non
    | bl _ => obtain rfl := q; exact .bl _
    | int _ => obtain rfl := q; exact .int _
    | _ => cases n <;> cases hx
theorem dps_of (r : RelH N w h H) : ∀ (n : Nat) (x : List D) (v : List V), D.dats n x = true → Reps N w x v → DpAll N.K H v (D.pds x)
  | n, [], _, _, q => by
    obtain rfl := q
    exact .nil
  | n, x :: xs, _, hx, q => by
    have hx : (D.dat n x && D.dats n xs) = true := hx
    rw [Bool.and_eq_true] at hx
    obtain ⟨v, r', rfl, q1, q2⟩ := q
    exact .cons (dp_of r n x v hx.1 q1) (dps_of r n xs r' hx.2 q2)
end
theorem dp_dat (r : RelH N w h H) {x : D} {v : V} (q : Rep N w x v) (hx : D.dat 64 (datOf h x) = true) : Dp N.K H v (datOf h x).pd := by
  cases x with
  | ref n =>
    have hx : D.dat 64 (match h[n]? with
      | some (.lst xs) => .fl xs
      | _ => .ref n) = true := hx
    show Dp N.K H v (match h[n]? with
      | some (.lst xs) => D.fl xs
      | _ => .ref n).pd
    cases e : h[n]? with
    | none =>
      rw [e] at hx
      cases hx
    | some o =>
      rw [e] at hx
      cases o with
      | lst xs =>
        obtain ⟨a, e1, rfl⟩ := q
        obtain ⟨b, e4, vs, e5, e6⟩ := r.at_ e
        rw [e1] at e4
        cases e4
        exact .lst (.of e5) (dps_of r 63 xs vs hx e6)
      | _ => cases hx
  | _ => exact dp_of r 64 _ v hx q
end
/-! ### == and != -/
theorem scal_str (a b : List Nat) : scal (.str (toS a)) (.str (toS b)) = true := rfl
theorem dec_strL (a b : List Nat) : decide (V.str (toS a) = V.str (toS b)) = (a == b) := by
  rw [Bool.eq_iff_iff, decide_eq_true_eq, beq_iff_eq]
  exact ⟨fun e => toS_inj (V.str.inj e), fun e => by rw [e]⟩
def rEqA (K : PySem.W.Frag) : R2 := fun x y H Q => rEq x y H Q ∨ rEqD K x y H Q
def rNeA (K : PySem.W.Frag) : R2 := fun x y H Q => rNe x y H Q ∨ rNeD K x y H Q
theorem op_eqA {X : Cx} (hu : X.A.units + 64 < cLine) : OpR X (compareOp .Eq) (rEqA X.K) := op_eq.or (op_eqD hu)
theorem op_neA {X : Cx} (hu : X.A.units + 64 < cLine) : OpR X (compareOp .NotEq) (rNeA X.K) := op_ne.or (op_neD hu)
theorem eqD_cases {N : Nm} {w : Wd} {h : Hs} {H : Hp} {x y : D} {v u : V} {b : Bool} (r : RelH N w h H) (qx : Rep N w x v) (qy : Rep N w y u) (e : eqD h x y = some b) :
    (scal v u = true ∧ decide (v = u) = b) ∨ ∃ d e, Dp N.K H v d ∧ Dp N.K H u e ∧ SeqAt.shaped d = true ∧ SeqAt.shaped e = true ∧ PyData.eqv d e = b := by
  unfold eqD at e
  split at e
  · obtain rfl := qx
    obtain rfl := qy
    cases e
    exact .inl ⟨rfl, dec_strL _ _⟩
  · split at e
    · rename_i hd
      rw [Bool.and_eq_true] at hd
      cases e
      exact .inr ⟨_, _, dp_dat r qx hd.1, dp_dat r qy hd.2, shaped_pd hd.1, shaped_pd hd.2, eqv_pd 64 64 _ _ hd.1 hd.2⟩
    · cases e
theorem ops_eq {N : Nm} : OpS N (rEqA N.K) (opCmp .eq) := by
  intro W w h H σ x y v u Q r qx qy p
  unfold opCmp cmpD at p
  split at p
  · rename_i b e
    rcases eqD_cases r qx qy e with ⟨h1, h2⟩ | ⟨d, e', h1, h2, h3, h4, h5⟩
    · exact .inl ⟨h1, by rw [h2]; exact post_val p r rfl⟩
    · exact .inr ⟨d, e', h1, h2, h3, h4, by rw [h5]; exact post_val p r rfl⟩
  · exact p.elim
theorem ops_ne {N : Nm} : OpS N (rNeA N.K) (opCmp .ne) := by
  intro W w h H σ x y v u Q r qx qy p
  unfold opCmp cmpD at p
  split at p
  · rename_i b e
    cases e1 : eqD h x y with
    | none =>
      rw [e1] at e
      cases e
    | some c =>
      rw [e1] at e
      cases e
      rcases eqD_cases r qx qy e1 with ⟨h1, h2⟩ | ⟨d, e', h1, h2, h3, h4, h5⟩
      · exact .inl ⟨h1, by rw [h2]; exact post_val p r rfl⟩
      · exact .inr ⟨d, e', h1, h2, h3, h4, by rw [h5]; exact post_val p r rfl⟩
  · exact p.elim
/-! ### < and its like -/
def rCmpA (f : Int → Int → Bool) (g : List Nat → List Nat → Bool) : R2 := fun x y H Q => rI0 (fun i j => .bl (f i j)) x y H Q ∨ (∃ i j, x = .str i ∧ y = .str j ∧ Q (.bl (g i.cps.toList j.cps.toList)) H)
theorem op_ltA {X : Cx} : OpR X (compareOp .Lt) (rCmpA (fun i j => decide (i < j)) fun i j => decide (i < j)) := op_lt.or op_lt_str
theorem op_leA {X : Cx} : OpR X (compareOp .LtE) (rCmpA (fun i j => decide (i ≤ j)) fun i j => !decide (j < i)) := op_le.or op_le_str
theorem op_gtA {X : Cx} : OpR X (compareOp .Gt) (rCmpA (fun i j => decide (j < i)) fun i j => decide (j < i)) := op_gt.or op_gt_str
theorem op_geA {X : Cx} : OpR X (compareOp .GtE) (rCmpA (fun i j => decide (j ≤ i)) fun i j => !decide (i < j)) := op_ge.or op_ge_str
theorem le_not_lt (a b : List Nat) : (!decide (b < a)) = decide (a ≤ b) := by
  by_cases h : b < a
  · rw [decide_eq_true h, decide_eq_false (List.not_le.mpr h)]
    rfl
  · rw [decide_eq_false h, decide_eq_true (List.not_lt.mp h)]
    rfl
theorem ops_cmp {N : Nm} {o : Cop} {f : Int → Int → Bool} {g : List Nat → List Nat → Bool} (hc : ∀ x y h, cmpD o x y h = match x, y with
    | .int a, .int b => some (f a b)
    | .str a, .str b => some (g a b)
    | _, _ => none) : OpS N (rCmpA f g) (opCmp o) := by
  intro W w h H σ x y v u Q r qx qy p
  unfold opCmp at p
  rw [hc] at p
  split at p
  · rename_i b e
    split at e
    · cases e
      exact .inl ⟨_, _, qx, qy, post_val p r rfl⟩
    · cases e
      exact .inr ⟨_, _, qx, qy, post_val p r rfl⟩
    · cases e
  · exact p.elim
theorem ops_lt {N : Nm} : OpS N (rCmpA (fun i j => decide (i < j)) fun i j => decide (i < j)) (opCmp .lt) := ops_cmp fun _ _ _ => rfl
theorem ops_gt {N : Nm} : OpS N (rCmpA (fun i j => decide (j < i)) fun i j => decide (j < i)) (opCmp .gt) := ops_cmp fun _ _ _ => rfl
theorem ops_le {N : Nm} : OpS N (rCmpA (fun i j => decide (i ≤ j)) fun i j => !decide (j < i)) (opCmp .le) := ops_cmp fun x y h => by
  cases x <;> cases y <;> first | rfl | exact congrArg some (le_not_lt _ _).symm
theorem ops_ge {N : Nm} : OpS N (rCmpA (fun i j => decide (j ≤ i)) fun i j => !decide (i < j)) (opCmp .ge) := ops_cmp fun x y h => by
  cases x <;> cases y <;> first | rfl | exact congrArg some (le_not_lt _ _).symm
/-! ### is -/
def rIsA (neg : Bool) : R2 := fun x y H Q => (y = .non ∧ Q (.bl (xor neg (decide (x = .non)))) H) ∨ ∃ b : Bool, y = .bl b ∧ Q (.bl (xor neg (decide (x = .bl b)))) H
theorem relV_bl {x : V} {v : Value} (r : RelV x v) (b : Bool) : (v = Value.bool b) ↔ x = .bl b := by
  constructor
  · intro e
    subst e
    exact r.inj rfl
  · intro e
    subst e
    exact r
theorem plain_bl {x : V} {v : Value} (r : RelV x v) {b : Bool} : plainIs v (Value.bool b) = true := by
  have e := r.abs
  cases v <;> first
    | rfl
    | cases e
theorem op_isA {X : Cx} : OpR X (compareOp .Is) (rIsA false) := by
  intro pins s σ H x y v u Q I rx ry h
  rcases h with ⟨rfl, q⟩ | ⟨b, rfl, q⟩
  · exact op_isN pins s σ H x _ v u Q I rx ry ⟨rfl, by simpa using q⟩
  · cases (show u = Value.bool b from ry)
    by_cases e : v = Value.bool b
    · subst e
      rw [(relV_bl rx b).mp rfl] at q
      exact wpAny_is_self rfl ⟨.bl true, H, I, rfl, by simpa using q⟩
    · have e2 : x ≠ .bl b := fun z => e ((relV_bl rx b).mpr z)
      refine wpAny_is_other (plain_bl rx) e ⟨.bl false, H, I, rfl, by simpa [e2] using q⟩
theorem op_isnotA {X : Cx} : OpR X (compareOp .IsNot) (rIsA true) := by
  intro pins s σ H x y v u Q I rx ry h
  rcases h with ⟨rfl, q⟩ | ⟨b, rfl, q⟩
  · exact op_notN pins s σ H x _ v u Q I rx ry ⟨rfl, by simpa using q⟩
  · cases (show u = Value.bool b from ry)
    by_cases e : v = Value.bool b
    · subst e
      rw [(relV_bl rx b).mp rfl] at q
      exact wpAny_isNot_self rfl ⟨.bl false, H, I, rfl, by simpa using q⟩
    · have e2 : x ≠ .bl b := fun z => e ((relV_bl rx b).mpr z)
      refine wpAny_isNot_other (plain_bl rx) e ⟨.bl true, H, I, rfl, by simpa [e2] using q⟩
theorem rep_non {N : Nm} {w : Wd} {d : D} {v : V} (q : Rep N w d v) : decide (v = .non) = (match d with | .non => true | _ => false) := by
  cases d with
  | non => obtain rfl := q; rfl
  | bl _ => obtain rfl := q; rfl
  | int _ => obtain rfl := q; rfl
  | str _ => obtain rfl := q; rfl
  | tup _ => obtain ⟨_, _, rfl, _⟩ := q; rfl
  | fl _ => obtain ⟨_, _, rfl, _⟩ := q; rfl
  | sl _ => obtain ⟨_, _, rfl, _⟩ := q; rfl
  | fd _ => obtain ⟨_, _, rfl, _⟩ := q; rfl
  | ref _ => obtain ⟨_, _, rfl⟩ := q; rfl
  | fn _ => obtain rfl := q; rfl
  | xc _ _ => exact q.elim
theorem rep_bl {N : Nm} {w : Wd} {d : D} {v : V} {b : Bool} (q : Rep N w d v) : decide (v = .bl b) = (match d with | .bl c => c == b | _ => false) := by
  cases d with
  | non => obtain rfl := q; rfl
  | bl c => obtain rfl := q; exact dec_bl
  | int _ => obtain rfl := q; rfl
  | str _ => obtain rfl := q; rfl
  | tup _ => obtain ⟨_, _, rfl, _⟩ := q; rfl
  | fl _ => obtain ⟨_, _, rfl, _⟩ := q; rfl
  | sl _ => obtain ⟨_, _, rfl, _⟩ := q; rfl
  | fd _ => obtain ⟨_, _, rfl, _⟩ := q; rfl
  | ref _ => obtain ⟨_, _, rfl⟩ := q; rfl
  | fn _ => obtain rfl := q; rfl
  | xc _ _ => exact q.elim
theorem isD_cases {N : Nm} {w : Wd} {x y : D} {v u : V} {b : Bool} (qx : Rep N w x v) (qy : Rep N w y u) (e : isD x y = some b) : (u = .non ∧ decide (v = .non) = b) ∨ ∃ c, u = .bl c ∧ decide (v = .bl c) = b := by
  unfold isD at e
  split at e
  · cases e
    exact .inl ⟨qy, by rw [rep_non qx]⟩
  · rename_i hne
    cases e
    refine .inl ⟨qy, ?_⟩
    rw [rep_non qx]
    split
    · exact absurd rfl hne
    · rfl
  · cases e
    exact .inr ⟨_, qy, by rw [rep_bl qx]⟩
  · rename_i hne
    cases e
    refine .inr ⟨_, qy, ?_⟩
    rw [rep_bl qx]
    split
    · exact absurd rfl (hne _)
    · rfl
  · cases e
theorem ops_is {N : Nm} : OpS N (rIsA false) (opCmp .isx) := by
  intro W w h H σ x y v u Q r qx qy p
  unfold opCmp cmpD at p
  split at p
  · rename_i b e
    rcases isD_cases qx qy e with ⟨h1, h2⟩ | ⟨c, h1, h2⟩
    · exact .inl ⟨h1, by rw [h2, Bool.false_xor]; exact post_val p r rfl⟩
    · exact .inr ⟨c, h1, by rw [h2, Bool.false_xor]; exact post_val p r rfl⟩
  · exact p.elim
theorem ops_isnot {N : Nm} : OpS N (rIsA true) (opCmp .isnot) := by
  intro W w h H σ x y v u Q r qx qy p
  unfold opCmp cmpD at p
  split at p
  · rename_i b e
    cases e1 : isD x y with
    | none =>
      rw [e1] at e
      cases e
    | some c =>
      rw [e1] at e
      cases e
      rcases isD_cases qx qy e1 with ⟨h1, h2⟩ | ⟨c, h1, h2⟩
      · exact .inl ⟨h1, by rw [h2, Bool.true_xor]; exact post_val p r rfl⟩
      · exact .inr ⟨c, h1, by rw [h2, Bool.true_xor]; exact post_val p r rfl⟩
  · exact p.elim
end DN

set_option Elab.async false
set_option linter.all false
set_option maxRecDepth 100000
/-! D4: in, subscripts, slices, tests, rows. -/
namespace DN
open PySem PySem.Spec L2
open PyProof.Rows hiding St

/-! ### keys -/
theorem KeyRep.kV {N : Nm} {w : Wd} {d : D} {k : Key} {v : V} (h : KeyRep d k) (q : Rep N w d v) : v = kV k := by
  cases d with
  | int i =>
    obtain rfl := q
    cases (show k = Sum.inl i from h)
    rfl
  | str s =>
    obtain rfl := q
    cases (show k = Sum.inr (toS s) from h)
    rfl
  | _ => exact h.elim
theorem keyRep_of {N : Nm} {w : Wd} {d : D} {v : V} (h : isKey d = true) (q : Rep N w d v) : ∃ k, KeyRep d k ∧ v = kV k := by
  cases d with
  | int i => exact ⟨Sum.inl i, rfl, q⟩
  | str s => exact ⟨Sum.inr (toS s), rfl, q⟩
  | _ => cases h
theorem keyEq_rep {a b : D} {k q : Key} (h : KeyRep a k) (h2 : KeyRep b q) : keyEq a b = decide (k = q) := by
  cases a with
  | int i =>
    cases (show k = Sum.inl i from h)
    cases b with
    | int j =>
      cases (show q = Sum.inl j from h2)
      rw [key_ll]
      rfl
    | str t =>
      cases (show q = Sum.inr (toS t) from h2)
      rw [key_lr]
      rfl
    | _ => exact h2.elim
  | str s =>
    cases (show k = Sum.inr (toS s) from h)
    cases b with
    | int j =>
      cases (show q = Sum.inl j from h2)
      rw [key_rl]
      rfl
    | str t =>
      cases (show q = Sum.inr (toS t) from h2)
      rw [key_rr]
      show (s == t) = _
      rw [← toS_beq, Bool.beq_eq_decide_eq]
    | _ => exact h2.elim
  | _ => exact h.elim
section
variable {N : Nm} {w : Wd} {h : Hs} {H : Hp}
theorem Repd.length : ∀ {xs : List (D × D)} {vs : List (Key × V)}, Repd N w xs vs → vs.length = xs.length
  | [], _, h => by
    have h : _ = [] := h
    rw [h] <;> rfl
  | (k, x) :: xs, _, h => by
    obtain ⟨q, v, r, e, _, _, q⟩ := h
    rw [e, List.length_cons, List.length_cons, Repd.length q]
theorem Repd.get {d : D} {k : Key} (hk : KeyRep d k) : ∀ {xs : List (D × D)} {vs : List (Key × V)}, Repd N w xs vs → match dget xs d with
    | some x => ∃ v, valV vs k = some v ∧ Rep N w x v
    | none => valV vs k = none
  | [], _, h => by
    have h : _ = [] := h
    rw [h]
    exact valV_nil
  | (k', x) :: xs, _, h => by
    obtain ⟨q, v, r, rfl, h1, h2, h3⟩ := h
    unfold dget
    rw [keyEq_rep h1 hk]
    by_cases e : q = k
    · rw [decide_eq_true e, if_pos rfl]
      exact ⟨v, valV_pos e, h2⟩
    · rw [decide_eq_false e, if_neg (by simp), valV_neg e]
      exact Repd.get hk h3
theorem RelH.dct (r : RelH N w h H) {d : D} {v : V} {kvs : List (D × D)} (q : Rep N w d v) (e : dctOf h d = some kvs) : ∃ a ks, v = .ref a ∧ H a = some (.dK ks) ∧ Repd N w kvs ks := by
  unfold dctOf at e
  split at e
  · obtain ⟨a, vs, e1, e2, e3⟩ := q
    cases e
    exact ⟨a, vs, e1, r.imm _ _ e2, e3⟩
  · rename_i n
    obtain ⟨a, e1, e2⟩ := q
    split at e
    · rename_i ys e3
      cases e
      obtain ⟨b, e4, vs, e5, e6⟩ := r.at_ e3
      rw [e1] at e4
      cases e4
      exact ⟨a, vs, e2, e5, e6⟩
    · cases e
  · cases e
end
/-! ### in -/
theorem flat_rep {N : Nm} {w : Wd} {d : D} {v : V} (q : Rep N w d v) (f : flatD d = true) : flatV v = true := by
  cases d with
  | non => obtain rfl := q; rfl
  | bl _ => obtain rfl := q; rfl
  | int _ => obtain rfl := q; rfl
  | str _ => obtain rfl := q; rfl
  | _ => cases f
theorem eqv_rep {N : Nm} {w : Wd} {d e : D} {v u : V} (q : Rep N w d v) (r : Rep N w e u) (f : flatD d = true) (g : flatD e = true) : eqV v u = D.eqv d e := by
  cases d with
  | non => obtain rfl := q; cases e <;> first | (obtain rfl := r; rfl) | cases g
  | bl _ => obtain rfl := q; cases e <;> first | (obtain rfl := r; rfl) | cases g
  | int _ => obtain rfl := q; cases e <;> first | (obtain rfl := r; rfl) | cases g
  | str a =>
    obtain rfl := q
    cases e with
    | str b => obtain rfl := r; exact toS_beq a b
    | _ => first | (obtain rfl := r; rfl) | cases g
  | _ => cases f
theorem flats_rep {N : Nm} {w : Wd} : ∀ {xs : List D} {vs : List V}, Reps N w xs vs → xs.all flatD = true → vs.all flatV = true
  | [], _, h, _ => by
    have h : _ = [] := h
    rw [h] <;> rfl
  | x :: xs, _, h, f => by
    obtain ⟨v, r, rfl, h1, h2⟩ := h
    rw [List.all_cons, Bool.and_eq_true] at f ⊢
    exact ⟨flat_rep h1 f.1, flats_rep h2 f.2⟩
theorem inV_rep {N : Nm} {w : Wd} {d : D} {v : V} (q : Rep N w d v) (f : flatD d = true) : ∀ {xs : List D} {vs : List V}, Reps N w xs vs → xs.all flatD = true → inV v vs = xs.any fun z => D.eqv z d
  | [], _, h, _ => by
    have h : _ = [] := h
    rw [h] <;> rfl
  | x :: xs, _, h, g => by
    obtain ⟨u, r, rfl, h1, h2⟩ := h
    rw [List.all_cons, Bool.and_eq_true] at g
    have ih := inV_rep q f h2 g.2
    unfold inV at ih ⊢
    rw [List.any_cons, List.any_cons, eqv_rep h1 q g.1 f, ih]
def rInA (K : PySem.W.Frag) (neg : Bool) : R2 := fun x y H Q => (∃ (c : Nat) (z : Str), x = .str ⟨#[c]⟩ ∧ y = .str z ∧ Q (.bl (xor neg (decide (c ∈ z.cps.toList)))) H) ∨ rIn K neg x y H Q ∨
  ∃ a o, y = .ref a ∧ DGet H a x o ∧ Q (.bl (xor neg o.isSome)) H
theorem op_inA {X : Cx} (hu : X.A.units + 1 < cLine) : OpR X (compareOp .In) (rInA X.K false) := by
  intro pins s σ H x y v u Q I rx ry h
  rcases h with ⟨c, z, rfl, rfl, q⟩ | h | ⟨a, o, rfl, g, q⟩
  · exact op_in_sign pins s σ H _ _ v u Q I rx ry ⟨c, z, rfl, rfl, by simpa using q⟩
  · exact op_in_seq pins s σ H x y v u Q I rx ry h
  · obtain rfl : u = Value.ref a := ry
    exact d_in hu I g rx fun s' I' => ⟨.bl o.isSome, H, I', rfl, by simpa using q⟩
theorem op_notInA {X : Cx} (hu : X.A.units + 1 < cLine) : OpR X (compareOp .NotIn) (rInA X.K true) := by
  intro pins s σ H x y v u Q I rx ry h
  rcases h with ⟨c, z, rfl, rfl, q⟩ | h | ⟨a, o, rfl, g, q⟩
  · exact op_notIn_sign pins s σ H _ _ v u Q I rx ry ⟨c, z, rfl, rfl, by simpa using q⟩
  · exact op_notIn_seq pins s σ H x y v u Q I rx ry h
  · obtain rfl : u = Value.ref a := ry
    exact d_notIn hu I g rx fun s' I' => ⟨.bl (!o.isSome), H, I', rfl, by simpa using q⟩
theorem inD_cases {N : Nm} {w : Wd} {h : Hs} {H : Hp} {x y : D} {v u : V} {b : Bool} (neg : Bool) {Q : VK} (r : RelH N w h H) (qx : Rep N w x v) (qy : Rep N w y u) (e : inD h x y = some b) (q : Q (.bl (xor neg b)) H) : rInA N.K neg v u H Q := by
  unfold inD at e
  split at e
  · rename_i c z
    obtain rfl := qx
    obtain rfl := qy
    cases e
    exact .inl ⟨c, toS z, rfl, rfl, q⟩
  · split at e
    · rename_i ys e1
      obtain ⟨a, vs, rfl, ha, hr⟩ := r.seq qy e1
      split at e
      · rename_i hf
        rw [Bool.and_eq_true] at hf
        cases e
        refine .inr (.inl ⟨a, vs, rfl, ha, flat_rep qx hf.1, flats_rep hr hf.2, ?_⟩)
        rw [inV_rep qx hf.1 hr hf.2]
        cases neg
        · simpa using q
        · simpa using q
      · cases e
    · split at e
      · rename_i kvs e1
        obtain ⟨a, ks, rfl, ha, hr⟩ := r.dct qy e1
        split at e
        · rename_i hk
          cases e
          obtain ⟨k, hk1, rfl⟩ := keyRep_of hk qx
          refine .inr (.inr ⟨a, valV ks k, rfl, .k ha, ?_⟩)
          have z := Repd.get hk1 hr
          split at z
          · rename_i d ed
            obtain ⟨u', h1, _⟩ := z
            rw [ed] at q
            rw [h1]
            exact q
          · rename_i ed
            rw [ed] at q
            rw [z]
            exact q
        · cases e
      · cases e
theorem ops_in {N : Nm} : OpS N (rInA N.K false) (opCmp .inn) := by
  intro W w h H σ x y v u Q r qx qy p
  unfold opCmp cmpD at p
  split at p
  · rename_i b e
    exact inD_cases false r qx qy e (by rw [Bool.false_xor]; exact post_val p r rfl)
  · exact p.elim
theorem ops_notin {N : Nm} : OpS N (rInA N.K true) (opCmp .notin) := by
  intro W w h H σ x y v u Q r qx qy p
  unfold opCmp cmpD at p
  split at p
  · rename_i b e
    cases e1 : inD h x y with
    | none =>
      rw [e1] at e
      cases e
    | some c =>
      rw [e1] at e
      cases e
      exact inD_cases true r qx qy e1 (by rw [Bool.true_xor]; exact post_val p r rfl)
  · exact p.elim
/-! ### subscripts -/
theorem ixD_eq (n : Nat) (i : Int) : ixD n i = ixN n i := rfl
theorem at_rep {N : Nm} {w : Wd} {xs : List D} {vs : List V} {i : Int} {d : D} (r : Reps N w xs vs) (e : (ixD xs.length i).bind (fun j => xs[j]?) = some d) : ∃ v, atI vs i = some v ∧ Rep N w d v := by
  unfold atI
  rw [r.length, ← ixD_eq]
  cases q : ixD xs.length i with
  | none =>
    rw [q] at e
    cases e
  | some j =>
    rw [q] at e
    obtain ⟨v, h1, h2⟩ := r.get (show xs[j]? = some d from e)
    exact ⟨v, h1, h2⟩
def rIxD : R2 := fun x y H Q => ∃ a v, x = .ref a ∧ DGet H a y (some v) ∧ Q v H
theorem ix_dict {X : Cx} (hu : X.A.units + 1 < cLine) : IxR X rIxD := by
  intro value slice pins s σ H x y v u Q I rx ry h hs
  obtain ⟨a, z, rfl, g, q⟩ := h
  obtain rfl : v = Value.ref a := rx
  exact tail_any (ops := [.ref a, u]) (dict_typeIs I g) PySem.F.slot_dict_getitem.lookup (d_getItem hu I g ry fun w' s3 I3 rw' => ⟨z, H, I3, rw', q⟩) hs
def rIxA (K : PySem.W.Frag) : R2 := fun x y H Q => rIx K x y H Q ∨ rIxD x y H Q
theorem ix_any {X : Cx} (hu : X.A.units + 1 < cLine) : IxR X (rIxA X.K) := ix_seq.or (ix_dict hu)
theorem ops_ix {N : Nm} : OpS N (rIxA N.K) opIx := by
  intro W w h H σ x y v u Q r qx qy p
  unfold opIx at p
  split at p
  · rename_i s i
    obtain rfl := qx
    obtain rfl := qy
    split at p
    · rename_i hz
      split at p
      · rename_i c e
        refine .inl (.inr (.inr ⟨toS s, i, c, rfl, rfl, by rw [toS_length, ← SZ_eq]; exact hz, e, post_val p r rfl⟩))
      · exact p.elim
    · exact p.elim
  · split at p
    · rename_i xs e1
      obtain ⟨a, vs, rfl, ha, hr⟩ := r.seq qx e1
      split at p
      · rename_i i _
        obtain rfl := qy
        split at p
        · rename_i d e2
          obtain ⟨v, h1, h2⟩ := at_rep hr e2
          have q := post_val p r h2
          rcases ha with ha | ha
          · exact .inl (.inl ⟨a, vs, i, v, rfl, rfl, ha, h1, q⟩)
          · exact .inl (.inr (.inl ⟨a, vs, i, v, rfl, rfl, ha, h1, q⟩))
        · exact p.elim
      · exact p.elim
    · split at p
      · rename_i kvs e1
        obtain ⟨a, ks, rfl, ha, hr⟩ := r.dct qx e1
        split at p
        · rename_i hk
          obtain ⟨k, hk1, rfl⟩ := keyRep_of hk qy
          split at p
          · rename_i d e2
            have z := Repd.get hk1 hr
            rw [e2] at z
            obtain ⟨v, h1, h2⟩ := z
            exact .inr ⟨a, v, rfl, .inl ⟨ks, k, .inl ha, rfl, h1.symm⟩, post_val p r h2⟩
          · exact p.elim
        · exact p.elim
      · exact p.elim
section
variable {X : Cx} {N : Nm} {W : WX} {ma mb mc : M D} {e a b c : Expr} {pos : Pos}
theorem snd_ix (hu : X.A.units + 1 < cLine) (hK : X.K = N.K) (ha : PE X a (TD N ma W)) (hb : PE X b (TD N mb W)) (hs : PlainIx b) : PE X (.Subscript a b pos) (TD N (mOp opIx ma mb) W) :=
  pe_imp (pe_ix (ix_any hu) ha hb hs) (by rw [hK]; exact td_op ops_ix)
end
/-! ### slices -/
theorem cut_rep {N : Nm} {w : Wd} {xs : List D} {vs : List V} (lo hi : Option Int) (r : Reps N w xs vs) : Reps N w (cutD xs lo hi) (cutV vs lo hi) := by
  unfold cutD cutV
  rw [r.length]
  exact (r.drop _).take _
def SlS (N : Nm) (rr : V → Option Int → Option Int → Hp → VK → Prop) (g : D → Option Int → Option Int → Hs → R D) : Prop := ∀ (W : WX) (w : Wd) (h : Hs) (H : Hp) (σ : St) (x : D) (lo hi : Option Int) (v : V) (Q : VK), RelH N w h H → Rep N w x v → Post N (Rep N) W w σ Q (g x lo hi h) → rr v lo hi H Q
def rSlAny (K : PySem.W.Frag) : V → Option Int → Option Int → Hp → VK → Prop := fun x lo hi H Q => rSlL K x lo hi H Q ∨ rSlA K x lo hi H Q ∨ rSlS x lo hi H Q
theorem sl_any {X : Cx} : SlR X (rSlAny X.K) := sl_list.or (sl_tupA.or sl_str)
theorem cut_len {α : Type} (xs : List α) (lo hi : Option Int) : (cutD xs lo hi).length ≤ xs.length := by
  unfold cutD
  rw [List.length_take, List.length_drop]
  omega
theorem sls_any {N : Nm} (hp : Bool) : SlS N (rSlAny N.K) (opSlc hp) := by
  intro W w h H σ x lo hi v Q r qx p
  unfold opSlc at p
  split at p
  · rename_i s
    obtain rfl := qx
    split at p
    · rename_i hz
      refine .inr (.inr ⟨toS s, rfl, by rw [toS_length, ← SZ_eq]; exact hz, ?_⟩)
      refine post_val p r ?_
      show V.str (cutS (toS s) lo hi) = V.str (toS (cutD s lo hi))
      unfold cutS cutD
      rw [toS_length]
      rfl
    · exact p.elim
  · rename_i xs
    obtain ⟨a, vs, rfl, ha, hr⟩ := qx
    refine .inr (.inl ⟨a, vs, rfl, r.sqT ha, fun e => ?_, fun e q hq => ?_⟩)
    · refine post_val p r ⟨a, vs, rfl, ha, ?_⟩
      have e1 : cutD xs lo hi = xs := by
        unfold cutD
        rw [hr.length] at e
        obtain ⟨e1, e2⟩ := e
        rw [show sixD xs.length 0 lo = 0 from e1, show sixD xs.length xs.length hi = xs.length from e2]
        simp
      rw [e1]
      exact hr
    · obtain ⟨w', l, e1, r'⟩ := r.newIm (u := .tup (cutV vs lo hi)) hq
      exact p w' _ _ l r' ⟨q, _, rfl, .inl e1, Reps.up l _ _ (cut_rep lo hi hr)⟩
  · split at p
    · rename_i xs e
      obtain ⟨a, vs, rfl, ha, hr⟩ := r.lst qx e
      exact .inl ⟨a, vs, rfl, ha, (post_mkL r (cut_rep lo hi hr) p).2⟩
    · exact p.elim
section
variable {X : Cx} {N : Nm} {W : WX} {ma mb mc : M D} {e a b c : Expr} {pos : Pos}
theorem snd_part0 : PO X none (TDg N (fun _ x y => x = y) (mPart none) W) := ⟨fun pins s σ H Q I t => po_none.run pins s σ H Q I (by
  obtain ⟨w, ρ, h, r1, r2, p⟩ := t
  exact p w H none (Wd.le.refl w) r1 rfl)⟩
theorem snd_part1 (ha : PE X a (TD N ma W)) : PO X (some a) (TDg N (fun _ x y => x = y) (mPart (some ma)) W) := ⟨fun pins s σ H Q I t => (po_some ha).run pins s σ H Q I (by
  obtain ⟨w, ρ, h, r1, r2, p⟩ := t
  refine TDg.imp (td_bind (m := ma) r1 r2 p) fun v H1 ⟨w1, h1, x, l1, q1, q2, q3, p1⟩ => ?_
  cases x with
  | int i => exact ⟨i, q3, p1 w1 H1 _ (Wd.le.refl w1) q1 rfl⟩
  | _ => exact p1.elim)⟩
theorem snd_slc (hp : Bool) (hK : X.K = N.K) {lo hi : Option Expr} {ml mh : Option (M D)} {p2 : Pos} (ha : PE X a (TD N ma W)) (hl : PO X lo (TDg N (fun _ x y => x = y) (mPart ml) W)) (hh : PO X hi (TDg N (fun _ x y => x = y) (mPart mh) W)) :
    PE X (.Subscript a (.Slice lo hi none p2) pos) (TD N (mSlc hp ma ml mh) W) := pe_imp (pe_slice sl_any ha hl hh) (by
  rw [hK]
  intro σ H Q t
  obtain ⟨w, ρ, h, r1, r2, p⟩ := t
  refine TDg.imp (td_bind (m := ma) r1 r2 p) fun v H1 ⟨w1, h1, x, l1, q1, q2, q3, p1⟩ => ?_
  refine TDg.imp (td_bind (m := mPart ml) q1 q2 p1) fun l H2 ⟨w2, h2, l', l2, q4, q5, q6, p2⟩ => ?_
  refine TDg.imp (td_bind (m := mPart mh) q4 q5 p2) fun u H3 ⟨w3, h3, u', l3, q7, q8, q9, p3⟩ => ?_
  subst q6
  subst q9
  exact sls_any hp W w3 h3 H3 σ x _ _ v Q q7 (Rep.up (l2.trans l3) _ _ q3) p3)
/-! ### and, or, not; tests -/
theorem snd_and {rest : List Expr} (ha : PE X a (TD N ma W)) (hb : PE X (.BoolOp .And (b :: rest) pos) (TD N mb W)) : PE X (.BoolOp .And (a :: b :: rest) pos) (TD N (mAnd ma mb) W) := pe_imp (pe_and ha hb) fun σ H Q t => by
  obtain ⟨w, ρ, h, r1, r2, p⟩ := t
  refine TDg.imp (td_bind (m := ma) r1 r2 p) fun v H1 ⟨w1, h1, x, l1, q1, q2, q3, p1⟩ => ?_
  cases x with
  | bl b =>
    refine ⟨b, q3, ?_⟩
    cases b with
    | true => exact iteT ⟨w1, ρ, h1, q1, q2, p1⟩
    | false => exact iteF (post_val p1 q1 rfl)
  | _ => exact p1.elim
theorem snd_or {rest : List Expr} (ha : PE X a (TD N ma W)) (hb : PE X (.BoolOp .Or (b :: rest) pos) (TD N mb W)) : PE X (.BoolOp .Or (a :: b :: rest) pos) (TD N (mOr ma mb) W) := pe_imp (pe_or ha hb) fun σ H Q t => by
  obtain ⟨w, ρ, h, r1, r2, p⟩ := t
  refine TDg.imp (td_bind (m := ma) r1 r2 p) fun v H1 ⟨w1, h1, x, l1, q1, q2, q3, p1⟩ => ?_
  cases x with
  | bl b =>
    refine ⟨b, q3, ?_⟩
    cases b with
    | true => exact iteT (post_val p1 q1 rfl)
    | false => exact iteF ⟨w1, ρ, h1, q1, q2, p1⟩
  | _ => exact p1.elim
theorem Reps.isEmpty {w : Wd} : ∀ {xs : List D} {vs : List V}, Reps N w xs vs → (!xs.isEmpty) = !vs.isEmpty
  | [], _, h => by
    have h : _ = [] := h
    rw [h] <;> rfl
  | _ :: _, _, h => by
    obtain ⟨_, _, rfl, _⟩ := h
    rfl
theorem Repd.isEmpty {w : Wd} : ∀ {xs : List (D × D)} {vs : List (Key × V)}, Repd N w xs vs → (!xs.isEmpty) = !vs.isEmpty
  | [], _, h => by
    have h : _ = [] := h
    rw [h] <;> rfl
  | _ :: _, _, h => by
    obtain ⟨_, _, _, rfl, _⟩ := h
    rfl
theorem truth_rep {w : Wd} {h : Hs} {H : Hp} {x : D} {v : V} {b : Bool} (r : RelH N w h H) (q : Rep N w x v) (e : truth h x = some b) : TruV N.K v H b := by
  unfold truth at e
  split at e
  · obtain rfl := q; cases e; rfl
  · obtain rfl := q; cases e; rfl
  · obtain rfl := q; cases e; rfl
  · obtain rfl := q
    split at e
    · rename_i s hz
      cases e
      refine ⟨by rw [toS_length, ← SZ_eq]; exact hz, ?_⟩
      rw [toS_length]
      show (s.length != 0) = ((s.length : Int) != 0)
      rw [Bool.eq_iff_iff, bne_iff_ne, bne_iff_ne]
      omega
    · cases e
  · obtain ⟨a, vs, rfl, ha, hr⟩ := q
    cases e
    exact .inr (.inl ⟨vs, r.sqT ha, hr.isEmpty⟩)
  · obtain ⟨a, vs, rfl, ha, hr⟩ := q
    cases e
    exact .inl ⟨vs, .of (r.sqL ha), hr.isEmpty⟩
  · obtain ⟨a, vs, rfl, ha, hr⟩ := q
    cases e
    exact .inl ⟨vs, r.scr ha, hr.isEmpty⟩
  · obtain ⟨a, vs, rfl, ha, hr⟩ := q
    cases e
    exact .inr (.inr ⟨vs, r.imm _ _ ha, hr.isEmpty⟩)
  · obtain ⟨a, e1, rfl⟩ := q
    split at e
    · rename_i n xs e3
      cases e
      obtain ⟨b, e4, vs, e5, e6⟩ := r.at_ e3
      rw [e1] at e4
      cases e4
      exact .inl ⟨vs, .of e5, e6.isEmpty⟩
    · rename_i n xs e3
      cases e
      obtain ⟨b, e4, vs, e5, e6⟩ := r.at_ e3
      rw [e1] at e4
      cases e4
      exact .inr (.inr ⟨vs, e5, e6.isEmpty⟩)
    · cases e
  · cases e
theorem td_val (hK : X.K = N.K) (σ : St) (H : Hp) (Q : Bool → Hp → Prop) (t : TDt N (tVal ma) W σ H Q) : TD N ma W σ H fun x H' => ∃ k, TruV X.K x H' k ∧ Q k H' := by
  obtain ⟨w, ρ, h, r1, r2, p⟩ := t
  refine TDg.imp (td_bind (m := ma) r1 r2 p) fun v H1 ⟨w1, h1, x, l1, q1, q2, q3, p1⟩ => ?_
  split at p1
  · rename_i b e
    exact ⟨b, by rw [hK]; exact truth_rep q1 q3 e, p1 w1 H1 b (Wd.le.refl w1) q1 rfl⟩
  · exact p1.elim
/-- a test by its value -/
theorem snd_tval (hK : X.K = N.K) (ha : PE X a (TD N ma W)) (he : ∀ whole, isTrue a X.env whole = (do let v ← whole; standAt a.pos; holding [v] (truthy v))) : PT X a (TDt N (tVal ma) W) := pt_imp (pt_truth ha he) (td_val hK)
end
section
variable {X : Cx} {N : Nm} {W : WX} {ma mb mc : M D} {ta tb : M Bool} {e a b c : Expr} {pos : Pos}
theorem snd_not (ha : PT X a (TDt N ta W)) : PT X (.UnaryOp .Not a pos) (TDt N (DN.tNot ta) W) := pt_imp (pt_not ha) fun σ H Q t => by
  obtain ⟨w, ρ, h, r1, r2, p⟩ := t
  refine TDg.imp (td_bind (m := ta) r1 r2 p) fun v H1 ⟨w1, h1, x, l1, q1, q2, q3, p1⟩ => ?_
  cases q3
  exact p1 w1 H1 _ (Wd.le.refl w1) q1 rfl
theorem snd_tand {rest : List Expr} (ha : PT X a (TDt N ta W)) (hb : PW X (.BoolOp .And (b :: rest) pos) (TDt N tb W)) : PW X (.BoolOp .And (a :: b :: rest) pos) (TDt N (DN.tAnd ta tb) W) := ⟨fun whole pins s σ H Q I t => (pw_and ha hb).run whole pins s σ H Q I (by
  obtain ⟨w, ρ, h, r1, r2, p⟩ := t
  refine TDg.imp (td_bind (m := ta) r1 r2 p) fun v H1 ⟨w1, h1, x, l1, q1, q2, q3, p1⟩ => ?_
  cases q3
  cases v with
  | true =>
    rw [if_pos rfl] at p1 ⊢
    exact ⟨w1, ρ, h1, q1, q2, p1⟩
  | false =>
    rw [if_neg (by simp)] at p1 ⊢
    exact p1 w1 H1 _ (Wd.le.refl w1) q1 rfl)⟩
theorem snd_tor {rest : List Expr} (ha : PT X a (TDt N ta W)) (hb : PW X (.BoolOp .Or (b :: rest) pos) (TDt N tb W)) : PW X (.BoolOp .Or (a :: b :: rest) pos) (TDt N (DN.tOr ta tb) W) := ⟨fun whole pins s σ H Q I t => (pw_or ha hb).run whole pins s σ H Q I (by
  obtain ⟨w, ρ, h, r1, r2, p⟩ := t
  refine TDg.imp (td_bind (m := ta) r1 r2 p) fun v H1 ⟨w1, h1, x, l1, q1, q2, q3, p1⟩ => ?_
  cases q3
  cases v with
  | true =>
    rw [if_pos rfl] at p1 ⊢
    exact p1 w1 H1 _ (Wd.le.refl w1) q1 rfl
  | false =>
    rw [if_neg (by simp)] at p1 ⊢
    exact ⟨w1, ρ, h1, q1, q2, p1⟩)⟩
theorem snd_ife (hc : PT X c (TDt N ta W)) (ha : PE X a (TD N ma W)) (hb : PE X b (TD N mb W)) : PE X (.IfExp c a b pos) (TD N (mIfe ta ma mb) W) := pe_imp (pe_ifExp hc ha hb) fun σ H Q t => by
  obtain ⟨w, ρ, h, r1, r2, p⟩ := t
  refine TDg.imp (td_bind (m := ta) r1 r2 p) fun v H1 ⟨w1, h1, x, l1, q1, q2, q3, p1⟩ => ?_
  cases q3
  cases v with
  | true =>
    rw [if_pos rfl] at p1 ⊢
    exact ⟨w1, ρ, h1, q1, q2, p1⟩
  | false =>
    rw [if_neg (by simp)] at p1 ⊢
    exact ⟨w1, ρ, h1, q1, q2, p1⟩
theorem snd_notV (hK : X.K = N.K) (ha : PE X a (TD N ma W)) : PE X (.UnaryOp .Not a pos) (TD N (mNotT ma) W) := pe_imp (pe_notT ha) fun σ H Q t => by
  obtain ⟨w, ρ, h, r1, r2, p⟩ := t
  refine TDg.imp (td_bind (m := ma) r1 r2 p) fun v H1 ⟨w1, h1, x, l1, q1, q2, q3, p1⟩ => ?_
  split at p1
  · rename_i b e
    exact ⟨b, by rw [hK]; exact truth_rep q1 q3 e, post_val p1 q1 rfl⟩
  · exact p1.elim
/-- a comparison as a test -/
theorem snd_tcmp {op : CmpOp} {r : R2} {o : Cop} (ho : OpR X (compareOp op) r) (hs : OpS N r (opCmp o)) (ha : PE X a (TD N ma W)) (hb : PE X b (TD N mb W)) (hm : behindInMarks op b = false) : PT X (.Compare a [op] [b] pos) (TDt N (tVal (mOp (opCmp o) ma mb)) W) :=
  pt_imp (pt_cmpR ho ha hb hm) fun σ H Q t => by
    obtain ⟨w, ρ, h, r1, r2, p⟩ := t
    refine td_op hs σ H _ ⟨w, ρ, h, r1, r2, ?_⟩
    unfold tVal at p
    cases e : mOp (opCmp o) ma mb ρ h with
    | ok x h1 =>
      rw [e] at p
      have p : Post N (fun _ a b => a = b) W w σ Q (match truth h1 x with | some b => .ok b h1 | none => .no) := p
      intro w' H' v l r' q
      have hx : ∃ k, x = .bl k := by
        unfold mOp at e
        cases e1 : ma ρ h with
        | ok y h2 =>
          rw [e1] at e
          simp only [bind_ok] at e
          cases e2 : mb ρ h2 with
          | ok z h3 =>
            rw [e2] at e
            simp only [bind_ok] at e
            unfold opCmp at e
            split at e
            · cases e
              exact ⟨_, rfl⟩
            · cases e
          | _ =>
            rw [e2] at e
            cases e
        | _ =>
          rw [e1] at e
          cases e
      obtain ⟨k, rfl⟩ := hx
      exact ⟨k, q, p w' H' k l r' rfl⟩
    | xc c fs h1 =>
      rw [e] at p
      exact p
    | no =>
      rw [e] at p
      exact p
theorem td_chain {op op' : CmpOp} {r r' : R2} {o o' : Cop} (hs : ∀ (W : WX) (w : Wd) (h : Hs) (H : Hp) (σ : St) (x y : D) (v u : V) (Q : VK), RelH N w h H → Rep N w x v → Rep N w y u → Post N (Rep N) W w σ Q (opCmp o x y h) → r v u H Q) (hs' : OpS N r' (opCmp o')) (σ : St) (H : Hp) (Q : VK)
    (t : TD N (mChain o o' ma mb mc) W σ H Q) : tChain r r' (TD N ma W) (TD N mb W) (TD N mc W) σ H Q := by
  obtain ⟨w, ρ, h, r1, r2, p⟩ := t
  refine TDg.imp (td_bind (m := ma) r1 r2 p) fun v H1 ⟨w1, h1, x, l1, q1, q2, q3, p1⟩ => ?_
  refine TDg.imp (td_bind (m := mb) q1 q2 p1) fun u H2 ⟨w2, h2, y, l2, q4, q5, q6, p2⟩ => ?_
  cases e : cmpD o x y h2 with
  | none =>
    rw [e] at p2
    exact p2.elim
  | some b =>
    rw [e] at p2
    refine hs W w2 h2 H2 σ x y v u _ q4 (Rep.up l2 _ _ q3) q6 ?_
    unfold opCmp
    rw [e]
    intro w3 H3 z l3 q7 q8
    refine ⟨b, q8, ?_⟩
    cases b with
    | true =>
      rw [if_pos rfl]
      refine TDg.imp (td_bind (m := mc) q7 (q5.up l3) (Post.up l3 p2)) fun t H4 ⟨w4, h4, z', l4, q9, q10, q11, p4⟩ => ?_
      exact hs' W w4 h4 H4 σ y z' u t Q q9 (Rep.up (l3.trans l4) _ _ q6) q11 p4
    | false =>
      rw [if_neg (by simp)]
      exact p2 w3 H3 _ l3 q7 rfl
theorem snd_chain {op op' : CmpOp} {r r' : R2} {o o' : Cop} (ho : OpR X (compareOp op) r) (ho' : OpR X (compareOp op') r') (hs : OpS N r (opCmp o)) (hs' : OpS N r' (opCmp o')) (ha : PE X a (TD N ma W)) (hb : PE X b (TD N mb W)) (hc : PE X c (TD N mc W))
    (hm : lastMarks [op, op'] [b, c] = false) : PE X (.Compare a [op, op'] [b, c] pos) (TD N (mChain o o' ma mb mc) W) := pe_imp (pe_chain ho ho' ha hb hc hm) (td_chain (op := op) (op' := op') hs hs')
theorem chain_bl {o o' : Cop} {ρ : Env} {h h1 : Hs} {x : D} (e : mChain o o' ma mb mc ρ h = .ok x h1) : ∃ k, x = .bl k := by
  unfold mChain at e
  cases e1 : ma ρ h with
  | ok y h2 =>
    rw [e1] at e
    simp only [bind_ok] at e
    cases e2 : mb ρ h2 with
    | ok z h3 =>
      rw [e2] at e
      simp only [bind_ok] at e
      split at e
      · cases e3 : mc ρ h3 with
        | ok z' h4 =>
          rw [e3] at e
          simp only [bind_ok] at e
          unfold opCmp at e
          split at e
          · cases e
            exact ⟨_, rfl⟩
          · cases e
        | _ =>
          rw [e3] at e
          cases e
      · cases e
        exact ⟨_, rfl⟩
      · cases e
    | _ =>
      rw [e2] at e
      cases e
  | _ =>
    rw [e1] at e
    cases e
theorem snd_tchain {op op' : CmpOp} {r r' : R2} {o o' : Cop} (ho : OpR X (compareOp op) r) (ho' : OpR X (compareOp op') r') (hs : OpS N r (opCmp o)) (hs' : OpS N r' (opCmp o')) (ha : PE X a (TD N ma W)) (hb : PE X b (TD N mb W)) (hc : PE X c (TD N mc W))
    (hm : lastMarks [op, op'] [b, c] = false) : PT X (.Compare a [op, op'] [b, c] pos) (TDt N (tVal (mChain o o' ma mb mc)) W) := pt_imp (pt_chain ho ho' ha hb hc hm) fun σ H Q t => by
  obtain ⟨w, ρ, h, r1, r2, p⟩ := t
  refine td_chain (op := op) (op' := op') hs hs' σ H _ ⟨w, ρ, h, r1, r2, ?_⟩
  unfold tVal at p
  cases e : mChain o o' ma mb mc ρ h with
  | ok x h1 =>
    rw [e] at p
    have p : Post N (fun _ a b => a = b) W w σ Q (match truth h1 x with | some b => .ok b h1 | none => .no) := p
    intro w' H' v l r' q
    obtain ⟨k, rfl⟩ := chain_bl e
    exact ⟨k, q, p w' H' k l r' rfl⟩
  | xc c fs h1 =>
    rw [e] at p
    exact p
  | no =>
    rw [e] at p
    exact p
/-! ### rows, displays -/
theorem snd_nil : PA X [] (TDs N mNil W) := pa_imp pa_nil fun σ H Q t => by
  obtain ⟨w, ρ, h, r1, r2, p⟩ := t
  exact p w H [] (Wd.le.refl w) r1 rfl
theorem snd_cons {es : List Expr} {mr : M (List D)} (ha : PE X a (TD N ma W)) (hr : PA X es (TDs N mr W)) (hs : starEach (a :: es) X.env = (false, eval a X.env) :: starEach es X.env) : PA X (a :: es) (TDs N (mCons ma mr) W) := pa_imp (pa_cons ha hr hs) fun σ H Q t => by
  obtain ⟨w, ρ, h, r1, r2, p⟩ := t
  refine TDg.imp (td_bind (m := ma) r1 r2 p) fun v H1 ⟨w1, h1, x, l1, q1, q2, q3, p1⟩ => ?_
  refine TDg.imp (td_bind (m := mr) q1 q2 p1) fun vs H2 ⟨w2, h2, xs, l2, q4, q5, q6, p2⟩ => ?_
  exact p2 w2 H2 _ (Wd.le.refl w2) q4 ⟨v, vs, rfl, Rep.up l2 _ _ q3, q6⟩
theorem snd_tup {es : List Expr} {k : Nat} {mr : M (List D)} (ha : PA X es (TDs N mr W)) : PE X (.Tuple es k pos) (TD N (mTup mr) W) := pe_imp (pe_tup ha) fun σ H Q t => by
  obtain ⟨w, ρ, h, r1, r2, p⟩ := t
  refine TDg.imp (td_bind (m := mr) r1 r2 p) fun v H1 ⟨w1, h1, x, l1, q1, q2, q3, p1⟩ => ?_
  exact post_mkT q1 q3 p1
theorem snd_lst (hp : Bool) {es : List Expr} {mr : M (List D)} (ha : PA X es (TDs N mr W)) : PE X (.List es pos) (TD N (mLst hp mr) W) := pe_imp (pe_lst ha) fun σ H Q t => by
  obtain ⟨w, ρ, h, r1, r2, p⟩ := t
  refine TDg.imp (td_bind (m := mr) r1 r2 p) fun v H1 ⟨w1, h1, x, l1, q1, q2, q3, p1⟩ => ?_
  exact post_mkL q1 q3 p1
/-- the table of comparisons -/
def copOf : CmpOp → Cop
  | .Eq => .eq | .NotEq => .ne | .Lt => .lt | .LtE => .le | .Gt => .gt | .GtE => .ge | .Is => .isx | .IsNot => .isnot | .In => .inn | .NotIn => .notin
theorem cop_ok (hK : X.K = N.K) (hu : X.A.units + 64 < cLine) (op : CmpOp) : ∃ r, OpR X (compareOp op) r ∧ OpS N r (opCmp (copOf op)) := by
  have hu1 : X.A.units + 1 < cLine := by omega
  cases op with
  | Eq => exact ⟨_, op_eqA hu, by rw [hK]; exact ops_eq⟩
  | NotEq => exact ⟨_, op_neA hu, by rw [hK]; exact ops_ne⟩
  | Lt => exact ⟨_, op_ltA, ops_lt⟩
  | LtE => exact ⟨_, op_leA, ops_le⟩
  | Gt => exact ⟨_, op_gtA, ops_gt⟩
  | GtE => exact ⟨_, op_geA, ops_ge⟩
  | Is => exact ⟨_, op_isA, ops_is⟩
  | IsNot => exact ⟨_, op_isnotA, ops_isnot⟩
  | In => exact ⟨_, op_inA hu1, by rw [hK]; exact ops_in⟩
  | NotIn => exact ⟨_, op_notInA hu1, by rw [hK]; exact ops_notin⟩
end
end DN

set_option Elab.async false
set_option linter.all false
set_option maxRecDepth 100000
/-! D5: statements. -/
namespace DN
open PySem PySem.Spec L2
open PyProof.Rows hiding St

section
variable {X : Cx} {N : Nm} {W : WX} {ma mb : M D} {tm : M Bool} {ba bb : B} {e a b c : Expr} {st : Stmt} {sa sb : List Stmt} {pos : Pos}
theorem ds_next {Dn : Ends} {σ : St} {H : Hp} (t : TDS N sPass W Dn σ H) : Dn.nx σ H := by
  obtain ⟨w, ρ, h, r1, r2, p⟩ := t
  exact p w σ H (Wd.le.refl w) r1 r2
theorem snd_pass : PS X (.Pass pos) (TDS N sPass W) := ps_imp ps_pass fun _ _ _ t => ds_next t
theorem snd_snil : PSs X [] (TDS N sPass W) := pss_imp pss_nil fun _ _ _ t => ds_next t
theorem snd_doc {x j pos'} : PS X (.Expr (.Constant (.str x) j pos) pos') (TDS N sPass W) := ps_imp ps_doc fun _ _ _ t => ds_next t
theorem snd_brk : PS X (.Break pos) (TDS N sBrk W) := ps_imp ps_break fun Dn σ H t => by
  obtain ⟨w, ρ, h, r1, r2, p⟩ := t
  exact p w σ H (Wd.le.refl w) r1 r2
theorem snd_cnt : PS X (.Continue pos) (TDS N sCnt W) := ps_imp ps_continue fun Dn σ H t => by
  obtain ⟨w, ρ, h, r1, r2, p⟩ := t
  exact p w σ H (Wd.le.refl w) r1 r2
theorem snd_seq (h1 : PS X st (TDS N ba W)) (h2 : PSs X sb (TDS N bb W)) : PSs X (st :: sb) (TDS N (sSeq ba bb) W) := pss_imp (pss_cons h1 h2) fun Dn σ H t => by
  obtain ⟨w, ρ, h, r1, r2, p⟩ := t
  refine ⟨w, ρ, h, r1, r2, ?_⟩
  unfold sSeq at p
  cases e : ba ρ h with
  | nx ρ1 h1 =>
    rw [e] at p
    exact fun w' σ' H' l q1 q2 => ⟨w', ρ1, h1, q1, q2, PostS.up l p⟩
  | _ =>
    rw [e] at p
    exact p
theorem snd_one (h1 : PS X st (TDS N ba W)) : PSs X [st] (TDS N ba W) := pss_imp (pss_one h1) fun _ _ _ t => t
theorem snd_ex (he : PE X e (TD N ma W)) (hs : swapsWith e none pos.line X.env = pure false) : PS X (.Expr e pos) (TDS N (sEx ma) W) := ps_imp (ps_expr he hs) fun Dn σ H t => by
  obtain ⟨w, ρ, h, r1, r2, p⟩ := t
  refine TDg.imp (td_out (m := ma) r1 r2 p) fun v H1 ⟨w1, h1, x, l1, q1, q2, q3, p1⟩ => ?_
  exact p1 w1 σ H1 (Wd.le.refl w1) q1 q2
theorem snd_ret (he : PE X e (TD N ma W)) : PS X (.Return (some e) pos) (TDS N (sRet ma) W) := ps_imp (ps_ret he) fun Dn σ H t => by
  obtain ⟨w, ρ, h, r1, r2, p⟩ := t
  refine TDg.imp (td_out (m := ma) r1 r2 p) fun v H1 ⟨w1, h1, x, l1, q1, q2, q3, p1⟩ => ?_
  exact p1 w1 H1 v (Wd.le.refl w1) q1 q3
theorem snd_retN : PS X (.Return none pos) (TDS N (sRet (mLit .non)) W) := ps_imp ps_retN fun Dn σ H t => by
  obtain ⟨w, ρ, h, r1, r2, p⟩ := t
  exact p w H .non (Wd.le.refl w) r1 rfl
theorem snd_if (hc : PT X c (TDt N tm W)) (ha : PSs X sa (TDS N ba W)) (hb : PSs X sb (TDS N bb W)) : PS X (.If c sa sb pos) (TDS N (sIf tm ba bb) W) := ps_imp (ps_if hc ha hb) fun Dn σ H t => by
  obtain ⟨w, ρ, h, r1, r2, p⟩ := t
  refine TDg.imp (td_out (m := tm) r1 r2 p) fun v H1 ⟨w1, h1, x, l1, q1, q2, q3, p1⟩ => ?_
  cases q3
  cases v with
  | true =>
    rw [if_pos rfl] at p1 ⊢
    exact ⟨w1, ρ, h1, q1, q2, p1⟩
  | false =>
    rw [if_neg (by simp)] at p1 ⊢
    exact ⟨w1, ρ, h1, q1, q2, p1⟩
/-! ### targets -/
def PostG (N : Nm) (w : Wd) (Q : St → Hp → Prop) : R Env → Prop
  | .ok ρ' h' => ∀ w' σ' H', w.le w' → RelH N w' h' H' → RelE N w' ρ' σ' → Q σ' H'
  | _ => False
theorem PostG.up {w w' : Wd} {Q : St → Hp → Prop} (x : w.le w') : ∀ {r : R Env}, PostG N w Q r → PostG N w' Q r
  | .ok _ _, p => fun w2 s H' l => p w2 s H' (x.trans l)
  | .xc _ _ _, p => p
  | .no, p => p
def TDG (N : Nm) (g : Tg) : TG := fun v σ H Q => ∃ w ρ h d, RelH N w h H ∧ RelE N w ρ σ ∧ Rep N w d v ∧ PostG N w Q (g d ρ h)
def TDGs (N : Nm) (gs : List Tg) : TGs := fun vs σ H Q => ∃ w ρ h ds, RelH N w h H ∧ RelE N w ρ σ ∧ Reps N w ds vs ∧ ds.length = gs.length ∧ PostG N w Q (gTup.go gs ds ρ h)
theorem pg_imp {tg : Expr} {t t' : TG} (h : PG X tg t) (k : ∀ v σ H Q, t' v σ H Q → t v σ H Q) : PG X tg t' := ⟨fun pins s σ H v u Q I r q => h.run pins s σ H v u Q I r (k v σ H Q q)⟩
theorem pgs_imp {tg : List Expr} {t t' : TGs} (h : PGs X tg t) (k : ∀ v σ H Q, t' v σ H Q → t v σ H Q) : PGs X tg t' := ⟨fun pins s σ H v u Q I r q => h.run pins s σ H v u Q I r (k v σ H Q q)⟩
theorem snd_gvar {i : Nat} {tg : Expr} (h : PG X tg (gName i)) : PG X tg (TDG N (gVar i)) := pg_imp h fun v σ H Q t => by
  obtain ⟨w, ρ, h, d, r1, r2, q, p⟩ := t
  exact p w _ H (Wd.le.refl w) r1 (r2.set q)
theorem snd_gnil : PGs X [] (TDGs N []) := pgs_imp pgs_nil fun vs σ H Q t => by
  obtain ⟨w, ρ, h, ds, r1, r2, q, l, p⟩ := t
  have e : ds = [] := List.length_eq_zero_iff.mp l
  subst e
  exact ⟨q, p w σ H (Wd.le.refl w) r1 r2⟩
theorem snd_gcons {g : Tg} {gs : List Tg} {tg : Expr} {tgs : List Expr} (h1 : PG X tg (TDG N g)) (h2 : PGs X tgs (TDGs N gs)) (hs : (assignEach (tg :: tgs) X.env).map (·.2) = assign tg X.env :: (assignEach tgs X.env).map (·.2)) : PGs X (tg :: tgs) (TDGs N (g :: gs)) :=
  pgs_imp (pgs_cons h1 h2 hs) fun vs σ H Q t => by
    obtain ⟨w, ρ, h, ds, r1, r2, q, l, p⟩ := t
    cases ds with
    | nil => cases l
    | cons d ds =>
      obtain ⟨v, r, rfl, q1, q2⟩ := q
      refine ⟨v, r, rfl, w, ρ, h, d, r1, r2, q1, ?_⟩
      have p : PostG N w Q ((g d ρ h).bind fun σ1 h1 => gTup.go gs ds σ1 h1) := p
      cases e : g d ρ h with
      | ok ρ1 h1 =>
        rw [e] at p
        exact fun w' σ' H' l' s1 s2 => ⟨w', ρ1, h1, ds, s1, s2, Reps.up l' _ _ q2, Nat.succ.inj l, PostG.up l' p⟩
      | _ =>
        rw [e] at p
        exact p
theorem snd_gtup {gs : List Tg} {tgs : List Expr} {k : Nat} (hK : X.K = N.K) (hc : X.calm = true) (h : PGs X tgs (TDGs N gs)) (hn : (assignEach tgs X.env).length = gs.length) (hst : (assignEach tgs X.env).findIdx? (·.1) = none) : PG X (.Tuple tgs k pos) (TDG N (gTup gs)) :=
  pg_imp (pg_tup (n := gs.length) hc h hn hst) fun v σ H Q t => by
    obtain ⟨w, ρ, h, d, r1, r2, q, p⟩ := t
    cases d with
    | tup xs =>
      obtain ⟨a, vs, rfl, ha, hr⟩ := q
      have p : PostG N w Q (if xs.length = gs.length then gTup.go gs xs ρ h else .no) := p
      split at p
      · rename_i hl
        exact ⟨a, vs, rfl, by rw [hK]; exact r1.sqT ha, by rw [hr.length]; exact hl, w, ρ, h, xs, r1, r2, hr, hl, p⟩
      · exact p.elim
    | _ => exact p.elim
/-! a[i] = v -/
def rSetA : TSet := fun o i v H Q => rSetL o i v H Q ∨ ∃ a H', o = .ref a ∧ DPut H a i v H' ∧ Q H'
theorem set_any (hu : X.A.units + 1 < cLine) : PSet X rSetA := by
  intro pins s σ H o i v ov iv u Q I ro ri rv h
  rcases h with h | ⟨a, H', rfl, g, q⟩
  · exact set_list pins s σ H o i v ov iv u Q I ro ri rv h
  · obtain rfl : ov = Value.ref a := ro
    exact d_setItem hu I g ri rv fun s' I' => ⟨H', I', q⟩
theorem any_keyRep {w : Wd} {d : D} {k : Key} (hk : KeyRep d k) : ∀ {xs : List (D × D)} {vs : List (Key × V)}, Repd N w xs vs → (vs.any fun kv => decide (kv.1 = k)) = xs.any fun p => keyEq p.1 d
  | [], _, h => by
    have h : _ = [] := h
    rw [h] <;> rfl
  | (k', x) :: xs, _, h => by
    obtain ⟨q, v, r, rfl, h1, h2, h3⟩ := h
    rw [List.any_cons, List.any_cons, any_keyRep hk h3, keyEq_rep h1 hk]
theorem map_keyRep {w : Wd} {d y : D} {k : Key} {v : V} (hk : KeyRep d k) (hv : Rep N w y v) : ∀ {xs : List (D × D)} {vs : List (Key × V)}, Repd N w xs vs → Repd N w (xs.map fun p => if keyEq p.1 d then (p.1, y) else p) (vs.map fun kv => if kv.1 = k then (kv.1, v) else kv)
  | [], _, h => by
    have h : _ = [] := h
    rw [h] <;> rfl
  | (k', x) :: xs, _, h => by
    obtain ⟨q, u, r, rfl, h1, h2, h3⟩ := h
    rw [List.map_cons, List.map_cons]
    show Repd N w ((if keyEq k' d = true then (k', y) else (k', x)) :: _) ((if q = k then (q, v) else (q, u)) :: _)
    rw [keyEq_rep h1 hk]
    by_cases e : q = k
    · rw [if_pos e, if_pos (decide_eq_true e)]
      exact ⟨q, v, _, rfl, h1, hv, map_keyRep hk hv h3⟩
    · rw [if_neg e, if_neg (by simpa using e)]
      exact ⟨q, u, _, rfl, h1, h2, map_keyRep hk hv h3⟩
theorem Repd.append {w : Wd} : ∀ {xs ys : List (D × D)} {vs us : List (Key × V)}, Repd N w xs vs → Repd N w ys us → Repd N w (xs ++ ys) (vs ++ us)
  | [], _, _, _, h, q => by
    have h : _ = [] := h
    subst h
    exact q
  | (k, x) :: xs, _, _, _, h, q => by
    obtain ⟨k', v, r, rfl, h0, h1, h2⟩ := h
    exact ⟨k', v, _, rfl, h0, h1, Repd.append h2 q⟩
theorem put_rep {w : Wd} {d y : D} {k : Key} {v : V} {xs : List (D × D)} {vs : List (Key × V)} (hk : KeyRep d k) (hv : Rep N w y v) (r : Repd N w xs vs) : Repd N w (dput xs d y) (putK vs k v) := by
  unfold dput putK
  rw [any_keyRep hk r]
  split
  · exact map_keyRep hk hv r
  · exact Repd.append r ⟨k, v, [], rfl, hk, hv, rfl⟩
theorem set_rep {w : Wd} {h h' : Hs} {H : Hp} {x y z : D} {o i v : V} {Q : Hp → Prop} (r : RelH N w h H) (qx : Rep N w x o) (qy : Rep N w y i) (qz : Rep N w z v) (e : opSet x y z h = some h') (q : ∀ H', RelH N w h' H' → Q H') : rSetA o i v H Q := by
  unfold opSet at e
  split at e
  · rename_i n
    obtain ⟨a, e1, rfl⟩ := qx
    split at e
    · rename_i xs j e3
      obtain rfl := qy
      obtain ⟨b, e4, vs, e5, e6⟩ := r.at_ e3
      rw [e1] at e4
      cases e4
      split at e
      · rename_i m em
        cases e
        refine .inl ⟨a, vs, j, m, rfl, rfl, e5, by rw [e6.length, ← ixD_eq]; exact em, q _ ?_⟩
        exact r.put e1 ⟨_, rfl, e6.set m qz⟩
      · cases e
    · rename_i kvs e3
      obtain ⟨b, e4, vs, e5, e6⟩ := r.at_ e3
      rw [e1] at e4
      cases e4
      split at e
      · rename_i hk
        rw [Bool.and_eq_true, decide_eq_true_eq] at hk
        cases e
        obtain ⟨k, hk1, rfl⟩ := keyRep_of hk.1 qy
        refine .inr ⟨a, _, rfl, .k e5 (by rw [e6.length, ← SZ_eq]; exact hk.2), q _ ?_⟩
        exact r.put e1 ⟨_, rfl, put_rep hk1 qz e6⟩
      · cases e
    · cases e
  · cases e
theorem snd_gsub {o i : Expr} (hu : X.A.units + 1 < cLine) (ho : PE X o (TD N ma W)) (hi : PE X i (TD N mb W))
    (ha : ∀ v, assign (.Subscript o i pos) X.env v = (do
      let ov ← holding [v] (eval o X.env)
      let iv ← holding [v, ov] (eval i X.env)
      standAt pos
      holding [v, ov, iv] (setItem ov iv v)
      release [v, ov, iv] [])) : PG X (.Subscript o i pos) (TDG N (gSub ma mb)) := pg_imp (pg_sub ho hi (set_any hu) ha) fun v σ H Q t => by
  obtain ⟨w, ρ, h, d, r1, r2, q, p⟩ := t
  refine ⟨w, ρ, h, r1, r2, ?_⟩
  unfold gSub at p
  cases e : ma ρ h with
  | ok x h1 =>
    rw [e] at p
    simp only [bind_ok] at p
    intro w1 H1 o' l1 q1 q2
    refine ⟨w1, ρ, h1, q1, r2.up l1, ?_⟩
    cases e2 : mb ρ h1 with
    | ok y h2 =>
      rw [e2] at p
      simp only [bind_ok] at p
      intro w2 H2 i' l2 q3 q4
      cases e3 : opSet x y d h2 with
      | some h3 =>
        rw [e3] at p
        refine set_rep q3 (Rep.up l2 _ _ q2) q4 (Rep.up (l1.trans l2) _ _ q) e3 fun H' r' => ?_
        exact p w2 σ H' (l1.trans l2) r' (r2.up (l1.trans l2))
      | none =>
        rw [e3] at p
        exact p.elim
    | _ =>
      rw [e2] at p
      exact p.elim
  | _ =>
    rw [e] at p
    exact p.elim
/-! ### assignments -/
theorem td_asg {g : Tg} (Dn : Ends) (σ : St) (H : Hp) (t : TDS N (sAsg ma g) W Dn σ H) : tAsg (TD N ma W) (TDG N g) Dn σ H := by
  obtain ⟨w, ρ, h, r1, r2, p⟩ := t
  refine TDg.imp (td_out (m := ma) r1 r2 p) fun v H1 ⟨w1, h1, x, l1, q1, q2, q3, p1⟩ => ?_
  refine ⟨w1, ρ, h1, x, q1, q2, q3, ?_⟩
  cases e2 : g x ρ h1 with
  | ok ρ1 h2 =>
    rw [e2] at p1
    exact p1
  | _ =>
    rw [e2] at p1
    exact p1.elim
theorem snd_asg {g : Tg} {tg : Expr} (he : PE X e (TD N ma W)) (hg : PG X tg (TDG N g)) (hs : swapsWithSole [tg] e pos.line X.env = pure false) (hw : swappedStores [tg] e X.env = pure none) (h1 : (assignEach [tg] X.env).map (·.2) = [assign tg X.env]) :
    PS X (.Assign [tg] e pos) (TDS N (sAsg ma g) W) := ps_imp (ps_asg he hg hs hw h1) td_asg
theorem snd_aug {i : Nat} {x : Str} {pos' : Pos} {op : Operator} {ti : TIp} {f : D → D → Hs → R D} (hN : X.N.Nodup) (hi : X.N[i]? = some x) (hx : Loc X.env.scope x) (he : PE X e (TD N ma W)) (ho : PIp X op ti) (hs : OpS N ti f) (hf : X.fn x = true ∨ X.env.scope.names.lookup x = some .local) :
    PS X (.AugAssign (.Name x pos') op e pos) (TDS N (sAug i f ma) W) := ps_imp (ps_aug hN hi hx he ho hf) fun Dn σ H t => by
  obtain ⟨w, ρ, h, r1, r2, p⟩ := t
  unfold sAug at p
  split at p
  · rename_i d hd
    obtain ⟨v, hv, hr⟩ := r2.2 i d hd
    refine ⟨v, hv, ?_⟩
    refine TDg.imp (td_out (m := ma) r1 r2 p) fun u H1 ⟨w1, h1, y, l1, q1, q2, q3, p1⟩ => ?_
    refine hs W w1 h1 H1 σ d y v u _ q1 (Rep.up l1 _ _ hr) q3 ?_
    cases e2 : f d y h1 with
    | ok z h2 =>
      rw [e2] at p1
      exact fun w' H' v' l r q => p1 w' _ H' l r ((q2.up l).set q)
    | xc c fs h2 =>
      rw [e2] at p1
      exact fun w' H' cls dd l r q => p1 w' σ H' cls dd l r (q2.up l) q
    | no =>
      rw [e2] at p1
      exact p1.elim
  · exact p.elim
def rIAdd : TIp := fun x y H Q => rI0 (fun i j => .int (i + j)) x y H Q ∨ (∃ i j, x = .str i ∧ y = .str j ∧ i.length + j.length ≤ sizeLine ∧ Q (.str (i ++ j)) H)
theorem ip_addA : PIp X .Add rIAdd := iop_add.or iop_add_str
theorem ops_iadd : OpS N rIAdd opIAdd := by
  intro W w h H σ x y v u Q r qx qy p
  unfold opIAdd at p
  split at p
  · exact .inl ⟨_, _, qx, qy, post_val p r rfl⟩
  · obtain rfl := qx
    obtain rfl := qy
    split at p
    · rename_i hz
      refine .inr ⟨_, _, rfl, rfl, by rw [toS_length, toS_length, ← SZ_eq]; exact hz, ?_⟩
      rw [toS_append]
      exact post_val p r rfl
    · exact p.elim
  · exact p.elim
/-! ### while -/
theorem snd_while {n : Nat} (hp : PassesOwn (model X.prog X.w) X.A X.env X.xe) (hc : PT X c (TDt N tm W)) (hb : PSs X sb (TDS N bb W)) : PS X (.While c sb [] pos) (TDS N (sWhile n tm bb) W) := ps_imp (ps_while hp hc hb) fun Dn σ H t => by
  refine ⟨fun m σ H => TDS N (whileGo tm bb m) W Dn σ H, ⟨n, t⟩, fun m σ H t => ?_⟩
  obtain ⟨w, ρ, h, r1, r2, p⟩ := t
  cases m with
  | zero => exact p.elim
  | succ m =>
    refine TDg.imp (td_out (m := tm) r1 r2 p) fun v H1 ⟨w1, h1, x, l1, q1, q2, q3, p1⟩ => ?_
    cases q3
    cases v with
    | true =>
      rw [if_pos rfl] at p1 ⊢
      refine ⟨fun σ' H' => TDS N (whileGo tm bb m) W Dn σ' H', fun σ' H' t => ⟨m, Nat.lt_succ_self m, t⟩, w1, ρ, h1, q1, q2, ?_⟩
      cases e : bb ρ h1 with
      | nx ρ2 h2 =>
        rw [e] at p1
        exact fun w' σ' H' l s1 s2 => ⟨w', ρ2, h2, s1, s2, PostS.up l p1⟩
      | ct ρ2 h2 =>
        rw [e] at p1
        exact fun w' σ' H' l s1 s2 => ⟨w', ρ2, h2, s1, s2, PostS.up l p1⟩
      | _ =>
        rw [e] at p1
        exact p1
    | false =>
      rw [if_neg (by simp)] at p1 ⊢
      exact p1 w1 σ H1 (Wd.le.refl w1) q1 q2
end
end DN

set_option Elab.async false
set_option linter.all false
set_option maxRecDepth 100000
/-! D6: walks and for. -/
namespace DN
open PySem PySem.Spec
open L2 hiding It
open PyProof.Rows hiding St

/-- J walks xs, as long as chk holds -/
def JOk (N : Nm) (w0 : Wd) (J : L2.It) (xs : List D) (chk : Hs → Prop) : Prop := ∀ (w : Wd) (h : Hs) (H : Hp) (i : Nat), w0.le w → RelH N w h H → chk h →
  (i = xs.length → J.stop i H) ∧ ∀ d, xs[i]? = some d → J.go i H ∧ ∀ x H', J.yld i H x H' → ∃ w', w.le w' ∧ RelH N w' h H' ∧ Rep N w' d x
def TDI (N : Nm) (it : DN.It) (W : WX) : TI := TDg N (fun w (p : List D × (Hs → Prop)) (J : L2.It) => JOk N w J p.1 p.2) it W
theorem JOk.up {N : Nm} {w w' : Wd} {J : L2.It} {xs : List D} {chk : Hs → Prop} (l : w.le w') (j : JOk N w J xs chk) : JOk N w' J xs chk := fun w2 h H i l2 r c => j w2 h H i (l.trans l2) r c
section
variable {X : Cx} {N : Nm} {W : WX} {ma mb mc : M D} {it : DN.It} {g : Tg} {bb : B} {e a b c tg iter : Expr} {sb : List Stmt} {pos : Pos}
theorem snd_for (hp : PassesOwn (model X.prog X.w) X.A X.env X.xe) (hc : X.calm = true) (hi : PI X tg iter (TDI N it W)) (hg : PG X tg (TDG N g)) (hb : PSs X sb (TDS N bb W))
    (hs : ∀ x, foldedSetIterable iter X.env x = pure x) : PS X (.For tg iter sb [] pos) (TDS N (sFor g it bb) W) := ps_imp (ps_for hp hc hi hg hb hs) fun Dn σ H t => by
  obtain ⟨w, ρ, h, r1, r2, p⟩ := t
  refine TDg.imp (td_out (m := it) r1 r2 p) fun J H1 ⟨w1, h1, x, l1, q1, q2, q3, p1⟩ => ?_
  obtain ⟨xs, chk⟩ := x
  have q3 : JOk N w1 J xs chk := q3
  have p1 : PostS N W w1 Dn (loopGo chk g bb xs ρ h1) := p1
  refine ⟨fun i m σ H => ∃ w ρ h, w1.le w ∧ RelH N w h H ∧ RelE N w ρ σ ∧ m = xs.length - i ∧ i ≤ xs.length ∧ PostS N W w Dn (loopGo chk g bb (xs.drop i) ρ h),
    ⟨xs.length, w1, ρ, h1, Wd.le.refl w1, q1, q2, by omega, Nat.zero_le _, p1⟩, fun i m σ H t => ?_⟩
  obtain ⟨w2, ρ2, h2, l2, s1, s2, rfl, hi, p2⟩ := t
  by_cases he : i = xs.length
  · subst he
    rw [List.drop_length] at p2
    unfold loopGo at p2
    by_cases hk : chk h2
    · rw [if_pos hk] at p2
      exact .inl ⟨(q3 w2 h2 H _ l2 s1 hk).1 rfl, p2 w2 σ H (Wd.le.refl w2) s1 s2⟩
    · rw [if_neg hk] at p2
      exact p2.elim
  · have hlt : i < xs.length := by omega
    rw [List.drop_eq_getElem_cons hlt] at p2
    unfold loopGo at p2
    by_cases hk : chk h2
    · rw [if_pos hk] at p2
      obtain ⟨go, yld⟩ := (q3 w2 h2 H i l2 s1 hk).2 xs[i] (List.getElem?_eq_getElem hlt)
      refine .inr ⟨go, fun σ' H' => ∃ w ρ h, w1.le w ∧ RelH N w h H' ∧ RelE N w ρ σ' ∧ PostS N W w Dn (loopGo chk g bb (xs.drop (i + 1)) ρ h), fun σ' H' t => ?_, fun x H' hy => ?_⟩
      · obtain ⟨w3, ρ3, h3, l3, t1, t2, p3⟩ := t
        exact ⟨xs.length - (i + 1), by omega, w3, ρ3, h3, l3, t1, t2, rfl, hlt, p3⟩
      · obtain ⟨w3, l3, t1, t2⟩ := yld x H' hy
        refine ⟨w3, ρ2, h2, xs[i], t1, s2.up l3, t2, ?_⟩
        have p3 := PostS.up l3 p2
        cases e2 : g xs[i] ρ2 h2 with
        | ok ρ4 h4 =>
          rw [e2] at p3
          simp only [gout_ok] at p3
          intro w5 σ5 H5 l5 u1 u2
          refine ⟨w5, ρ4, h4, u1, u2, ?_⟩
          have p4 := PostS.up l5 p3
          have lw : w1.le w5 := (l2.trans l3).trans l5
          cases e3 : bb ρ4 h4 with
          | nx ρ6 h6 =>
            rw [e3] at p4
            exact fun w' σ' H' l v1 v2 => ⟨w', ρ6, h6, lw.trans l, v1, v2, PostS.up l p4⟩
          | ct ρ6 h6 =>
            rw [e3] at p4
            exact fun w' σ' H' l v1 v2 => ⟨w', ρ6, h6, lw.trans l, v1, v2, PostS.up l p4⟩
          | _ =>
            rw [e3] at p4
            exact p4
        | xc _ _ _ =>
          rw [e2] at p3
          exact p3.elim
        | no =>
          rw [e2] at p3
          exact p3.elim
    · rw [if_neg hk] at p2
      exact p2.elim

/-! ### walks of values -/
theorem jok_list {w : Wd} {xs : List D} {vs : List V} {a : Addr} {chk : Hs → Prop} (hs : ∀ (w' : Wd) (h : Hs) (H : Hp), w.le w' → RelH N w' h H → chk h → ∃ vs, SqL N.K H a vs ∧ Reps N w' xs vs) : JOk N w (Itl N.K a) xs chk := by
  intro w' h H i l r hc
  obtain ⟨vs, h0, hr⟩ := hs w' h H l r hc
  refine ⟨fun e => ⟨vs, h0, by rw [hr.length]; omega⟩, fun d hd => ?_⟩
  obtain ⟨v, h1, h2⟩ := hr.get hd
  refine ⟨⟨vs, v, h0, h1⟩, fun x H' hy => ?_⟩
  obtain ⟨rfl, hy⟩ := hy
  have e := (hy vs h0).symm.trans h1
  cases e
  exact ⟨w', Wd.le.refl w', r, h2⟩
theorem jok_tup {w : Wd} {xs : List D} {vs : List V} {a : Addr} {chk : Hs → Prop} (ha : TupAt N w a vs) (hr : Reps N w xs vs) : JOk N w (Itt N.K a) xs chk := by
  intro w' h H i l r hc
  have h0 : SqT N.K H a vs := r.sqT (ha.up l)
  refine ⟨fun e => ⟨vs, h0, by rw [hr.length]; omega⟩, fun d hd => ?_⟩
  obtain ⟨v, h1, h2⟩ := hr.get hd
  refine ⟨⟨vs, v, h0, h1⟩, fun x H' hy => ?_⟩
  obtain ⟨rfl, hy⟩ := hy
  have e := (hy vs h0).symm.trans h1
  cases e
  exact ⟨w', Wd.le.refl w', r, Rep.up l _ _ h2⟩
theorem jok_str {w : Wd} {s : List Nat} {chk : Hs → Prop} : JOk N w (Its (toS s)) (s.map fun c => .str [c]) chk := by
  intro w' h H i l r hc
  refine ⟨fun e => ?_, fun d hd => ?_⟩
  · show (toS s).cps.size ≤ i
    rw [e, List.length_map]
    simp [toS]
  · rw [List.getElem?_map] at hd
    cases q : s[i]? with
    | none =>
      rw [q] at hd
      cases hd
    | some c =>
      rw [q] at hd
      cases hd
      have hi : i < s.length := (List.getElem?_eq_some_iff.mp q).1
      refine ⟨by show i < (toS s).cps.size; simpa [toS] using hi, fun x H' hy => ?_⟩
      obtain ⟨rfl, c', hc', rfl⟩ := hy
      have e : c' = c := by
        have : s[i]? = some c' := by simpa [toS] using hc'
        rw [q] at this
        exact (Option.some.inj this).symm
      subst e
      exact ⟨w', Wd.le.refl w', r, rfl⟩
theorem rngL_length : ∀ (n : Nat) (i : Int), (rngL i n).length = n
  | 0, _ => rfl
  | n + 1, i => by
    show (rngL (i + 1) n).length + 1 = n + 1
    rw [rngL_length n]
theorem rngL_get : ∀ (n : Nat) (i : Int) (k : Nat), k < n → (rngL i n)[k]? = some (.int (i + k))
  | 0, _, _, h => absurd h (Nat.not_lt_zero _)
  | n + 1, i, 0, _ => by
    show some (D.int i) = _
    simp
  | n + 1, i, k + 1, h => by
    show (rngL (i + 1) n)[k]? = _
    rw [rngL_get n (i + 1) k (by omega)]
    congr 2
    omega
theorem jok_rng {w : Wd} {lo : Int} {n : Nat} {chk : Hs → Prop} : JOk N w (Itr lo n) (rngL lo n) chk := by
  intro w' h H i l r hc
  rw [rngL_length]
  refine ⟨fun e => by show n ≤ i; omega, fun d hd => ?_⟩
  have hi : i < n := by
    have := (List.getElem?_eq_some_iff.mp hd).1
    rwa [rngL_length] at this
  rw [rngL_get n lo i hi] at hd
  cases hd
  refine ⟨hi, fun x H' hy => ?_⟩
  obtain ⟨rfl, rfl⟩ := hy
  exact ⟨w', Wd.le.refl w', r, rfl⟩
/-- a list, a tuple or a text is walked -/
def iAny (K : PySem.W.Frag) (tl : TE) : TI := fun σ H R => tl σ H fun x H1 => (∃ a, x = .ref a ∧ (∃ xs, SqL K H1 a xs) ∧ R (Itl K a) H1) ∨ (∃ a, x = .ref a ∧ (∃ xs, SqT K H1 a xs) ∧ R (Itt K a) H1) ∨ ∃ y, x = .str y ∧ R (Its y) H1
theorem pi_any {l : Expr} {tl : TE} (hl : PE X l tl) : PI X tg l (iAny X.K tl) := by
  refine ⟨fun pins s σ H R I h => ?_⟩
  refine thn (hl.run pins s σ H _ I h) fun v s1 ⟨x, H1, I1, r1, q1⟩ => ?_
  rcases q1 with ⟨a, e, ⟨xs, hq⟩, q⟩ | ⟨a, e, ⟨xs, hq⟩, q⟩ | ⟨y, e, q⟩
  · subst e
    cases r1
    obtain ⟨its, rv, p, hz⟩ := I1.list hq
    refine wpAny_pyIter_list p.isList ?_
    refine ⟨s1.heap.objs.size, [s1.heap.objs.size], _, _, H1, rfl, I1.kept (t' := s1.toks) fun b o e => Heap.get?_push_of_some _ e, turn_list a _, ⟨_, Heap.get?_push_size _ rfl, rfl, rfl⟩, fun b hb => ?_, q⟩
    have e : b = s1.heap.objs.size := by simpa using hb
    subst e
    exact I1.fpOk (Nat.le_refl _) (I1.hok.fresh (Nat.le_refl _))
  · subst e
    cases r1
    obtain ⟨its, rv, p, hz⟩ := I1.tuple hq
    refine wpAny_pyIter_tuple (show s1.heap.IsTuple a its.toArray from p) ?_
    refine ⟨s1.heap.objs.size, [s1.heap.objs.size], _, _, H1, rfl, I1.kept (t' := s1.toks) fun b o e => Heap.get?_push_of_some _ e, turn_tuple a _, ⟨_, Heap.get?_push_size _ rfl, rfl, rfl⟩, fun b hb => ?_, q⟩
    have e : b = s1.heap.objs.size := by simpa using hb
    subst e
    exact I1.fpOk (Nat.le_refl _) (I1.hok.fresh (Nat.le_refl _))
  · subst e
    obtain ⟨t, rfl⟩ := r1
    cases ha : y.cps.all (· < 128)
    · exact wpAny_pyIter_wide ha (pi_one (tk := s1.toks) I1 _ (turn_str _ y t "str_iterator" (.inr rfl)) ⟨_, Heap.get?_push_size _ rfl, rfl, rfl⟩ q)
    · exact wpAny_pyIter_ascii ha (pi_one (tk := s1.toks) I1 _ (turn_str _ y t "str_ascii_iterator" (.inl rfl)) ⟨_, Heap.get?_push_size _ rfl, rfl, rfl⟩ q)
theorem pi_imp {t t' : TI} (h : PI X tg iter t) (k : ∀ σ H R, t' σ H R → t σ H R) : PI X tg iter t' := ⟨fun pins s σ H R I q => h.run pins s σ H R I (k σ H R q)⟩
theorem snd_ival (hK : X.K = N.K) (he : PE X e (TD N ma W)) : PI X tg e (TDI N (iVal ma) W) := pi_imp (pi_any he) fun σ H R t => by
  obtain ⟨w, ρ, h, r1, r2, p⟩ := t
  refine TDg.imp (td_bind (m := ma) r1 r2 p) fun v H1 ⟨w1, h1, x, l1, q1, q2, q3, p1⟩ => ?_
  rw [hK]
  unfold itOf at p1
  split at p1
  · obtain ⟨a, vs, rfl, ha, hr⟩ := q3
    exact .inr (.inl ⟨a, rfl, ⟨vs, q1.sqT ha⟩, p1 w1 H1 _ (Wd.le.refl w1) q1 (jok_tup ha hr)⟩)
  · obtain ⟨a, vs, rfl, ha, hr⟩ := q3
    exact .inl ⟨a, rfl, ⟨vs, .of (q1.sqL ha)⟩, p1 w1 H1 _ (Wd.le.refl w1) q1 (jok_list (vs := vs) fun w' h' H' l r _ => ⟨vs, .of (r.sqL (LstAt.up l ha)), Reps.up l _ _ hr⟩)⟩
  · obtain ⟨a, vs, rfl, ha, hr⟩ := q3
    exact .inl ⟨a, rfl, ⟨vs, q1.scr ha⟩, p1 w1 H1 _ (Wd.le.refl w1) q1 (jok_list (vs := vs) fun w' h' H' l r _ => ⟨vs, r.scr (ScrAt.up l ha), Reps.up l _ _ hr⟩)⟩
  · obtain rfl := q3
    exact .inr (.inr ⟨_, rfl, p1 w1 H1 _ (Wd.le.refl w1) q1 jok_str⟩)
  · split at p1
    · rename_i n _ xs e
      obtain ⟨a, e1, rfl⟩ := q3
      obtain ⟨b, e4, vs, e5, e6⟩ := q1.at_ e
      rw [e1] at e4
      cases e4
      refine .inl ⟨a, rfl, ⟨vs, .of e5⟩, p1 w1 H1 _ (Wd.le.refl w1) q1 (jok_list (vs := vs) fun w' h' H' l r hc => ?_)⟩
      obtain ⟨b, e4, vs', e7, e8⟩ := r.at_ (show h'[n]? = some (.lst xs) from hc)
      rw [l.at_ e1] at e4
      cases e4
      exact ⟨vs', .of e7, e8⟩
    · exact p1.elim
  · exact p1.elim
theorem snd_irng1 {p : Pos} (hg : Gl X "range") (hm : X.mg "range" = none) (ha : PE X a (TD N ma W)) (hs : starEach [a] X.env = [(false, eval a X.env)]) : PI X tg (.Call (.Name "range" p) [a] [] pos) (TDI N (DN.iRng1 ma) W) :=
  pi_imp (pi_range1 hg hm (pa_cons ha pa_nil hs) hs) fun σ H R t => by
    obtain ⟨w, ρ, h, r1, r2, p⟩ := t
    refine TDg.imp (td_bind (m := ma) r1 r2 p) fun v H1 ⟨w1, h1, x, l1, q1, q2, q3, p1⟩ => ?_
    cases x with
    | int j =>
      have p1 : Post N (fun w (p : List D × (Hs → Prop)) (J : L2.It) => JOk N w J p.1 p.2) W w1 σ R (if -(2 ^ 62) ≤ j ∧ j < 2 ^ 62 then .ok (rngL 0 j.toNat, chkTrue) h1 else .no) := p1
      split at p1
      · rename_i hz
        obtain rfl := q3
        exact ⟨j, rfl, hz.1, hz.2, p1 w1 H1 _ (Wd.le.refl w1) q1 jok_rng⟩
      · exact p1.elim
    | _ => exact p1.elim
theorem snd_irng2 {p : Pos} (hg : Gl X "range") (hm : X.mg "range" = none) (ha : PE X a (TD N ma W)) (hb : PE X b (TD N mb W)) (hs : starEach [a, b] X.env = [(false, eval a X.env), (false, eval b X.env)]) (hs2 : starEach [b] X.env = [(false, eval b X.env)]) :
    PI X tg (.Call (.Name "range" p) [a, b] [] pos) (TDI N (DN.iRng2 ma mb) W) :=
  pi_imp (pi_range2 hg hm (pa_cons ha (pa_cons hb pa_nil hs2) (by rw [hs, hs2])) hs hs2) fun σ H R t => by
    obtain ⟨w, ρ, h, r1, r2, p⟩ := t
    refine TDg.imp (td_bind (m := ma) r1 r2 p) fun v H1 ⟨w1, h1, x, l1, q1, q2, q3, p1⟩ => ?_
    refine TDg.imp (td_bind (m := mb) q1 q2 p1) fun u H2 ⟨w2, h2, y, l2, q4, q5, q6, p2⟩ => ?_
    cases x with
    | int i =>
      cases y with
      | int j =>
        have p2 : Post N (fun w (p : List D × (Hs → Prop)) (J : L2.It) => JOk N w J p.1 p.2) W w2 σ R (if (-(2 ^ 62) ≤ i ∧ i < 2 ^ 62) ∧ -(2 ^ 62) ≤ j ∧ j < 2 ^ 62 then .ok (rngL i (j - i).toNat, chkTrue) h2 else .no) := p2
        split at p2
        · rename_i hz
          obtain rfl := q3
          obtain rfl := q6
          exact ⟨i, j, rfl, ⟨hz.1.1, hz.1.2, hz.2.1, hz.2.2⟩, p2 w2 H2 _ (Wd.le.refl w2) q4 jok_rng⟩
        · exact p2.elim
      | _ => exact p2.elim
    | _ => exact p2.elim
end
end DN

set_option Elab.async false
set_option linter.all false
set_option maxRecDepth 100000
/-! D7: calls and defs. -/
namespace DN
open PySem PySem.Spec
open L2 hiding It
open PyProof.Rows hiding St

/-- what is asked of a call's end -/
def PostC (N : Nm) (w : Wd) (Q : VK) (E : XK) : R D → Prop
  | .ok d h' => ∀ w' H' v, w.le w' → RelH N w' h' H' → Rep N w' d v → Q v H'
  | .xc c fs h' => ∀ w' H' cls dd, w.le w' → RelH N w' h' H' → XRep N w' c fs cls dd H' → E cls dd H'
  | .no => False
/-- the promise of the def f at the depth whose calls are C -/
def spC (N : Nm) (C : Calls) (ar f : Nat) : Sp := fun vs H Q E => ∃ w h ds, RelH N w h H ∧ Reps N w ds vs ∧ ds.length = ar ∧ PostC N w Q E (C f ds h)
theorem postC_of {N : Nm} {W : WX} {w : Wd} {σ : St} {Q : VK} : ∀ {r : R D}, Post N (Rep N) W w σ Q r → PostC N w Q (WE W σ) r
  | .ok _ _, p => p
  | .xc _ _ _, p => p
  | .no, p => p
section
variable {X : Cx} {N : Nm} {W : WX} {ma mb : M D} {mr : M (List D)} {e a b c : Expr} {es : List Expr} {pos : Pos} {C : Calls} {k f ar : Nat} {fa : Addr} {fd : FuncData} {ps : List Str} {x : Str} {p : Pos}
theorem td_call (σ : St) (H : Hp) (Q : VK) (t : TD N (mCallN C ar f mr) W σ H Q) : tCallS (spC N C ar f) (WE W) (TDs N mr W) σ H Q := by
  obtain ⟨w, ρ, h, r1, r2, p⟩ := t
  refine TDg.imp (td_bind (m := mr) r1 r2 p) fun vs H1 ⟨w1, h1, ds, l1, q1, q2, q3, p1⟩ => ?_
  split at p1
  · rename_i hl
    exact ⟨w1, h1, ds, q1, q3, hl, postC_of p1⟩
  · exact p1.elim
theorem snd_call (F : FnOk X.prog X.w X.K X.mg X.base (L2.CX X.prog X.w) k fa fd ps (spC N C ar f)) (hr : Room k X.A) (hg : Gl X x) (hm : X.mg x = some (.ref fa)) (hk : PySem.W.keepIn X.K (.ref fa) = true) (hb : Binds X.K fd ps []) (tk : Takes X W)
    (ha : PA X (e :: es) (TDs N mr W)) (hdb : (x == ("__debug__" : Str)) = false) (he : starEach (e :: es) X.env = (false, eval e X.env) :: starEach es X.env) (hpl : (backTo pos (starEach es X.env)).any (·.1) = false) :
    PE X (.Call (.Name x p) (e :: es) [] pos) (TD N (mCallN C ar f mr) W) := pe_imp (pe_callS (E := WE W) F hr hg hm hk hb (fun σ => passAt tk σ) ha hdb he hpl) td_call
theorem snd_call0 (F : FnOk X.prog X.w X.K X.mg X.base (L2.CX X.prog X.w) k fa fd ps (spC N C ar f)) (hr : Room k X.A) (hg : Gl X x) (hm : X.mg x = some (.ref fa)) (hk : PySem.W.keepIn X.K (.ref fa) = true) (hb : Binds X.K fd ps []) (tk : Takes X W)
    (hdb : (x == ("__debug__" : Str)) = false) : PE X (.Call (.Name x p) [] [] pos) (TD N (mCallN C ar f mNil) W) := by
  refine pe_imp (t := tCallS (spC N C ar f) (WE W) (TDs N mNil W)) ⟨fun pins s σ H Q I h => ?_⟩ td_call
  refine wpAny_Call_Name_kw (ld_glob I hg hm ?_ hdb)
  obtain ⟨w, ρ, hh, r1, r2, pp⟩ := h
  have h2 : spC N C ar f [] H Q (WE W σ) := pp w H [] (Wd.le.refl w) r1 rfl
  exact PySem.W.callWith_K0 I.kIn hk (run_fnS (us := []) (E := WE W) F hr hb (passAt tk σ) I .nil h2)
end
/-! ### a def by its body's meaning -/
theorem rep_start {N : Nm} {w : Wd} {Ns : List Str} {ds : List D} {vs : List V} {sl : Nat} (hs : Ns.length = sl) (r : Reps N w ds vs) : RelE N w (startE sl ds) (L2.start Ns vs) := by
  unfold startE L2.start
  have e := r.length
  refine ⟨by rw [List.length_append, List.length_append, List.length_map, List.length_map, List.length_replicate, List.length_replicate, e, hs], fun i d h => ?_⟩
  by_cases hi : i < ds.length
  · rw [List.getElem?_append_left (by rw [List.length_map]; exact hi), List.getElem?_map] at h
    cases q : ds[i]? with
    | none =>
      rw [q] at h
      cases h
    | some d' =>
      rw [q] at h
      cases h
      obtain ⟨v, h1, h2⟩ := r.get q
      refine ⟨v, ?_, h2⟩
      rw [List.getElem?_append_left (by rw [List.length_map, e]; exact hi), List.getElem?_map, h1]
      rfl
  · rw [List.getElem?_append_right (by rw [List.length_map]; omega), List.getElem?_replicate] at h
    split at h <;> cases h
theorem reps_length {N : Nm} {w : Wd} {ds : List D} {vs : List V} (r : Reps N w ds vs) : vs.length = ds.length := r.length

/-! what a traceless def hands back -/
section
variable {N : Nm} {w : Wd}
mutual
theorem rep_blw : ∀ (d : D) (v : V), Rep N w d v → D.blw w.io.length d = true
  | .non, _, _ => rfl
  | .bl _, _, _ => rfl
  | .int _, _, _ => rfl
  | .str _, _, _ => rfl
  | .tup xs, _, h => by
    obtain ⟨_, vs, _, _, r⟩ := h
    exact reps_blw xs vs r
  | .fl xs, _, h => by
    obtain ⟨_, vs, _, _, r⟩ := h
    exact reps_blw xs vs r
  | .sl xs, _, h => by
    obtain ⟨_, vs, _, _, r⟩ := h
    exact reps_blw xs vs r
  | .fd kvs, _, h => by
    obtain ⟨_, vs, _, _, r⟩ := h
    exact repd_blw kvs vs r
  | .ref n, _, h => by
    obtain ⟨a, e, _⟩ := h
    exact decide_eq_true (List.getElem?_eq_some_iff.mp e).1
  | .fn _, _, _ => rfl
  | .xc _ _, _, h => h.elim
theorem reps_blw : ∀ (ds : List D) (vs : List V), Reps N w ds vs → D.blws w.io.length ds = true
  | [], _, _ => rfl
  | d :: ds, _, h => by
    obtain ⟨v, r, _, h1, h2⟩ := h
    show (D.blw _ d && D.blws _ ds) = true
    rw [rep_blw d v h1, reps_blw ds r h2]
    rfl
theorem repd_blw : ∀ (ds : List (D × D)) (vs : List (Key × V)), Repd N w ds vs → D.blwp w.io.length ds = true
  | [], _, _ => rfl
  | (k, d) :: ds, _, h => by
    obtain ⟨q, v, r, _, hk, h1, h2⟩ := h
    show (D.blw _ k && D.blw _ d && D.blwp _ ds) = true
    have hk' : D.blw w.io.length k = true := by
      cases k <;> first | rfl | exact hk.elim
    rw [hk', rep_blw d v h1, repd_blw ds r h2]
    rfl
end
theorem repf_blw : ∀ (ds : List (Nat × D)) (vs : List (Str × V)), Repf N w ds vs → D.blws w.io.length (ds.map (·.2)) = true
  | [], _, _ => rfl
  | (k, d) :: ds, _, h => by
    obtain ⟨v, r, _, h1, h2⟩ := h
    show (D.blw _ d && D.blws _ (ds.map (·.2))) = true
    rw [rep_blw d v h1, repf_blw ds r h2]
    rfl
/-- from a later world to one with fewer objects -/
structure Shr (k : Nat) (w' w'' : Wd) : Prop where
  io : ∀ (n : Nat) (a : Addr), n < k → w'.io[n]? = some a → w''.io[n]? = some a
  im : ∀ a o, w'.im a = some o → w''.im a = some o
variable {w' w'' : Wd} {k : Nat}
mutual
theorem rep_shr (x : Shr k w' w'') : ∀ (d : D) (v : V), D.blw k d = true → Rep N w' d v → Rep N w'' d v
  | .non, _, _, h => h
  | .bl _, _, _, h => h
  | .int _, _, _, h => h
  | .str _, _, _, h => h
  | .tup xs, _, b, h => by
    obtain ⟨a, vs, e, s, r⟩ := h
    exact ⟨a, vs, e, s.imp (x.im a _) id, reps_shr x xs vs b r⟩
  | .fl xs, _, b, h => by
    obtain ⟨a, vs, e, s, r⟩ := h
    exact ⟨a, vs, e, x.im a _ s, reps_shr x xs vs b r⟩
  | .sl xs, _, b, h => by
    obtain ⟨a, vs, e, s, r⟩ := h
    exact ⟨a, vs, e, s.imp (fun ⟨o, h⟩ => ⟨o, x.im a _ h⟩) id, reps_shr x xs vs b r⟩
  | .fd kvs, _, b, h => by
    obtain ⟨a, vs, e, s, r⟩ := h
    exact ⟨a, vs, e, x.im a _ s, repd_shr x kvs vs b r⟩
  | .ref n, _, b, h => by
    obtain ⟨a, e, r⟩ := h
    exact ⟨a, x.io n a (of_decide_eq_true b) e, r⟩
  | .fn _, _, _, h => h
  | .xc _ _, _, _, h => h.elim
theorem reps_shr (x : Shr k w' w'') : ∀ (ds : List D) (vs : List V), D.blws k ds = true → Reps N w' ds vs → Reps N w'' ds vs
  | [], _, _, h => h
  | d :: ds, _, b, h => by
    have b : (D.blw k d && D.blws k ds) = true := b
    rw [Bool.and_eq_true] at b
    obtain ⟨v, r, e, h1, h2⟩ := h
    exact ⟨v, r, e, rep_shr x d v b.1 h1, reps_shr x ds r b.2 h2⟩
theorem repd_shr (x : Shr k w' w'') : ∀ (ds : List (D × D)) (vs : List (Key × V)), D.blwp k ds = true → Repd N w' ds vs → Repd N w'' ds vs
  | [], _, _, h => h
  | (q, d) :: ds, _, b, h => by
    have b : (D.blw k q && D.blw k d && D.blwp k ds) = true := b
    rw [Bool.and_eq_true, Bool.and_eq_true] at b
    obtain ⟨q', v, r, e, hk, h1, h2⟩ := h
    exact ⟨q', v, r, e, hk, rep_shr x d v b.1.2 h1, repd_shr x ds r b.2 h2⟩
end
theorem repf_shr (x : Shr k w' w'') : ∀ (ds : List (Nat × D)) (vs : List (Str × V)), D.blws k (ds.map (·.2)) = true → Repf N w' ds vs → Repf N w'' ds vs
  | [], _, _, h => h
  | (q, d) :: ds, _, b, h => by
    have b : (D.blw k d && D.blws k (ds.map (·.2))) = true := b
    rw [Bool.and_eq_true] at b
    obtain ⟨v, r, e, h1, h2⟩ := h
    exact ⟨v, r, e, rep_shr x d v b.1 h1, repf_shr x ds r b.2 h2⟩
/-- the plain heap h stands again in a later layer's heap in which nothing of it has changed; more is told unchanging -/
theorem relH_back {h g : Hs} {H H' : Hp} (r : RelH N w h H) (l : w.le w') (r' : RelH N w' (h ++ g) H') (more : Hp) (hm : ∀ a o, more a = some o → H' a = some o ∧ ∃ n, h.length ≤ n ∧ w'.io[n]? = some a) :
    ∃ w'', w.le w'' ∧ Shr h.length w' w'' ∧ (∀ a o, more a = some o → w''.im a = some o) ∧ RelH N w'' h H' := by
  have hio : ∀ (n : Nat) (a : Addr), n < h.length → w'.io[n]? = some a → w.io[n]? = some a := fun n a hn e => by
    obtain ⟨m, e2⟩ := l.io
    rw [e2, List.getElem?_append_left (by rw [r.len]; exact hn)] at e
    exact e
  have hfar : ∀ a o, more a = some o → a ∉ w.io := fun a o e hm' => by
    obtain ⟨_, n, hn, e1⟩ := hm a o e
    obtain ⟨j, hj, ej⟩ := List.getElem_of_mem hm'
    have e2 : w'.io[j]? = some a := l.at_ (by rw [List.getElem?_eq_getElem hj, ej])
    obtain ⟨b1, q1⟩ := List.getElem?_eq_some_iff.mp e1
    obtain ⟨b2, q2⟩ := List.getElem?_eq_some_iff.mp e2
    have : n = j := (List.getElem_inj r'.nod).mp (q1.trans q2.symm)
    rw [r.len] at hj
    omega
  have himn : ∀ a o, more a = some o → w'.im a = none := fun a o e => by
    obtain ⟨_, n, hn, e1⟩ := hm a o e
    exact r'.sep a (List.mem_of_getElem? e1)
  have hsub : ∀ a, a ∈ w.io → a ∈ w'.io := fun a ha => by
    obtain ⟨m, e2⟩ := l.io
    rw [e2]
    exact List.mem_append_left _ ha
  have shr : Shr h.length w' ⟨w.io, fun a => (more a).or (w'.im a), w.pv⟩ := ⟨hio, fun a o e => by
    show (more a).or (w'.im a) = some o
    cases q : more a with
    | none => exact e
    | some u =>
      rw [himn a u q] at e
      cases e⟩
  refine ⟨⟨w.io, fun a => (more a).or (w'.im a), w.pv⟩, ⟨⟨[], by simp⟩, fun a o e => shr.im a o (l.im a o e), fun _ _ e => e⟩, shr, fun a o e => by show (more a).or (w'.im a) = some o; rw [e]; rfl, ?_⟩
  refine ⟨fun a o e => ?_, fun a o e => ?_, r.len, r.nod, fun a ha => ?_, fun n a o e1 e2 => ?_⟩
  · have e : (more a).or (w'.im a) = some o := e
    cases q : more a with
    | none =>
      rw [q] at e
      exact r'.imm a o e
    | some u =>
      rw [q] at e
      cases e
      exact (hm a _ q).1
  · obtain ⟨z1, z2, z3⟩ := r'.prv a o (l.pv a o e)
    refine ⟨z1, ?_, fun hm' => z3 (hsub a hm')⟩
    show (more a).or (w'.im a) = none
    rw [z2]
    cases q : more a with
    | none => rfl
    | some u =>
      obtain ⟨_, n, hn, e1⟩ := hm a u q
      exact absurd (List.mem_of_getElem? e1) z3
  · show (more a).or (w'.im a) = none
    rw [r'.sep a (hsub a ha)]
    cases q : more a with
    | none => rfl
    | some u => exact absurd ha (hfar a u q)
  · have hn : n < h.length := (List.getElem?_eq_some_iff.mp e2).1
    have e3 := r'.obj n a o (l.at_ e1) (by rw [List.getElem?_append_left hn]; exact e2)
    have e4 := r.obj n a o e1 e2
    cases o with
    | lst xs =>
      obtain ⟨vs, z1, z2⟩ := e3
      obtain ⟨us, _, z3⟩ := e4
      exact ⟨vs, z1, reps_shr shr xs vs (by rw [← r.len]; exact reps_blw xs us z3) z2⟩
    | dct xs =>
      obtain ⟨vs, z1, z2⟩ := e3
      obtain ⟨us, _, z3⟩ := e4
      exact ⟨vs, z1, repd_shr shr xs vs (by rw [← r.len]; exact repd_blw xs us z3) z2⟩
    | ins c xs =>
      obtain ⟨dx, vs, z1, z2⟩ := e3
      obtain ⟨_, us, _, z3⟩ := e4
      exact ⟨dx, vs, z1, repf_shr shr xs vs (by rw [← r.len]; exact repf_blw xs us z3) z2⟩
end

section
variable {N : Nm} {w : Wd} {h : Hs} {H : Hp} {Q : VK} {E : XK}
theorem noMore {w' : Wd} {H' : Hp} {k : Nat} : ∀ (a : Addr) (o : HO), (fun _ => none : Hp) a = some o → H' a = some o ∧ ∃ n, k ≤ n ∧ w'.io[n]? = some a := fun a o e => by cases e
theorem frz_plain {k : Nat} {h' h : Hs} {d : D} (hd : ∀ n, d ≠ .ref n) : frz k h' h d = if D.blw k d then .ok d h else .no := by
  cases d with
  | ref n => exact absurd rfl (hd n)
  | _ => rfl
theorem frz_ok {w' : Wd} {g : Hs} {H' : Hp} {d : D} {v : V} (r : RelH N w h H) (l : w.le w') (r' : RelH N w' (h ++ g) H') (q : Rep N w' d v) (p : PostC N w Q E (frz h.length (h ++ g) h d)) : Q v H' := by
  have plain : D.blw h.length d = true → PostC N w Q E (.ok d h) → Q v H' := fun b p => by
    obtain ⟨w'', l2, sh, _, r2⟩ := relH_back r l r' (fun _ => none) noMore
    exact p w'' H' v l2 r2 (rep_shr sh d v b q)
  by_cases hd : ∃ n, d = .ref n
  · obtain ⟨n, rfl⟩ := hd
    have p : PostC N w Q E (if n < h.length then .ok (.ref n) h else (match (h ++ g)[n]? with
      | some (.lst xs) => if D.blws h.length xs then .ok (.fl xs) h else .no
      | some (.dct kvs) => if D.blwp h.length kvs then .ok (.fd kvs) h else .no
      | _ => .no)) := p
    split at p
    · rename_i hn
      exact plain (decide_eq_true hn) p
    · rename_i hn
      obtain ⟨a, ea, rfl⟩ := q
      split at p
      · rename_i xs eo
        split at p
        · rename_i hb
          obtain ⟨b, e4, vs, e5, e6⟩ := r'.at_ eo
          rw [ea] at e4
          cases e4
          obtain ⟨w'', l2, sh, hm, r2⟩ := relH_back r l r' (fun b => if b = a then some (.lst vs) else none) fun b o e => by
            by_cases hba : b = a
            · subst hba
              rw [if_pos rfl] at e
              cases e
              exact ⟨e5, n, by omega, ea⟩
            · rw [if_neg hba] at e
              cases e
          exact p w'' H' _ l2 r2 ⟨a, vs, rfl, hm a _ (if_pos rfl), reps_shr sh xs vs hb e6⟩
        · exact p.elim
      · rename_i xs eo
        split at p
        · rename_i hb
          obtain ⟨b, e4, vs, e5, e6⟩ := r'.at_ eo
          rw [ea] at e4
          cases e4
          obtain ⟨w'', l2, sh, hm, r2⟩ := relH_back r l r' (fun b => if b = a then some (.dK vs) else none) fun b o e => by
            by_cases hba : b = a
            · subst hba
              rw [if_pos rfl] at e
              cases e
              exact ⟨e5, n, by omega, ea⟩
            · rw [if_neg hba] at e
              cases e
          exact p w'' H' _ l2 r2 ⟨a, vs, rfl, hm a _ (if_pos rfl), repd_shr sh xs vs hb e6⟩
        · exact p.elim
      · exact p.elim
  · rw [frz_plain fun n e => hd ⟨n, e⟩] at p
    split at p
    · rename_i hb
      exact plain hb p
    · exact p.elim
open Classical in
theorem purify_ok (r : RelH N w h H) : ∀ {x : R D}, PostC N w Q E (purify h x) → PostC N w Q E x
  | .ok d h', p => by
    intro w' H' v l r' q
    have p : PostC N w Q E (if ∃ g, h' = h ++ g then frz h.length h' h d else .no) := p
    split at p
    · rename_i hg
      obtain ⟨g, rfl⟩ := hg
      exact frz_ok r l r' q p
    · exact p.elim
  | .xc c fs h', p => by
    intro w' H' cls dd l r' q
    have p2 : PostC N w Q E (if (∃ g, h' = h ++ g) ∧ D.blws h.length (fs.map (·.2)) = true then .xc c fs h else .no) := p
    clear p
    by_cases hg : (∃ g, h' = h ++ g) ∧ D.blws h.length (fs.map (·.2)) = true
    · rw [if_pos hg] at p2
      obtain ⟨⟨g, rfl⟩, hb⟩ := hg
      obtain ⟨w'', l2, sh, _, r2⟩ := relH_back r l r' (fun _ => none) noMore
      refine p2 w'' H' cls dd l2 r2 ⟨q.1, ?_⟩
      have q2 := q.2
      cases fs with
      | nil => exact q2
      | cons f fs =>
        obtain ⟨a, fv, e1, e2, e3⟩ := q2
        exact ⟨a, fv, e1, e2, repf_shr sh _ _ hb e3⟩
    · rw [if_neg hg] at p2
      exact p2.elim
  | .no, p => p
end
/-- a def keeps its promise, if its body's meaning is kept -/
theorem fn_sound {P : Program} {wd : World} {K : PySem.W.Frag} {mg : Str → Option Value} {base : Heap} {x qual : Str} {params : Arguments} {body : List Stmt} {scope : Scope} {fa : Addr} {fd : FuncData} {Ns ps : List Str} {k n : Nat} {N : Nm} {fe : FnE} {C C' : Calls} {f : Nat}
    (F : FunD K x qual params body scope [] [] fa fd) (S : FnScope Ns ps scope) (hps : ps.length = fe.ar) (hsl : Ns.length = fe.sl) (hC : ∀ ds h, C' f ds h = fe.run n C ds h)
    (hb : ∀ (cdv : Value) (A : Around) (outer : List PySem.Env) (s : Shared) (H : Hp) (E : XK), Room k (A.deeper (envOfC qual scope s.heap.objs.size fa cdv)) → Takes (cxOf (L2.CX P wd) P wd K mg base Ns qual scope fa cdv A outer s H E) (fun cls d _ H => E cls d H) →
      PassesOwn (model P wd) (cxOf (L2.CX P wd) P wd K mg base Ns qual scope fa cdv A outer s H E).A (cxOf (L2.CX P wd) P wd K mg base Ns qual scope fa cdv A outer s H E).env (cxOf (L2.CX P wd) P wd K mg base Ns qual scope fa cdv A outer s H E).xe →
      PSs (cxOf (L2.CX P wd) P wd K mg base Ns qual scope fa cdv A outer s H E) body (TDS N (fe.body n C) (fun cls d _ H => E cls d H))) :
    FnOk P wd K mg base (L2.CX P wd) (k + 1) fa fd ps (spC N C' fe.ar f) := by
  refine F.ok S (fun vs H Q E h => ?_) (fun cdv A outer s H vs Q E hr h => ⟨_, hb cdv A outer s H E hr (takes_of rfl rfl rfl rfl) (passes_of rfl), ?_⟩)
  · obtain ⟨w, hh, ds, _, r, l, _⟩ := h
    rw [r.length, l, hps]
  · obtain ⟨w, hh, ds, r, rs, l, p⟩ := h
    rw [hC] at p
    unfold FnE.run at p
    rw [if_pos l] at p
    have p2 : PostC N w Q E (finB (fe.body n C (startE fe.sl ds) hh)) := by
      split at p
      · exact purify_ok r p
      · exact p
    refine ⟨w, startE fe.sl ds, hh, r, rep_start hsl rs, ?_⟩
    cases e : fe.body n C (startE fe.sl ds) hh with
    | nx ρ h' =>
      rw [e] at p2
      exact fun w' σ' H' l r1 r2 => p2 w' H' .non l r1 rfl
    | rt d h' =>
      rw [e] at p2
      exact fun w' H' v l r1 r2 => p2 w' H' v l r1 r2
    | xc c fs ρ h' =>
      rw [e] at p2
      exact fun w' σ' H' cls dd l r1 r2 r3 => p2 w' H' cls dd l r1 r3
    | bk ρ h' =>
      rw [e] at p2
      exact p2.elim
    | ct ρ h' =>
      rw [e] at p2
      exact p2.elim
    | no =>
      rw [e] at p2
      exact p2.elim
end DN

set_option Elab.async false
set_option linter.all false
set_option maxRecDepth 100000
/-! D8: built-ins, methods of built-in types. -/
namespace DN
open PySem PySem.Spec
open L2 hiding It
open PyProof.Rows hiding St

theorem CallR.or {X : Cx} {f : Value} {r r' : List V → Hp → VK → Prop} (h : CallR X f r) (h' : CallR X f r') : CallR X f (fun xs H Q => r xs H Q ∨ r' xs H Q) := by
  intro pins s σ H xs us Q I rv q
  rcases q with q | q
  · exact h pins s σ H xs us Q I rv q
  · exact h' pins s σ H xs us Q I rv q
def CbS (N : Nm) (r : List V → Hp → VK → Prop) (f : List D → Hs → R D) : Prop := ∀ (W : WX) (w : Wd) (h : Hs) (H : Hp) (σ : St) (ds : List D) (vs : List V) (Q : VK), RelH N w h H → Reps N w ds vs → Post N (Rep N) W w σ Q (f ds h) → r vs H Q
section
variable {X : Cx} {N : Nm} {W : WX} {ma mb : M D} {mr : M (List D)} {e a b c o : Expr} {es : List Expr} {pos p apos : Pos} {x : Str} {id T : String} {r : List V → Hp → VK → Prop} {f : List D → Hs → R D}
theorem td_app (hs : CbS N r f) (σ : St) (H : Hp) (Q : VK) (t : TD N (mApp f mr) W σ H Q) : tCB r (TDs N mr W) σ H Q := by
  obtain ⟨w, ρ, h, r1, r2, p⟩ := t
  refine TDg.imp (td_bind (m := mr) r1 r2 p) fun vs H1 ⟨w1, h1, ds, l1, q1, q2, q3, p1⟩ => ?_
  exact hs W w1 h1 H1 σ ds vs Q q1 q3 p1
theorem snd_cb (hc : CallR X (.builtin id) r) (hs : CbS N r f) (hg : Gl X x) (hm : X.mg x = none) (hv : bootBuiltins x = some (.builtin id)) (ha : PA X (e :: es) (TDs N mr W)) (hn : x ≠ "__name__") (hdb : (x == ("__debug__" : Str)) = false)
    (he : starEach (e :: es) X.env = (false, eval e X.env) :: starEach es X.env) (hpl : (backTo pos (starEach es X.env)).any (·.1) = false) : PE X (.Call (.Name x p) (e :: es) [] pos) (TD N (mApp f mr) W) := pe_imp (pe_callB hc hg hm hv ha hn hdb he hpl) (td_app hs)
theorem snd_ct (hc : CallR X (.type T) r) (hs : CbS N r f) (hg : Gl X x) (hm : X.mg x = none) (hv : bootBuiltins x = some (.type T)) (ha : PA X (e :: es) (TDs N mr W)) (hn : x ≠ "__name__") (hdb : (x == ("__debug__" : Str)) = false)
    (he : starEach (e :: es) X.env = (false, eval e X.env) :: starEach es X.env) (hpl : (backTo pos (starEach es X.env)).any (·.1) = false) : PE X (.Call (.Name x p) (e :: es) [] pos) (TD N (mApp f mr) W) := pe_imp (pe_callTy hc hg hm hv ha hn hdb he hpl) (td_app hs)
end
section
variable {N : Nm} {w : Wd} {h : Hs} {H : Hp}
theorem reps1 {d : D} {vs : List V} (r : Reps N w [d] vs) : ∃ v, vs = [v] ∧ Rep N w d v := by
  obtain ⟨v, r', rfl, h1, h2⟩ := r
  have h2 : _ = [] := h2
  subst h2
  exact ⟨v, rfl, h1⟩
theorem reps2 {d e : D} {vs : List V} (r : Reps N w [d, e] vs) : ∃ v u, vs = [v, u] ∧ Rep N w d v ∧ Rep N w e u := by
  obtain ⟨v, r', rfl, h1, h2⟩ := r
  obtain ⟨u, rfl, h3⟩ := reps1 h2
  exact ⟨v, u, rfl, h1, h3⟩
end
/-! len -/
def rLenA (K : PySem.W.Frag) : List V → Hp → VK → Prop := fun xs H Q => (∃ x n, xs = [x] ∧ LenV K x H n ∧ Q (.int n) H) ∨ ∃ a kvs, xs = [V.ref a] ∧ H a = some (.dK kvs) ∧ Q (.int kvs.length) H
theorem cb_len {X : Cx} : CallR X (.builtin "len") (rLenA X.K) := CallR.or call_len call_lenD
theorem cbs_len {N : Nm} : CbS N (rLenA N.K) bLen := by
  intro W w h H σ ds vs Q r q p
  unfold bLen at p
  split at p
  · obtain ⟨v, rfl, rfl⟩ := reps1 q
    split at p
    · rename_i s hz
      refine .inl ⟨_, s.length, rfl, ⟨by rw [toS_length, ← SZ_eq]; exact hz, (toS_length s).symm⟩, post_val p r rfl⟩
    · exact p.elim
  · obtain ⟨v, rfl, q0⟩ := reps1 q
    split at p
    · rename_i xs e1
      obtain ⟨a, us, rfl, ha, hr⟩ := r.seq q0 e1
      refine .inl ⟨_, xs.length, rfl, ?_, post_val p r rfl⟩
      rcases ha with ha | ha
      · exact .inl ⟨us, ha, hr.length.symm⟩
      · exact .inr ⟨us, ha, hr.length.symm⟩
    · split at p
      · rename_i kvs e1
        obtain ⟨a, ks, rfl, ha, hr⟩ := r.dct q0 e1
        refine .inr ⟨a, ks, rfl, ha, ?_⟩
        rw [hr.length]
        exact post_val p r rfl
      · exact p.elim
  · exact p.elim
theorem cbs_abs {N : Nm} : CbS N (fun xs H Q => ∃ i, xs = [.int i] ∧ Q (.int (if i < 0 then -i else i)) H) bAbs := by
  intro W w h H σ ds vs Q r q p
  unfold bAbs at p
  split at p
  · obtain ⟨v, rfl, rfl⟩ := reps1 q
    exact ⟨_, rfl, post_val p r rfl⟩
  · exact p.elim
theorem cbs_int {N : Nm} : CbS N (fun xs H Q => (∃ i, xs = [.int i] ∧ Q (.int i) H) ∨ ∃ k, xs = [.bl k] ∧ Q (.int (if k then 1 else 0)) H) bInt := by
  intro W w h H σ ds vs Q r q p
  unfold bInt at p
  split at p
  · obtain ⟨v, rfl, rfl⟩ := reps1 q
    exact .inl ⟨_, rfl, post_val p r rfl⟩
  · obtain ⟨v, rfl, rfl⟩ := reps1 q
    exact .inr ⟨_, rfl, post_val p r rfl⟩
  · exact p.elim
theorem cbs_min2 {N : Nm} : CbS N (fun xs H Q => ∃ i j, xs = [.int i, .int j] ∧ Q (.int (if j < i then j else i)) H) bMin2 := by
  intro W w h H σ ds vs Q r q p
  unfold bMin2 at p
  split at p
  · obtain ⟨v, u, rfl, rfl, rfl⟩ := reps2 q
    exact ⟨_, _, rfl, post_val p r rfl⟩
  · exact p.elim
theorem cbs_max2 {N : Nm} : CbS N (fun xs H Q => ∃ i j, xs = [.int i, .int j] ∧ Q (.int (if j > i then j else i)) H) bMax2 := by
  intro W w h H σ ds vs Q r q p
  unfold bMax2 at p
  split at p
  · obtain ⟨v, u, rfl, rfl, rfl⟩ := reps2 q
    exact ⟨_, _, rfl, post_val p r rfl⟩
  · exact p.elim
theorem cbs_ord {N : Nm} : CbS N (fun xs H Q => ∃ x, xs = [.str x] ∧ x.length = 1 ∧ Q (.int (x.cps.getD 0 0 : Nat)) H) bOrd := by
  intro W w h H σ ds vs Q r q p
  unfold bOrd at p
  split at p
  · obtain ⟨v, rfl, rfl⟩ := reps1 q
    exact ⟨_, rfl, rfl, post_val p r rfl⟩
  · exact p.elim
theorem cbs_list {N : Nm} (hp : Bool) : CbS N (fun xs H Q => ∃ p ys, xs = [.ref p] ∧ (SqL N.K H p ys ∨ SqT N.K H p ys) ∧ ∀ l, H l = none → Q (.ref l) (upd H l (.lst ys))) (bList hp) := by
  intro W w h H σ ds vs Q r q p
  unfold bList at p
  split at p
  · obtain ⟨v, rfl, q0⟩ := reps1 q
    split at p
    · rename_i xs e1
      obtain ⟨a, us, rfl, ha, hr⟩ := r.seq q0 e1
      exact ⟨a, us, rfl, ha, (post_mkL r hr p).2⟩
    · exact p.elim
  · exact p.elim
theorem cb_tuple {X : Cx} : CallR X (.type "tuple") (fun xs H Q => ∃ p ys, xs = [.ref p] ∧ ((SqL X.K H p ys ∧ ∀ l, H l = none → Q (.ref l) (upd H l (.tup ys))) ∨ (SqT X.K H p ys ∧ Q (.ref p) H))) := call_tuple_of
theorem cbs_tuple {N : Nm} : CbS N (fun xs H Q => ∃ p ys, xs = [.ref p] ∧ ((SqL N.K H p ys ∧ ∀ l, H l = none → Q (.ref l) (upd H l (.tup ys))) ∨ (SqT N.K H p ys ∧ Q (.ref p) H))) bTuple := by
  intro W w h H σ ds vs Q r q p
  unfold bTuple at p
  split at p
  · obtain ⟨v, rfl, q0⟩ := reps1 q
    obtain ⟨a, us, rfl, ha, hr⟩ := q0
    exact ⟨a, us, rfl, .inr ⟨r.sqT ha, post_val p r ⟨a, us, rfl, ha, hr⟩⟩⟩
  · obtain ⟨v, rfl, q0⟩ := reps1 q
    split at p
    · rename_i xs e1
      obtain ⟨a, us, rfl, ha, hr⟩ := r.lst q0 e1
      exact ⟨a, us, rfl, .inl ⟨ha, (post_mkT r hr p).2⟩⟩
    · exact p.elim
  · exact p.elim
/-! isinstance -/
def Ty.name : Ty → String
  | .int => "int" | .bool => "bool" | .str => "str" | .tuple => "tuple" | .list => "list" | .dict => "dict"
theorem tyx_of {N : Nm} {w : Wd} {h : Hs} {H : Hp} {d : D} {v : V} {t : Ty} {b : Bool} (r : RelH N w h H) (q : Rep N w d v) (e : isTy h d t = some b) : ∃ n : String, TyX N.K H v (.type n) ∧ kitB n t.name = some b := by
  unfold isTy at e
  split at e
  · obtain rfl := q; cases e
    exact ⟨_, .base .non, by cases t <;> decide +kernel⟩
  · obtain rfl := q; cases e
    exact ⟨_, .base (.bl _), by cases t <;> decide +kernel⟩
  · obtain rfl := q; cases e
    exact ⟨_, .base (.int _), by cases t <;> decide +kernel⟩
  · obtain rfl := q; cases e
    exact ⟨_, .base (.str _), by cases t <;> decide +kernel⟩
  · obtain ⟨a, vs, rfl, ha, hr⟩ := q; cases e
    refine ⟨"tuple", ?_, by cases t <;> decide +kernel⟩
    rcases r.sqT ha with (z | ⟨o, z⟩) | ⟨o, its, n, z1, z2, _⟩
    · exact .base (.tup z)
    · exact .fTuple z
    · exact .kTuple z1 z2
  · obtain ⟨a, vs, rfl, ha, hr⟩ := q; cases e
    exact ⟨_, .base (.lst (r.sqL ha)), by cases t <;> decide +kernel⟩
  · obtain ⟨a, vs, rfl, ha, hr⟩ := q; cases e
    refine ⟨"list", ?_, by cases t <;> decide +kernel⟩
    rcases r.scr ha with (z | ⟨o, z⟩) | ⟨o, its, n, z1, z2, _⟩
    · exact .base (.lst z)
    · exact .base (.frz z)
    · exact .kList z1 z2
  · obtain ⟨a, vs, rfl, ha, hr⟩ := q; cases e
    exact ⟨_, .base (.dK (r.imm _ _ ha)), by cases t <;> decide +kernel⟩
  · obtain ⟨a, e1, rfl⟩ := q
    split at e
    · rename_i n xs e3
      cases e
      obtain ⟨b, e4, vs, e5, e6⟩ := r.at_ e3
      rw [e1] at e4
      cases e4
      exact ⟨_, .base (.lst e5), by cases t <;> decide +kernel⟩
    · rename_i n xs e3
      cases e
      obtain ⟨b, e4, vs, e5, e6⟩ := r.at_ e3
      rw [e1] at e4
      cases e4
      exact ⟨_, .base (.dK e5), by cases t <;> decide +kernel⟩
    · cases e
  · cases e
section
variable {X : Cx} {N : Nm} {W : WX} {ma mb : M D} {mr : M (List D)} {e a b c o : Expr} {es : List Expr} {pos p apos : Pos} {x : Str}
theorem snd_isi (t : Ty) (hK : X.K = N.K) (hg : Gl X x) (hm : X.mg x = none) (hv : bootBuiltins x = some (.builtin "isinstance")) (ha : PE X a (TD N ma W)) (hb : PE X b (tC (.ty t.name))) (hn : x ≠ "__name__") (hdb : (x == ("__debug__" : Str)) = false)
    (he : starEach [a, b] X.env = (false, eval a X.env) :: starEach [b] X.env) (he2 : starEach [b] X.env = [(false, eval b X.env)]) (hpl : (backTo pos (starEach [b] X.env)).any (·.1) = false) : PE X (.Call (.Name x p) [a, b] [] pos) (TD N (mIsi t ma) W) :=
  pe_imp (pe_callB call_isi hg hm hv (pa_cons ha (pa_cons hb pa_nil he2) he) hn hdb he hpl) fun σ H Q t' => by
    obtain ⟨w, ρ, h, r1, r2, p⟩ := t'
    refine TDg.imp (td_bind (m := ma) r1 r2 p) fun v H1 ⟨w1, h1, y, l1, q1, q2, q3, p1⟩ => ?_
    split at p1
    · rename_i k e1
      obtain ⟨n, h3, h4⟩ := tyx_of q1 q3 e1
      exact ⟨v, .ty t.name, .type n, .type t.name, k, rfl, .ty _, by rw [hK]; exact h3, kit_ty h4, post_val p1 q1 rfl⟩
    · exact p1.elim
/-! ### methods of built-in types -/
/-- a method that asks its receiver to be of the type T -/
def MtS (N : Nm) (T : String) (r : V → List V → Hp → VK → Prop) (f : D → List D → Hs → R D) : Prop := ∀ (W : WX) (w w' : Wd) (h h' : Hs) (H H' : Hp) (σ : St) (x : D) (ds : List D) (v : V) (vs : List V) (Q : VK), RelH N w h H → Rep N w x v → w.le w' → RelH N w' h' H' → Reps N w' ds vs → Post N (Rep N) W w' σ Q (f x ds h') → r v vs H' Q
theorem isT_ty {T : String} {w : Wd} {h : Hs} {H : Hp} {x : D} {v : V} (r : RelH N w h H) (q : Rep N w x v) (e : isT T h x = true) : tyV N.K T v H := by
  unfold isT at e
  split at e
  · cases e1 : lstOf h x with
    | none =>
      rw [e1] at e
      cases e
    | some xs =>
      obtain ⟨a, vs, rfl, ha, _⟩ := r.lst q e1
      exact .inl ⟨rfl, vs, ha⟩
  · cases e1 : dctOf h x with
    | none =>
      rw [e1] at e
      cases e
    | some xs =>
      obtain ⟨a, vs, rfl, ha, _⟩ := r.dct q e1
      exact .inr (.inr (.inl ⟨rfl, .inl ⟨vs, ha⟩⟩))
  · split at e
    · obtain rfl := q
      rfl
    · cases e
  · cases e
theorem td_bm {T : String} {r : V → List V → Hp → VK → Prop} {f : D → List D → Hs → R D} (hs : MtS N T r f) (hK : X.K = N.K) (σ : St) (H : Hp) (Q : VK) (t : TD N (mBM T f ma mr) W σ H Q) : tBM X.K T r (TD N ma W) (TDs N mr W) σ H Q := by
  obtain ⟨w, ρ, h, r1, r2, p⟩ := t
  refine TDg.imp (td_bind (m := ma) r1 r2 p) fun v H1 ⟨w1, h1, y, l1, q1, q2, q3, p1⟩ => ?_
  split at p1
  · rename_i ht
    refine ⟨by rw [hK]; exact isT_ty q1 q3 ht, ?_⟩
    refine TDg.imp (td_bind (m := mr) q1 q2 p1) fun vs H2 ⟨w2, h2, ds, l2, q4, q5, q6, p2⟩ => ?_
    exact hs W w1 w2 h1 h2 H1 H2 σ y ds v vs Q q1 q3 l2 q4 q6 p2
  · exact p1.elim
theorem td_bm0 {T : String} {r : V → List V → Hp → VK → Prop} {f : D → List D → Hs → R D} (hs : MtS N T r f) (hK : X.K = N.K) (σ : St) (H : Hp) (Q : VK) (t : TD N (mBM T f ma mNil) W σ H Q) : tBM0 X.K T r (TD N ma W) σ H Q := by
  obtain ⟨w, ρ, h, r1, r2, p⟩ := t
  refine TDg.imp (td_bind (m := ma) r1 r2 p) fun v H1 ⟨w1, h1, y, l1, q1, q2, q3, p1⟩ => ?_
  split at p1
  · rename_i ht
    refine ⟨by rw [hK]; exact isT_ty q1 q3 ht, ?_⟩
    exact hs W w1 w1 h1 h1 H1 H1 σ y [] v [] Q q1 q3 (Wd.le.refl w1) q1 rfl p1
  · exact p1.elim
end
theorem mts_append {N : Nm} : MtS N "list" rAppend eAppend := by
  intro W w w' h h' H H' σ x ds v vs Q _ qx l r q p
  unfold eAppend at p
  split at p
  · rename_i n d
    obtain ⟨a, e1, rfl⟩ := qx
    obtain ⟨u, rfl, q0⟩ := reps1 q
    split at p
    · rename_i xs e3
      obtain ⟨b, e4, us, e5, e6⟩ := r.at_ e3
      rw [l.at_ e1] at e4
      cases e4
      split at p
      · rename_i hz
        refine ⟨a, us, u, rfl, rfl, e5, by rw [e6.length, ← SZ_eq]; exact hz, ?_⟩
        exact post_val p (r.put (l.at_ e1) ⟨_, rfl, Reps.append e6 ⟨u, [], rfl, q0, rfl⟩⟩) rfl
      · exact p.elim
    · exact p.elim
  · exact p.elim
theorem mts_extend {N : Nm} : MtS N "list" rExtend eExtend := by
  intro W w w' h h' H H' σ x ds v vs Q _ qx l r q p
  unfold eExtend at p
  split at p
  · rename_i n d
    obtain ⟨a, e1, rfl⟩ := qx
    obtain ⟨u, rfl, q0⟩ := reps1 q
    split at p
    · rename_i xs ys e3 e7
      obtain ⟨b, e4, us, e5, e6⟩ := r.at_ e3
      rw [l.at_ e1] at e4
      cases e4
      obtain ⟨b, zs, rfl, e8, e9⟩ := r.lsu q0 e7
      split at p
      · rename_i hz
        refine ⟨a, b, us, zs, rfl, rfl, e5, e8, by rw [e6.length, e9.length, ← SZ_eq]; exact hz, ?_⟩
        exact post_val p (r.put (l.at_ e1) ⟨_, rfl, Reps.append e6 e9⟩) rfl
      · exact p.elim
    · exact p.elim
  · exact p.elim
def rPopA : V → List V → Hp → VK → Prop := fun x xs H Q => rPop x xs H Q ∨ rPopAt x xs H Q
theorem mt_popA {X : Cx} : MtR X "list.pop" rPopA := MtR.or mt_pop mt_popAt
theorem Reps.dropLast {N : Nm} {w : Wd} {xs : List D} {vs : List V} (r : Reps N w xs vs) : Reps N w xs.dropLast vs.dropLast := by
  rw [List.dropLast_eq_take, List.dropLast_eq_take, r.length]
  exact r.take _
theorem mts_pop {N : Nm} : MtS N "list" rPopA ePop := by
  intro W w w' h h' H H' σ x ds v vs Q _ qx l r q p
  unfold ePop at p
  split at p
  · rename_i n
    obtain ⟨a, e1, rfl⟩ := qx
    have q : vs = [] := q
    subst q
    split at p
    · rename_i xs e3
      obtain ⟨b, e4, us, e5, e6⟩ := r.at_ e3
      rw [l.at_ e1] at e4
      cases e4
      split at p
      · rename_i y ey
        obtain ⟨u, eu, qu⟩ := e6.get ey
        refine .inl ⟨a, us, u, rfl, rfl, e5, by rw [e6.length]; exact eu, ?_⟩
        exact post_val p (r.put (l.at_ e1) ⟨_, rfl, e6.dropLast⟩) qu
      · exact p.elim
    · exact p.elim
  · rename_i n
    obtain ⟨a, e1, rfl⟩ := qx
    obtain ⟨u, rfl, rfl⟩ := reps1 q
    split at p
    · rename_i y xs e3
      obtain ⟨b, e4, us, e5, e6⟩ := r.at_ e3
      rw [l.at_ e1] at e4
      cases e4
      obtain ⟨u, us', rfl, h1, h2⟩ := e6
      refine .inr ⟨a, _, 0, 0, u, rfl, rfl, e5, by decide, by decide, ?_, rfl, ?_⟩
      · rw [seqIndex_of (by omega) (by rw [List.length_cons]; omega)]
        rfl
      · exact post_val p (r.put (l.at_ e1) ⟨_, rfl, h2⟩) h1
    · exact p.elim
  · exact p.elim
end DN

set_option Elab.async false
set_option linter.all false
set_option maxRecDepth 100000
/-! D9: list comprehensions. -/
namespace DN
open PySem PySem.Spec
open L2 hiding It
open PyProof.Rows hiding St

/-! ### something held for oneself -/
section
variable {N : Nm} {w : Wd} {h : Hs} {H : Hp}
def Wd.hold (w : Wd) (p : Addr) (u : HO) : Wd := ⟨w.io, w.im, upd w.pv p u⟩
theorem shr_hold {p : Addr} {u : HO} {k : Nat} : Shr k w (w.hold p u) := ⟨fun _ _ _ e => e, fun _ _ e => e⟩
theorem rep_hold {p : Addr} {u : HO} {d : D} {v : V} (r : Rep N w d v) : Rep N (w.hold p u) d v := rep_shr shr_hold d v (rep_blw d v r) r
theorem reps_hold {p : Addr} {u : HO} {d : List D} {v : List V} (r : Reps N w d v) : Reps N (w.hold p u) d v := reps_shr shr_hold d v (reps_blw d v r) r
theorem obRep_hold {p : Addr} {u : HO} : ∀ {o : O} {x : Option HO}, ObRep N w o x → ObRep N (w.hold p u) o x
  | .lst xs, _, ⟨vs, e, r⟩ => ⟨vs, e, reps_hold r⟩
  | .dct xs, _, ⟨vs, e, r⟩ => ⟨vs, e, repd_shr shr_hold xs vs (repd_blw xs vs r) r⟩
  | .ins c xs, _, ⟨dx, vs, e, r⟩ => ⟨dx, vs, e, repf_shr shr_hold xs vs (repf_blw xs vs r) r⟩
theorem relE_hold {p : Addr} {u : HO} {ρ : Env} {σ : St} (r : RelE N w ρ σ) : RelE N (w.hold p u) ρ σ := ⟨r.1, fun i d e => by
  obtain ⟨v, h1, h2⟩ := r.2 i d e
  exact ⟨v, h1, rep_hold h2⟩⟩
theorem RelH.free (r : RelH N w h H) {p : Addr} (hp : H p = none) : w.im p = none ∧ w.pv p = none ∧ p ∉ w.io := by
  refine ⟨?_, ?_, fun hm => ?_⟩
  · cases q : w.im p with
    | none => rfl
    | some o =>
      have z := r.imm p o q
      rw [hp] at z
      cases z
  · cases q : w.pv p with
    | none => rfl
    | some o =>
      have z := (r.prv p o q).1
      rw [hp] at z
      cases z
  · obtain ⟨n, hn, e⟩ := List.getElem_of_mem hm
    have e2 : w.io[n]? = some p := by rw [List.getElem?_eq_getElem hn, e]
    have hn2 : n < h.length := by rw [← r.len]; exact hn
    have z := r.obj n p h[n] e2 (List.getElem?_eq_getElem hn2)
    rw [hp] at z
    cases q : h[n] with
    | lst xs => rw [q] at z; obtain ⟨_, e, _⟩ := z; cases e
    | dct xs => rw [q] at z; obtain ⟨_, e, _⟩ := z; cases e
    | ins c xs => rw [q] at z; obtain ⟨_, _, e, _⟩ := z; cases e
/-- a thing of one's own is laid or changed -/
theorem RelH.hold (r : RelH N w h H) {p : Addr} {u : HO} (h1 : w.im p = none) (h2 : p ∉ w.io) : RelH N (w.hold p u) h (upd H p u) := by
  refine ⟨fun a o e => ?_, fun a o e => ?_, r.len, r.nod, r.sep, fun n a o e1 e2 => ?_⟩
  · have hap : a ≠ p := fun z => by
      subst z
      have e : w.im a = some o := e
      rw [h1] at e
      cases e
    rw [upd_ne hap]
    exact r.imm a o e
  · have e : upd w.pv p u a = some o := e
    by_cases hap : a = p
    · subst hap
      rw [upd_same] at e
      exact ⟨by rw [upd_same]; exact e, h1, h2⟩
    · rw [upd_ne hap] at e
      obtain ⟨z1, z2, z3⟩ := r.prv a o e
      exact ⟨by rw [upd_ne hap]; exact z1, z2, z3⟩
  · have hap : a ≠ p := fun z => by
      subst z
      exact h2 (List.mem_of_getElem? e1)
    rw [upd_ne hap]
    exact obRep_hold (r.obj n a o e1 e2)
theorem le_hold {w1 : Wd} {p : Addr} {u : HO} (l : w1.le w) (hp : w1.pv p = none) : w1.le (w.hold p u) := ⟨l.io, l.im, fun a o e => by
  have hap : a ≠ p := fun z => by
    subst z
    rw [hp] at e
    cases e
  show upd w.pv p u a = some o
  rw [upd_ne hap]
  exact l.pv a o e⟩
/-- given away: as an unchanging list, as an object of the plain heap -/
theorem RelH.give (r : RelH N w h H) {p : Addr} {vs : List V} {xs : List D} (hp : Bool) (hpv : w.pv p = some (.lst vs)) (q : Reps N w xs vs) (hz : xs.length ≤ SZ) {w1 : Wd} (l : w1.le w) (hn : w1.pv p = none) {W : WX} {σ : St} {Q : VK} (po : Post N (Rep N) W w1 σ Q (mkL hp xs h)) : Q (.ref p) H := by
  obtain ⟨z1, z2, z3⟩ := r.prv p _ hpv
  unfold mkL at po
  rw [if_pos hz] at po
  cases hp with
  | false =>
    have sh : Shr h.length w ⟨w.io, upd w.im p (.lst vs), fun a => if a = p then none else w.pv a⟩ := ⟨fun _ _ _ e => e, fun a o e => by
      have hap : a ≠ p := fun z => by
        subst z
        rw [z2] at e
        cases e
      show upd w.im p _ a = some o
      rw [upd_ne hap]
      exact e⟩
    have lw : w1.le ⟨w.io, upd w.im p (.lst vs), fun a => if a = p then none else w.pv a⟩ := ⟨l.io, fun a o e => sh.im a o (l.im a o e), fun a o e => by
      have hap : a ≠ p := fun z => by
        subst z
        rw [hn] at e
        cases e
      show (if a = p then none else w.pv a) = some o
      rw [if_neg hap]
      exact l.pv a o e⟩
    refine po _ H _ lw ?_ ⟨p, vs, rfl, upd_same, reps_shr sh xs vs (by rw [← r.len]; exact reps_blw xs vs q) q⟩
    refine ⟨fun a o e => ?_, fun a o e => ?_, r.len, r.nod, fun a ha => ?_, fun n a o e1 e2 => ?_⟩
    · have e : upd w.im p (.lst vs) a = some o := e
      by_cases hap : a = p
      · subst hap
        rw [upd_same] at e
        rw [← e]
        exact z1
      · rw [upd_ne hap] at e
        exact r.imm a o e
    · have e : (if a = p then none else w.pv a) = some o := e
      by_cases hap : a = p
      · rw [if_pos hap] at e
        cases e
      · rw [if_neg hap] at e
        obtain ⟨y1, y2, y3⟩ := r.prv a o e
        refine ⟨y1, ?_, y3⟩
        show upd w.im p _ a = none
        rw [upd_ne hap]
        exact y2
    · have hap : a ≠ p := fun z => by
        subst z
        exact z3 ha
      show upd w.im p _ a = none
      rw [upd_ne hap]
      exact r.sep a ha
    · have e3 := r.obj n a o e1 e2
      cases o with
      | lst ys =>
        obtain ⟨us, y1, y2⟩ := e3
        exact ⟨us, y1, reps_shr sh ys us (by rw [← r.len]; exact reps_blw ys us y2) y2⟩
      | dct ys =>
        obtain ⟨us, y1, y2⟩ := e3
        exact ⟨us, y1, repd_shr sh ys us (by rw [← r.len]; exact repd_blw ys us y2) y2⟩
      | ins c ys =>
        obtain ⟨dx, us, y1, y2⟩ := e3
        exact ⟨dx, us, y1, repf_shr sh ys us (by rw [← r.len]; exact repf_blw ys us y2) y2⟩
  | true =>
    have hio : ∀ (n : Nat) (a : Addr), w.io[n]? = some a → (w.io ++ [p])[n]? = some a := fun n a e => by
      rw [List.getElem?_append_left (List.getElem?_eq_some_iff.mp e).1]
      exact e
    have sh : Shr h.length w ⟨w.io ++ [p], w.im, fun a => if a = p then none else w.pv a⟩ := ⟨fun n a _ e => hio n a e, fun a o e => e⟩
    have lw : w1.le ⟨w.io ++ [p], w.im, fun a => if a = p then none else w.pv a⟩ := ⟨by
      obtain ⟨m, e⟩ := l.io
      exact ⟨m ++ [p], by rw [← List.append_assoc, ← e]⟩, l.im, fun a o e => by
      have hap : a ≠ p := fun z => by
        subst z
        rw [hn] at e
        cases e
      show (if a = p then none else w.pv a) = some o
      rw [if_neg hap]
      exact l.pv a o e⟩
    have at_p : (w.io ++ [p])[h.length]? = some p := by
      rw [← r.len]
      exact List.getElem?_concat_length
    refine po _ H _ lw ?_ ⟨p, at_p, rfl⟩
    refine ⟨r.imm, fun a o e => ?_, ?_, ?_, fun a ha => ?_, fun n a o e1 e2 => ?_⟩
    · have e : (if a = p then none else w.pv a) = some o := e
      by_cases hap : a = p
      · rw [if_pos hap] at e
        cases e
      · rw [if_neg hap] at e
        obtain ⟨y1, y2, y3⟩ := r.prv a o e
        refine ⟨y1, y2, fun hm => ?_⟩
        rcases List.mem_append.mp hm with hm | hm
        · exact y3 hm
        · exact hap (by simpa using hm)
    · show (w.io ++ [p]).length = (h ++ [O.lst xs]).length
      rw [List.length_append, List.length_append, r.len]
      rfl
    · show (w.io ++ [p]).Nodup
      rw [List.nodup_append]
      exact ⟨r.nod, by simp, fun a ha b hb => by
        have hb : b = p := by simpa using hb
        subst hb
        exact fun e => z3 (by rw [← e]; exact ha)⟩
    · rcases List.mem_append.mp ha with ha | ha
      · exact r.sep a ha
      · have ha : a = p := by simpa using ha
        subst ha
        exact z2
    · have e1 : (w.io ++ [p])[n]? = some a := e1
      by_cases hn : n < w.io.length
      · rw [List.getElem?_append_left hn] at e1
        rw [List.getElem?_append_left (by rw [← r.len]; exact hn)] at e2
        have e3 := r.obj n a o e1 e2
        cases o with
        | lst ys =>
          obtain ⟨us, y1, y2⟩ := e3
          exact ⟨us, y1, reps_shr sh ys us (by rw [← r.len]; exact reps_blw ys us y2) y2⟩
        | dct ys =>
          obtain ⟨us, y1, y2⟩ := e3
          exact ⟨us, y1, repd_shr sh ys us (by rw [← r.len]; exact repd_blw ys us y2) y2⟩
        | ins c ys =>
          obtain ⟨dx, us, y1, y2⟩ := e3
          exact ⟨dx, us, y1, repf_shr sh ys us (by rw [← r.len]; exact repf_blw ys us y2) y2⟩
      · have hn2 : n = w.io.length := by
          have := (List.getElem?_eq_some_iff.mp e1).1
          rw [List.length_append] at this
          simp at this
          omega
        subst hn2
        rw [List.getElem?_concat_length] at e1
        cases e1
        rw [r.len, List.getElem?_concat_length] at e2
        cases e2
        exact ⟨vs, z1, reps_shr sh xs vs (by rw [← r.len]; exact reps_blw xs vs q) q⟩
end
/-! ### the own names of a comprehension -/
theorem wipe_in {σ : St} {i : Nat} : ∀ {vs : List Nat}, i ∈ vs → (wipe σ vs)[i]? = if i < σ.length then some none else none
  | [], h => by cases h
  | v :: vs, h => by
    unfold wipe
    by_cases e : v = i
    · subst e
      by_cases hl : v < σ.length
      · rw [if_pos hl, List.getElem?_set_self (by rw [wipe_length]; exact hl)]
      · rw [if_neg hl]
        exact List.getElem?_eq_none (by rw [List.length_set, wipe_length]; omega)
    · rw [List.getElem?_set_ne e]
      rcases List.mem_cons.mp h with z | z
      · exact absurd z.symm e
      · exact wipe_in z
theorem wipe_set {σ : St} {i : Nat} {x : Option V} {vs : List Nat} (h : i ∈ vs) : wipe (σ.set i x) vs = wipe σ vs := by
  apply List.ext_getElem?
  intro j
  by_cases hj : j ∈ vs
  · rw [wipe_in hj, wipe_in hj, List.length_set]
  · rw [wipe_out hj, wipe_out hj]
    exact List.getElem?_set_ne (fun e => hj (by rw [← e]; exact h))
theorem wipe_wipe {σ : St} {vs : List Nat} : wipe (wipe σ vs) vs = wipe σ vs := by
  apply List.ext_getElem?
  intro j
  by_cases hj : j ∈ vs
  · rw [wipe_in hj, wipe_in hj, wipe_length]
  · rw [wipe_out hj]
theorem relE_wipe {N : Nm} {w : Wd} {ρ : Env} {σ : St} (r : RelE N w ρ σ) : ∀ vs : List Nat, RelE N w (wipeE ρ vs) (wipe σ vs)
  | [] => r
  | v :: vs => by
    have ih := relE_wipe r vs
    unfold wipeE wipe
    refine ⟨by rw [List.length_set, List.length_set, ih.1], fun i d e => ?_⟩
    by_cases hi : v = i
    · subst hi
      by_cases hl : v < (wipeE ρ vs).length
      · rw [List.getElem?_set_self hl] at e
        cases e
      · rw [List.getElem?_eq_none (by rw [List.length_set]; omega)] at e
        cases e
    · rw [List.getElem?_set_ne hi] at e
      rw [List.getElem?_set_ne hi]
      exact ih.2 i d e
/-- the targets in the layer: one name, two names -/
def gC (K : PySem.W.Frag) : List Nat → TG
  | [i] => gName i
  | [i, j] => L2.gTup K 2 (gCons (gName i) (gCons (gName j) gNil))
  | _ => fun _ _ _ _ => False
def isOk : List Nat → Bool
  | [_] => true
  | [_, _] => true
  | _ => false
theorem gC_ok {N : Nm} {w : Wd} {ρ ρ1 : Env} {σ : St} {h h1 : Hs} {H : Hp} {d : D} {v : V} {is vs : List Nat} {Q : St → Hp → Prop} (r : RelH N w h H) (re : RelE N w ρ σ) (q : Rep N w d v) (hi : ∀ i ∈ is, i ∈ vs) (hk : isOk is = true)
    (e : cTg is d ρ h = .ok ρ1 h1) (hq : ∀ σ2, RelE N w ρ1 σ2 → wipe σ2 vs = wipe σ vs → h1 = h → Q σ2 H) : gC N.K is v σ H Q := by
  match is, hk with
  | [i], _ =>
    cases e
    exact hq _ (re.set q) (wipe_set (hi i (by simp))) rfl
  | [i, j], _ =>
    cases d with
    | tup xs =>
      obtain ⟨a, us, rfl, ha, hr⟩ := q
      have e : (if xs.length = 2 then gTup.go [gVar i, gVar j] xs ρ h else .no) = R.ok ρ1 h1 := e
      split at e
      · rename_i hl
        match xs, hl with
        | [x, y], _ =>
          obtain ⟨u1, u2, rfl, q1, q2⟩ := reps2 hr
          cases e
          refine ⟨a, [u1, u2], rfl, r.sqT ha, rfl, u1, [u2], rfl, u2, [], rfl, rfl, ?_⟩
          exact hq _ ((re.set q1).set q2) (by rw [wipe_set (hi j (by simp)), wipe_set (hi i (by simp))]) rfl
      · cases e
    | _ => cases e
abbrev W0 : WX := fun _ _ _ _ => False
section
variable {X : Cx} {N : Nm} {W : WX} {m : M D} {t : M Bool} {it : DN.It} {elt tg iter : Expr} {ifs : List Expr} {scope : Scope} {own : List (Str × Nat)} {is : List Nat} {pos : Pos} {hp : Bool}
theorem td_lc {vs : List Nat} (hi : ∀ i ∈ is, i ∈ vs) (hk : isOk is = true) (σ : St) (H : Hp) (Q : VK) (tt : TD N (mLc hp vs is it t m) W σ H Q) : tLc (TDI N it W) (gC N.K is) (TDt N t W0) (TD N m W0) vs σ H Q := by
  obtain ⟨w, ρ, h, r1, r2, p⟩ := tt
  refine TDg.imp (td_bind (m := it) r1 r2 p) fun J H1 ⟨w1, h1, x, l1, q1, q2, q3, p1⟩ => ?_
  obtain ⟨xs, chk⟩ := x
  have q3 : JOk N w1 J xs chk := q3
  have p1 : Post N (Rep N) W w1 σ Q (match lcGo chk vs (cTg is) t m xs ρ h1 with | .ok ys h2 => mkL hp ys h2 | _ => .no) := p1
  intro D hD
  obtain ⟨f1, f2, f3⟩ := q1.free hD
  refine ⟨fun i k H => ∃ w h acc av, w1.le w ∧ RelH N w h H ∧ w.pv D = some (.lst av) ∧ Reps N w acc av ∧ k = xs.length - i ∧ i ≤ xs.length ∧ Post N (Rep N) W w1 σ Q (match lcGo chk vs (cTg is) t m (xs.drop i) ρ h with | .ok ys h2 => mkL hp (acc ++ ys) h2 | _ => .no),
    ⟨xs.length, w1.hold D (.lst []), h1, [], [], le_hold (Wd.le.refl w1) f2, q1.hold f1 f3, upd_same, rfl, by omega, Nat.zero_le _, p1⟩, fun i k H2 tt => ?_⟩
  obtain ⟨w2, h2, acc, av, l2, s1, s2, s3, rfl, hi2, p2⟩ := tt
  by_cases he : i = xs.length
  · subst he
    rw [List.drop_length] at p2
    unfold lcGo at p2
    by_cases hc : chk h2
    · rw [if_pos hc] at p2
      refine .inl ⟨(q3 w2 h2 H2 _ l2 s1 hc).1 rfl, ?_⟩
      have p2 : Post N (Rep N) W w1 σ Q (mkL hp (acc ++ []) h2) := p2
      rw [List.append_nil] at p2
      have hz : acc.length ≤ SZ := by
        unfold mkL at p2
        split at p2
        · assumption
        · exact p2.elim
      exact s1.give hp s2 s3 hz l2 f2 p2
    · rw [if_neg hc] at p2
      exact p2.elim
  · have hlt : i < xs.length := by omega
    rw [List.drop_eq_getElem_cons hlt] at p2
    unfold lcGo at p2
    by_cases hc : chk h2
    · rw [if_pos hc] at p2
      obtain ⟨go, yld⟩ := (q3 w2 h2 H2 i l2 s1 hc).2 xs[i] (List.getElem?_eq_getElem hlt)
      refine .inr ⟨go, fun H' => ∃ w h acc av, w1.le w ∧ RelH N w h H' ∧ w.pv D = some (.lst av) ∧ Reps N w acc av ∧ Post N (Rep N) W w1 σ Q (match lcGo chk vs (cTg is) t m (xs.drop (i + 1)) ρ h with | .ok ys h2 => mkL hp (acc ++ ys) h2 | _ => .no), fun H' tt => ?_, fun x H' hy => ?_⟩
      · obtain ⟨w3, h3, acc3, av3, y1, y2, y3, y4, y5⟩ := tt
        exact ⟨xs.length - (i + 1), by omega, w3, h3, acc3, av3, y1, y2, y3, y4, rfl, hlt, y5⟩
      · obtain ⟨w3, l3, t1, t2⟩ := yld x H' hy
        have l13 := l2.trans l3
        have re3 : RelE N w3 (wipeE ρ vs) (wipe σ vs) := relE_wipe (q2.up l13) vs
        cases e1 : cTg is xs[i] (wipeE ρ vs) h2 with
        | xc c fs h' => rw [e1] at p2; exact p2.elim
        | no => rw [e1] at p2; exact p2.elim
        | ok ρ1 hh1 =>
          rw [e1] at p2
          dsimp only at p2
          refine gC_ok t1 re3 t2 hi hk e1 fun σ2 re4 hw hh => ?_
          refine ⟨by rw [hw, wipe_wipe], ?_⟩
          subst hh
          refine ⟨w3, ρ1, hh1, t1, re4, ?_⟩
          cases e2 : t ρ1 hh1 with
          | xc c fs h' => rw [e2] at p2; exact p2.elim
          | no => rw [e2] at p2; exact p2.elim
          | ok b h4 =>
            rw [e2] at p2
            intro w4 H4 b' l4 u1 u2
            cases u2
            cases b with
            | false =>
              dsimp only at p2
              rw [if_neg (by simp)]
              exact ⟨w4, h4, acc, av, l13.trans l4, u1, l4.pv _ _ (l3.pv _ _ s2), Reps.up (l3.trans l4) _ _ s3, p2⟩
            | true =>
              rw [if_pos rfl]
              refine ⟨w4, ρ1, h4, u1, re4.up l4, ?_⟩
              dsimp only at p2
              cases e3 : m ρ1 h4 with
              | xc c fs h' => rw [e3] at p2; exact p2.elim
              | no => rw [e3] at p2; exact p2.elim
              | ok y h5 =>
                rw [e3] at p2
                dsimp only at p2
                intro w5 H5 yv l5 u3 u4
                have lpv : w5.pv D = some (.lst av) := l5.pv _ _ (l4.pv _ _ (l3.pv _ _ s2))
                obtain ⟨z1, z2, z3⟩ := u3.prv D _ lpv
                have racc : Reps N w5 acc av := Reps.up ((l3.trans l4).trans l5) _ _ s3
                cases e4 : lcGo chk vs (cTg is) t m (xs.drop (i + 1)) ρ h5 with
                | xc c fs h' => rw [e4] at p2; exact p2.elim
                | no => rw [e4] at p2; exact p2.elim
                | ok ys h6 =>
                  rw [e4] at p2
                  have p2 : Post N (Rep N) W w1 σ Q (mkL hp (acc ++ (y :: ys)) h6) := p2
                  have hz : (acc ++ (y :: ys)).length ≤ SZ := by
                    unfold mkL at p2
                    split at p2
                    · assumption
                    · exact p2.elim
                  rw [List.length_append, List.length_cons] at hz
                  refine ⟨av, z1, by rw [racc.length, ← SZ_eq]; omega, w5.hold D (.lst (av ++ [yv])), h5, acc ++ [y], av ++ [yv], le_hold ((l13.trans l4).trans l5) f2, u3.hold z2 z3, upd_same, ?_, ?_⟩
                  · exact Reps.append (reps_hold racc) ⟨yv, [], rfl, rep_hold u4, rfl⟩
                  · rw [e4]
                    show Post N (Rep N) W w1 σ Q (mkL hp (acc ++ [y] ++ ys) h6)
                    rw [List.append_assoc]
                    exact p2
    · rw [if_neg hc] at p2
      exact p2.elim
theorem pts_imp {Y : Cx} {ifs : List Expr} {t t' : TT} (h : PTs Y ifs t) (k : ∀ σ H Q, t' σ H Q → t σ H Q) : PTs Y ifs t' := ⟨fun pins s σ H Q I q => h.run pins s σ H Q I (k σ H Q q)⟩
theorem snd_tests0 {Y : Cx} : PTs Y [] (TDt N tYesM W0) := pts_imp pts_nil fun σ H Q t => by
  obtain ⟨w, ρ, h, r1, r2, p⟩ := t
  exact p w H true (Wd.le.refl w) r1 rfl
theorem snd_tests1 {Y : Cx} {c : Expr} (hc : PT Y c (TDt N t W0)) : PTs Y [c] (TDt N t W0) := pts_one hc
/-- what a block's parts must keep -/
structure BlkS (X : Cx) (N : Nm) (scope : Scope) (tg : Expr) (ifs : List Expr) (elt : Expr) (is : List Nat) (t : M Bool) (m : M D) : Prop where
  g : ∀ (s : Shared) (H : Hp) (C : Addr) (cl : List (Str × Addr)) (fp : List Addr), PG (X.blk s H scope (compEnvC scope cl C X.env) fp) tg (gC X.K is)
  t : ∀ (s : Shared) (H : Hp) (C : Addr) (cl : List (Str × Addr)) (fp : List Addr), PTs (X.blk s H scope (compEnvC scope cl C X.env) fp) ifs (TDt N t W0)
  e : ∀ (s : Shared) (H : Hp) (C : Addr) (cl : List (Str × Addr)) (fp : List Addr), PE (X.blk s H scope (compEnvC scope cl C X.env) fp) elt (TD N m W0)
theorem snd_lc (hK : X.K = N.K) (hc : X.calm = true) (hN : X.N.Nodup) (hi : PI X tg iter (TDI N it W)) (ok : BlkOk X.N X.env.scope scope own) (hb : BlkS X N scope tg ifs elt is t m) (hin : ∀ i ∈ is, i ∈ own.map (·.2)) (hk : isOk is = true)
    (hs : ∀ x, foldedSetIterable iter X.env x = pure x) : PE X (.ListComp elt [⟨tg, iter, ifs, 0⟩] scope pos) (TD N (mLc hp (own.map (·.2)) is it t m) W) :=
  pe_imp (pe_lc hc hN hi ok hb.g hb.t hb.e hs) (by rw [hK]; exact td_lc hin hk)
theorem snd_setlc {i : Nat} {y : Str} {py spos : Pos} (hK : X.K = N.K) (hc : X.calm = true) (hN : X.N.Nodup) (hy : X.N[i]? = some y) (hyl : X.env.scope.names.lookup y = some .local) (hsw : swapsWith (.ListComp elt [⟨tg, iter, ifs, 0⟩] scope pos) (some (.Name y py)) spos.line X.env = pure true)
    (hi : PI X tg iter (TDI N it W)) (ok : BlkOk X.N X.env.scope scope own) (hb : BlkS X N scope tg ifs elt is t m) (hin : ∀ i ∈ is, i ∈ own.map (·.2)) (hk : isOk is = true)
    (hs : ∀ x, foldedSetIterable iter X.env x = pure x) : PS X (.Assign [.Name y py] (.ListComp elt [⟨tg, iter, ifs, 0⟩] scope pos) spos) (TDS N (sAsg (mLc hp (own.map (·.2)) is it t m) (gVar i)) W) :=
  ps_imp (ps_setLc hc hN hy hyl hsw hi ok hb.g hb.t hb.e hs) fun Dn σ H tt => by
    have z := td_asg Dn σ H tt
    have z2 : TD N (mLc hp (own.map (·.2)) is it t m) W σ H fun x H1 => gName i x σ H1 Dn.nx := TDg.imp z fun v H1 q => by
      obtain ⟨w, ρ, h, d, r1, r2, q, p⟩ := q
      exact p w _ H1 (Wd.le.refl w) r1 (r2.set q)
    rw [hK]
    exact td_lc hin hk σ H _ z2
end
end DN

set_option Elab.async false
set_option linter.all false
set_option maxRecDepth 100000
/-! CC: from the model's syntax to meanings. -/
namespace DN
open PySem
noncomputable section

/-- what a text's names stand for (sc: as they are read, ss: as they are stored); heap sites; the calls; loops' turns; the depth -/
structure Cc where
  N : List Str
  sc : Scope
  ss : Scope
  fns : List (Str × Nat × Nat)
  glob : List (Str × D)
  blt : List Str
  hp : List (Nat × Nat)
  C : Calls
  n : Nat
  k : Nat
def Cc.heap (c : Cc) (p : Pos) : Bool := c.hp.any fun q => Nat.beq q.1 p.line && Nat.beq q.2 p.col
def strEq (a b : Str) : Bool := decide (a = b)
def ixOf (x : Str) : List Str → Option Nat
  | [] => none
  | y :: r => if strEq y x then some 0 else (ixOf x r).map (· + 1)
/-- the slot of a name of the def -/
def Cc.slot (c : Cc) (x : Str) : Option Nat := match c.sc.names.lookup x with
  | some .local => ixOf x c.N
  | some .cell => ixOf x c.N
  | some .free => ixOf x c.N
  | _ => none
/-- the slot of a name that the def may store -/
def Cc.slotS (c : Cc) (x : Str) : Option Nat := match c.ss.names.lookup x with
  | some .local => ixOf x c.N
  | some .cell => ixOf x c.N
  | _ => none
def Cc.isGlob (c : Cc) (x : Str) : Bool := match c.sc.names.lookup x with
  | some .globalImplicit => true
  | _ => false
def okName (x : Str) : Bool := !strEq x "__debug__" && !strEq x "__classdict__" && !strEq x "__name__"
def Cc.free (c : Cc) (x : Str) : Bool := c.isGlob x && okName x && c.blt.any (strEq x)
/-- a comprehension's scope as its block reads it: what it takes of the def's cells -/
def relab (sc scope : Scope) : Scope := { scope with names := scope.names.map fun p => if (p.2 == NameKind.free && sc.kind == .function && sc.names.lookup p.1 == some .cell) then (p.1, NameKind.cell) else p }
def Cc.blk (c : Cc) (scope : Scope) : Cc := { c with sc := relab c.sc scope, ss := scope }
def plainE : Expr → Bool
  | .Starred _ _ => false
  | .Set _ _ _ => false
  | .Slice _ _ _ _ => false
  | _ => true
/-- no test of its own -/
def plainT : Expr → Bool
  | .UnaryOp .Not _ _ => false
  | .BoolOp _ _ _ => false
  | .IfExp _ _ _ _ => false
  | .Compare _ _ _ _ => false
  | _ => true
/-- a receiver that is no call of super -/
def recvOk : Expr → Bool
  | .Call _ [] [] _ => false
  | _ => true
def isComp : Expr → Bool
  | .ListComp _ _ _ _ => true
  | .SetComp _ _ _ _ => true
  | .DictComp _ _ _ _ _ => true
  | _ => false
def constD : Const → Option D
  | .none => some .non
  | .bool b => some (.bl b)
  | .int i => some (.int i)
  | .str s => some (.str s.cps.toList)
  | _ => none
def binOf (hp : Bool) : Operator → Option (D → D → Hs → R D)
  | .Add => some (opAdd hp)
  | .Sub => some opSub
  | .Mult => some (opMul hp)
  | .FloorDiv => some opFdiv
  | .Mod => some opMod
  | .Pow => some opPow
  | _ => none
def copC : CmpOp → Cop
  | .Eq => .eq | .NotEq => .ne | .Lt => .lt | .LtE => .le | .Gt => .gt | .GtE => .ge | .Is => .isx | .IsNot => .isnot | .In => .inn | .NotIn => .notin
abbrev Rec := (Expr → Option (M D)) × (Expr → Option (M Bool))
def compL (r : Expr → Option (M D)) : List Expr → Option (M (List D))
  | [] => some mNil
  | e :: es => match r e, compL r es with
    | some a, some b => some (mCons a b)
    | _, _ => none
def compAnd (r : Expr → Option (M D)) : List Expr → Option (M D)
  | [] => none
  | [e] => r e
  | e :: es => match r e, compAnd r es with
    | some a, some b => some (mAnd a b)
    | _, _ => none
def compOr (r : Expr → Option (M D)) : List Expr → Option (M D)
  | [] => none
  | [e] => r e
  | e :: es => match r e, compOr r es with
    | some a, some b => some (mOr a b)
    | _, _ => none
def compTAnd (r : Expr → Option (M Bool)) : List Expr → Option (M Bool)
  | [] => none
  | [e] => r e
  | e :: es => match r e, compTAnd r es with
    | some a, some b => some (tAnd a b)
    | _, _ => none
def compTOr (r : Expr → Option (M Bool)) : List Expr → Option (M Bool)
  | [] => none
  | [e] => r e
  | e :: es => match r e, compTOr r es with
    | some a, some b => some (tOr a b)
    | _, _ => none
def tyOf (x : Str) : Option Ty := if strEq x "int" then some .int else if strEq x "bool" then some .bool else if strEq x "str" then some .str else if strEq x "tuple" then some .tuple else if strEq x "list" then some .list else if strEq x "dict" then some .dict else none
/-- built-in functions of values -/
def bFun1 (hp : Bool) (x : Str) : Option (List D → Hs → R D) :=
  if strEq x "len" then some bLen else if strEq x "abs" then some bAbs else if strEq x "int" then some bInt else if strEq x "ord" then some bOrd else if strEq x "list" then some (bList hp) else if strEq x "tuple" then some bTuple else none
def bFun2 (x : Str) : Option (List D → Hs → R D) :=
  if strEq x "min" then some bMin2 else if strEq x "max" then some bMax2 else none
def cName (c : Cc) (x : Str) : Option (M D) := if okName x then (match c.slot x with
  | some i => some (mVar i)
  | none => if c.isGlob x then (match c.glob.lookup x with
    | some d => some (mLit d)
    | none => none) else none) else none
def cCall (r : Expr → Option (M D)) (c : Cc) (x : Str) (args : List Expr) (pos : Pos) : Option (M D) :=
  if c.isGlob x && okName x then (match c.fns.lookup x with
    | some (f, ar) => (match compL r args with
      | some ms => some (mCallN c.C ar f ms)
      | none => none)
    | none => if c.free x then (match args with
      | [a] => (match bFun1 (c.heap pos) x, r a with
        | some f, some m => some (mApp f (mCons m mNil))
        | _, _ => none)
      | [a, b] => if strEq x "isinstance" then (match b with
          | .Name t _ => if c.free t then (match tyOf t, r a with
            | some t, some m => some (mIsi t m)
            | _, _ => none) else none
          | _ => none)
        else (match bFun2 x, r a, r b with
        | some f, some m, some m' => some (mApp f (mCons m (mCons m' mNil)))
        | _, _, _ => none)
      | _ => none) else none) else none
def lineOk (p q : Pos) : Bool := p.endLine == q.line
/-- methods of built-in types -/
def mFun (m : Str) : Option (D → List D → Hs → R D) :=
  if strEq m "append" then some eAppend else if strEq m "extend" then some eExtend else if strEq m "pop" then some ePop else none
def cMeth (r : Expr → Option (M D)) (c : Cc) (o : Expr) (m : Str) (ap : Pos) (args : List Expr) (pos : Pos) : Option (M D) :=
  if recvOk o && lineOk ap pos then (match args with
    | [] => if strEq m "pop" then (match r o with
      | some mo => some (mBM "list" ePop mo mNil)
      | none => none) else none
    | [a] => (match mFun m, r o, r a with
      | some f, some mo, some ma => some (mBM "list" f mo (mCons ma mNil))
      | _, _, _ => none)
    | _ => none) else none
/-- what a for walks -/
def cIter (r : Expr → Option (M D)) (c : Cc) (e : Expr) : Option It := match e with
  | .Call (.Name x _) args [] _ => if c.free "range" && strEq x "range" then (match args with
      | [a] => (match r a with
        | some m => some (iRng1 m)
        | none => none)
      | [a, b] => (match r a, r b with
        | some m, some m' => some (iRng2 m m')
        | _, _ => none)
      | _ => none)
    else (match r e with
      | some m => some (iVal m)
      | none => none)
  | e => (match r e with
      | some m => some (iVal m)
      | none => none)
/-- the own names of a comprehension's target -/
def cOwn (c : Cc) (sc : Scope) : Expr → Option (List (Str × Nat) × List Nat)
  | .Name x _ => (match (c.blk sc).slotS x with
    | some i => some ([(x, i)], [i])
    | none => none)
  | .Tuple [.Name x _, .Name y _] _ _ => (match (c.blk sc).slotS x, (c.blk sc).slotS y with
    | some i, some j => some ([(x, i), (y, j)], [i, j])
    | _, _ => none)
  | _ => none
def cComp (rec : Cc → Rec) (c : Cc) (elt : Expr) (gens : List Comprehension) (scope : Scope) (pos : Pos) : Option (M D) := match gens with
  | [⟨tg, iter, ifs, 0⟩] => (match cOwn c scope tg, cIter (rec c).1 c iter, (rec (c.blk scope)).1 elt with
    | some (own, is), some it, some m => if plainE iter && L2.blkC c.N c.sc scope own then (match ifs with
      | [] => some (mLc (c.heap pos) (own.map (·.2)) is it tYesM m)
      | [t] => (match (rec (c.blk scope)).2 t with
        | some tm => some (mLc (c.heap pos) (own.map (·.2)) is it tm m)
        | none => none)
      | _ => none) else none
    | _, _, _ => none)
  | _ => none
def cPart (r : Expr → Option (M D)) : Option Expr → Option (Option (M D))
  | none => some none
  | some e => (match r e with
    | some m => some (some m)
    | none => none)
def stepE (rec : Cc → Rec) (c : Cc) (e : Expr) : Option (M D) := if plainE e then (match e with
  | .Name x _ => cName c x
  | .Constant v _ _ => (match constD v with
    | some d => some (mLit d)
    | none => none)
  | .BinOp a op b pos => (match binOf (c.heap pos) op, (rec c).1 a, (rec c).1 b with
    | some f, some m, some m' => some (mOp f m m')
    | _, _, _ => none)
  | .UnaryOp .USub a _ => (match (rec c).1 a with
    | some m => some (mNeg m)
    | none => none)
  | .UnaryOp .Not a _ => (match (rec c).1 a with
    | some m => some (mNotT m)
    | none => none)
  | .BoolOp .And es _ => compAnd (rec c).1 es
  | .BoolOp .Or es _ => compOr (rec c).1 es
  | .Compare a [op] [b] _ => (match (rec c).1 a, (rec c).1 b with
    | some m, some m' => some (mOp (opCmp (copC op)) m m')
    | _, _ => none)
  | .Compare a [op, op'] [b, d] _ => (match (rec c).1 a, (rec c).1 b, (rec c).1 d with
    | some m, some m', some m'' => some (mChain (copC op) (copC op') m m' m'')
    | _, _, _ => none)
  | .IfExp t a b _ => (match (rec c).2 t, (rec c).1 a, (rec c).1 b with
    | some m, some m', some m'' => some (mIfe m m' m'')
    | _, _, _ => none)
  | .Tuple es _ _ => (match compL (rec c).1 es with
    | some m => some (mTup m)
    | none => none)
  | .List es pos => (match compL (rec c).1 es with
    | some m => some (mLst (c.heap pos) m)
    | none => none)
  | .Subscript a (.Slice lo hi none _) pos => (match (rec c).1 a, cPart (rec c).1 lo, cPart (rec c).1 hi with
    | some m, some l, some h => some (mSlc (c.heap pos) m l h)
    | _, _, _ => none)
  | .Subscript a i _ => (match (rec c).1 a, (rec c).1 i with
    | some m, some m' => some (mOp opIx m m')
    | _, _ => none)
  | .Call (.Name x _) args [] pos => cCall (rec c).1 c x args pos
  | .Call (.Attribute o m ap) args [] pos => cMeth (rec c).1 c o m ap args pos
  | .ListComp elt gens scope pos => cComp rec c elt gens scope pos
  | _ => none) else none
def stepT (r : Rec) (e : Expr) : Option (M Bool) := match e with
  | .UnaryOp .Not a _ => (match r.2 a with
    | some m => some (tNot m)
    | none => none)
  | .BoolOp .And es _ => compTAnd r.2 es
  | .BoolOp .Or es _ => compTOr r.2 es
  | .Compare a [op] [b] _ => (match r.1 a, r.1 b with
    | some m, some m' => some (tVal (mOp (opCmp (copC op)) m m'))
    | _, _ => none)
  | .Compare a [op, op'] [b, d] _ => (match r.1 a, r.1 b, r.1 d with
    | some m, some m', some m'' => some (tVal (mChain (copC op) (copC op') m m' m''))
    | _, _, _ => none)
  | e => if plainT e then (match r.1 e with
    | some m => some (tVal m)
    | none => none) else none
def comp : Nat → Cc → Rec
  | 0, _ => (fun _ => none, fun _ => none)
  | k + 1, c => (fun e => stepE (comp k) c e, fun e => stepT (comp k c) e)

/-! ### statements -/
def cTg1 (r : Expr → Option (M D)) (c : Cc) : Expr → Option Tg
  | .Name x _ => (match c.slotS x with
    | some i => some (gVar i)
    | none => none)
  | .Subscript o i _ => if plainE i then (match r o, r i with
    | some m, some m' => some (gSub m m')
    | _, _ => none) else none
  | _ => none
def cTgs (r : Expr → Option (M D)) (c : Cc) : List Expr → Option (List Tg)
  | [] => some []
  | e :: es => match cTg1 r c e, cTgs r c es with
    | some g, some gs => some (g :: gs)
    | _, _ => none
def cTgt (r : Expr → Option (M D)) (c : Cc) : Expr → Option Tg
  | .Tuple es _ _ => (match cTgs r c es with
    | some gs => some (gTup gs)
    | none => none)
  | e => cTg1 r c e
def isTuple : Expr → Bool
  | .Tuple _ _ _ => true
  | _ => false
/-- x = [..], x a local: the store within the comprehension's frame -/
def cAsg (r : Rec) (c : Cc) (tg e : Expr) : Option B := match tg, e with
  | .Name y py, .ListComp elt gens scope pos => (match c.ss.names.lookup y, c.slotS y with
    | some .local, some i => if (py.line == pos.line) && !(scope.names.any fun (n, k) => n == y && (k == .local || k == .cell)) then (match r.1 (.ListComp elt gens scope pos) with
      | some m => some (sAsg m (gVar i))
      | none => none) else none
    | _, _ => none)
  | tg, e => if isComp e || (isTuple tg && isTuple e) then none else (match r.1 e, cTgt r.1 c tg with
    | some m, some g => some (sAsg m g)
    | _, _ => none)
def cBlk (f : Stmt → Option B) : List Stmt → Option B
  | [] => some sPass
  | s :: ss => (match f s, cBlk f ss with
    | some a, some b => some (sSeq a b)
    | _, _ => none)
def compS (ke : Nat) (c : Cc) : Nat → Stmt → Option B
  | 0, _ => none
  | k + 1, s => match s with
    | .Expr (.Constant (.str _) _ _) _ => some sPass
    | .Expr e _ => if isComp e then none else (match (comp ke c).1 e with
      | some m => some (sEx m)
      | none => none)
    | .Return none _ => some (sRet (mLit .non))
    | .Return (some e) _ => (match (comp ke c).1 e with
      | some m => some (sRet m)
      | none => none)
    | .If t a b _ => (match (comp ke c).2 t, cBlk (compS ke c k) a, cBlk (compS ke c k) b with
      | some t, some a, some b => some (sIf t a b)
      | _, _, _ => none)
    | .Assign [tg] e _ => cAsg (comp ke c) c tg e
    | .AugAssign (.Name x _) .Add e _ => (match c.slotS x, (comp ke c).1 e with
      | some i, some m => some (sAug i opIAdd m)
      | _, _ => none)
    | .For tg iter body [] _ => if plainE iter then (match cTgt (comp ke c).1 c tg, cIter (comp ke c).1 c iter, cBlk (compS ke c k) body with
      | some g, some it, some b => some (sFor g it b)
      | _, _, _ => none) else none
    | .While t body [] _ => (match (comp ke c).2 t, cBlk (compS ke c k) body with
      | some t, some b => some (sWhile c.n t b)
      | _, _ => none)
    | .Pass _ => some sPass
    | .Break _ => some sBrk
    | .Continue _ => some sCnt
    | _ => none
/-- a def's body, nested at most 40 deep -/
def compB (c : Cc) (body : List Stmt) : Option B := cBlk (compS 40 c 40) body
end
end DN

set_option Elab.async false
set_option linter.all false
set_option maxRecDepth 100000
/-! DS: what is compiled is kept by the machine. -/
namespace DN
open PySem PySem.Spec
open L2 hiding It
open PyProof.Rows hiding St

theorem strEq_iff {a b : Str} : strEq a b = true ↔ a = b := ⟨of_decide_eq_true, decide_eq_true⟩
theorem ixOf_at {x : Str} : ∀ {l : List Str} {i : Nat}, ixOf x l = some i → l[i]? = some x
  | [], _, h => by cases h
  | y :: r, i, h => by
    unfold ixOf at h
    split at h
    · rename_i e
      cases h
      rw [strEq_iff.mp e] <;> rfl
    · cases q : ixOf x r with
      | none =>
        rw [q] at h
        cases h
      | some j =>
        rw [q] at h
        cases h
        show r[j]? = some x
        exact ixOf_at q
/-- where the code stands -/
structure XOk (N : Nm) (c : Cc) (X : Cx) : Prop where
  sl : X.N = c.N
  nd : c.N.Nodup
  sc : X.env.scope = c.sc
  K : X.K = N.K
  glo : ∀ x d, c.glob.lookup x = some d → ∃ v u, X.mg x = some u ∧ RelV v u ∧ ∀ w, Rep N w d v
  fns : ∀ x f ar, c.fns.lookup x = some (f, ar) → ∃ fd ps, X.mg x = some (.ref (N.fa f)) ∧ PySem.W.keepIn X.K (.ref (N.fa f)) = true ∧ Binds X.K fd ps [] ∧ FnOk X.prog X.w X.K X.mg X.base (L2.CX X.prog X.w) c.k (N.fa f) fd ps (spC N c.C ar f)
  blt : ∀ x, x ∈ c.blt → X.mg x = none
  calm : X.calm = true
  room : Room c.k X.A
  ss : ∀ x, (c.ss.names.lookup x = some .local → X.env.scope.names.lookup x = some .local) ∧ (c.ss.names.lookup x = some .cell → X.env.scope.names.lookup x = some .cell ∧ X.fn x = true)
section
variable {N : Nm} {c : Cc} {X : Cx} {W : WX}
theorem XOk.hu (o : XOk N c X) : X.A.units + 64 < cLine := o.room.units
theorem XOk.hu1 (o : XOk N c X) : X.A.units + 1 < cLine := by have := o.hu; omega
theorem XOk.slot (o : XOk N c X) {x : Str} {i : Nat} (h : c.slot x = some i) : X.N[i]? = some x ∧ Vis X.env.scope x := by
  unfold Cc.slot at h
  rw [o.sl, o.sc]
  split at h
  · rename_i e; exact ⟨ixOf_at h, .inl e⟩
  · rename_i e; exact ⟨ixOf_at h, .inr (.inl e)⟩
  · rename_i e; exact ⟨ixOf_at h, .inr (.inr e)⟩
  · cases h
theorem XOk.slotS (o : XOk N c X) {x : Str} {i : Nat} (h : c.slotS x = some i) : X.N[i]? = some x ∧ Loc X.env.scope x ∧ (X.fn x = true ∨ X.env.scope.names.lookup x = some .local) := by
  unfold Cc.slotS at h
  rw [o.sl]
  split at h
  · rename_i e; exact ⟨ixOf_at h, .inl ((o.ss x).1 e), .inr ((o.ss x).1 e)⟩
  · rename_i e; exact ⟨ixOf_at h, .inr ((o.ss x).2 e).1, .inl ((o.ss x).2 e).2⟩
  · cases h
theorem XOk.nodup (o : XOk N c X) : X.N.Nodup := by rw [o.sl]; exact o.nd
theorem XOk.isGlob (o : XOk N c X) {x : Str} (h : c.isGlob x = true) : Gl X x := by
  unfold Cc.isGlob at h
  split at h
  · rename_i e
    show X.env.scope.names.lookup x = some .globalImplicit
    rw [o.sc]
    exact e
  · cases h
theorem okName_of {x : Str} (h : okName x = true) : (x == ("__debug__" : Str)) = false ∧ (x == ("__classdict__" : Str)) = false ∧ x ≠ "__name__" := by
  unfold okName at h
  rw [Bool.and_eq_true, Bool.and_eq_true, Bool.not_eq_true', Bool.not_eq_true', Bool.not_eq_true'] at h
  obtain ⟨⟨h1, h2⟩, h3⟩ := h
  have g : ∀ {a b : Str}, strEq a b = false → a ≠ b := fun {a b} q e => by
    rw [strEq_iff.mpr e] at q
    cases q
  exact ⟨beq_eq_false_iff_ne.mpr (g h1), beq_eq_false_iff_ne.mpr (g h2), g h3⟩
theorem XOk.free (o : XOk N c X) {x : Str} (h : c.free x = true) : Gl X x ∧ X.mg x = none ∧ okName x = true := by
  unfold Cc.free at h
  rw [Bool.and_eq_true, Bool.and_eq_true] at h
  obtain ⟨⟨h1, h2⟩, h3⟩ := h
  refine ⟨o.isGlob h1, ?_, h2⟩
  obtain ⟨y, hy, e⟩ := List.any_eq_true.mp h3
  rw [strEq_iff.mp e]
  exact o.blt y hy
end
/-! ### the syntax's side -/
theorem star_of {e : Expr} {es : List Expr} {env : PySem.Env} (h : plainE e = true) : starEach (e :: es) env = (false, eval e env) :: starEach es env := by
  cases e <;> first | rfl | cases h
theorem assign_of {e : Expr} {es : List Expr} {env : PySem.Env} (h : plainE e = true) : assignEach (e :: es) env = (false, assign e env) :: assignEach es env := by
  cases e <;> first | rfl | cases h
theorem marks_of {op : CmpOp} {e : Expr} (h : plainE e = true) : behindInMarks op e = false := by
  cases e <;> first | rfl | cases h
theorem folded_of {e : Expr} {env : PySem.Env} (h : plainE e = true) : ∀ x, foldedSetIterable e env x = pure x := by
  intro x
  cases e <;> first | rfl | cases h
theorem plainIx_of {e : Expr} (h : plainE e = true) : PlainIx e := by
  intro o i
  cases e <;> first | rfl | cases h
theorem true_of {e : Expr} {env : PySem.Env} (h : plainT e = true) : ∀ whole, isTrue e env whole = (do let v ← whole; standAt e.pos; holding [v] (truthy v)) := by
  intro whole
  cases e with
  | UnaryOp op a pos => cases op <;> first | rfl | cases h
  | _ => first | rfl | cases h
theorem stars_plain {pos : Pos} {env : PySem.Env} : ∀ {es : List Expr}, (∀ e ∈ es, plainE e = true) → (backTo pos (starEach es env)).any (·.1) = false ∧ (backTo pos (starEach es env)).all (fun x => !x.1) = true
  | [], _ => ⟨rfl, rfl⟩
  | e :: es, h => by
    obtain ⟨a, b⟩ := stars_plain (pos := pos) (env := env) (es := es) fun x hx => h x (List.mem_cons_of_mem _ hx)
    rw [star_of (h e List.mem_cons_self)]
    show ((false : Bool) || (backTo pos (starEach es env)).any (·.1)) = false ∧ ((!false) && (backTo pos (starEach es env)).all (fun x => !x.1)) = true
    rw [a, b]
    exact ⟨rfl, rfl⟩
theorem base_of {o : Expr} {m : Str} {env : PySem.Env} {whole : Sem Value} (h : recvOk o = true) : attributeBase o m env whole = whole := by
  cases o with
  | Call f args kws pos =>
    cases args with
    | nil =>
      cases kws with
      | nil => cases h
      | cons _ _ => cases f <;> rfl
    | cons _ _ => cases f <;> rfl
  | _ => rfl
section
variable {N : Nm} {c : Cc} {X : Cx} {W : WX} {r : Expr → Option (M D)} {rt : Expr → Option (M Bool)}
/-- what a compiler of expressions keeps, here -/
def KE (N : Nm) (X : Cx) (W : WX) (r : Expr → Option (M D)) : Prop := ∀ e m, r e = some m → plainE e = true ∧ PE X e (TD N m W)
def KT (N : Nm) (X : Cx) (W : WX) (r : Expr → Option (M Bool)) : Prop := ∀ e m, r e = some m → PT X e (TDt N m W)
theorem compL_ok (h : KE N X W r) : ∀ {es : List Expr} {ms : M (List D)}, compL r es = some ms → (∀ e ∈ es, plainE e = true) ∧ PA X es (TDs N ms W)
  | [], _, e => by
    cases e
    exact ⟨fun _ z => (by cases z), snd_nil⟩
  | x :: es, ms, e => by
    unfold compL at e
    split at e
    · rename_i a b ea eb
      cases e
      obtain ⟨p1, p2⟩ := h x a ea
      obtain ⟨p3, p4⟩ := compL_ok h eb
      refine ⟨fun y hy => ?_, snd_cons p2 p4 (star_of p1)⟩
      rcases List.mem_cons.mp hy with rfl | hy
      · exact p1
      · exact p3 y hy
    · cases e
theorem compAnd_ok (h : KE N X W r) {pos : Pos} : ∀ {es : List Expr} {m : M D}, compAnd r es = some m → PE X (.BoolOp .And es pos) (TD N m W)
  | [], _, e => by cases e
  | [x], _, e => pe_one (h x _ e).2
  | x :: y :: es, m, e => by
    have e : (match r x, compAnd r (y :: es) with
      | some a, some b => some (mAnd a b)
      | _, _ => none) = some m := e
    split at e
    · rename_i a b ea eb
      cases e
      exact snd_and (h x a ea).2 (compAnd_ok h eb)
    · cases e
theorem compOr_ok (h : KE N X W r) {pos : Pos} : ∀ {es : List Expr} {m : M D}, compOr r es = some m → PE X (.BoolOp .Or es pos) (TD N m W)
  | [], _, e => by cases e
  | [x], _, e => pe_one (h x _ e).2
  | x :: y :: es, m, e => by
    have e : (match r x, compOr r (y :: es) with
      | some a, some b => some (mOr a b)
      | _, _ => none) = some m := e
    split at e
    · rename_i a b ea eb
      cases e
      exact snd_or (h x a ea).2 (compOr_ok h eb)
    · cases e
theorem compTAnd_ok (h : KT N X W rt) {pos : Pos} : ∀ {es : List Expr} {m : M Bool}, compTAnd rt es = some m → PW X (.BoolOp .And es pos) (TDt N m W)
  | [], _, e => by cases e
  | [x], _, e => pw_and1 (h x _ e)
  | x :: y :: es, m, e => by
    have e : (match rt x, compTAnd rt (y :: es) with
      | some a, some b => some (DN.tAnd a b)
      | _, _ => none) = some m := e
    split at e
    · rename_i a b ea eb
      cases e
      exact snd_tand (h x a ea) (compTAnd_ok h eb)
    · cases e
theorem compTOr_ok (h : KT N X W rt) {pos : Pos} : ∀ {es : List Expr} {m : M Bool}, compTOr rt es = some m → PW X (.BoolOp .Or es pos) (TDt N m W)
  | [], _, e => by cases e
  | [x], _, e => pw_or1 (h x _ e)
  | x :: y :: es, m, e => by
    have e : (match rt x, compTOr rt (y :: es) with
      | some a, some b => some (DN.tOr a b)
      | _, _ => none) = some m := e
    split at e
    · rename_i a b ea eb
      cases e
      exact snd_tor (h x a ea) (compTOr_ok h eb)
    · cases e
theorem cName_ok (o : XOk N c X) {x : Str} {pos : Pos} {m : M D} (e : cName c x = some m) : PE X (.Name x pos) (TD N m W) := by
  unfold cName at e
  split at e
  · rename_i hok
    obtain ⟨d1, d2, d3⟩ := okName_of hok
    split at e
    · rename_i i hi
      cases e
      obtain ⟨h1, h2⟩ := o.slot hi
      exact snd_var (pe_var h1 h2 d1 d2)
    · split at e
      · rename_i hg
        split at e
        · rename_i d hd
          cases e
          obtain ⟨v, u, h1, h2, h3⟩ := o.glo x d hd
          exact snd_lit h3 (pe_glob (o.isGlob hg) h1 h2 d1)
        · cases e
      · cases e
  · cases e
theorem cConst_ok {v : Const} {k : Nat} {pos : Pos} {d : D} (e : constD v = some d) : PE X (.Constant v k pos) (TD N (mLit d) W) := by
  cases v with
  | none => cases e; exact snd_lit (fun _ => rfl) pe_non
  | bool b => cases e; exact snd_lit (fun _ => rfl) pe_bl
  | int i => cases e; exact snd_lit (fun _ => rfl) pe_int
  | str s =>
    cases e
    refine snd_lit (v := .str s) (fun _ => ?_) pe_str
    show V.str s = V.str (toS s.cps.toList)
    rw [toS_of]
  | _ => cases e
theorem binOf_ok {hp : Bool} {op : Operator} {f : D → D → Hs → R D} (hK : X.K = N.K) (e : binOf hp op = some f) : ∃ rr, OpR X (binaryOp op) rr ∧ OpS N rr f := by
  cases op with
  | Add => cases e; exact ⟨_, op_addA, by rw [hK]; exact ops_add hp⟩
  | Sub => cases e; exact ⟨_, op_sub, ops_sub⟩
  | Mult => cases e; exact ⟨_, op_mulA, ops_mul hp⟩
  | FloorDiv => cases e; exact ⟨_, op_fdivN, ops_fdiv⟩
  | Mod => cases e; exact ⟨_, op_modN, ops_mod⟩
  | Pow => cases e; exact ⟨_, op_pow, ops_pow⟩
  | _ => cases e
theorem copC_ok (o : XOk N c X) (op : CmpOp) : ∃ rr, OpR X (compareOp op) rr ∧ OpS N rr (opCmp (copC op)) := by
  obtain ⟨rr, h1, h2⟩ := cop_ok (N := N) o.K o.hu op
  exact ⟨rr, h1, by cases op <;> exact h2⟩
theorem tyOf_ok {x : Str} {t : Ty} (e : tyOf x = some t) : bootBuiltins x = some (.type t.name) := by
  unfold tyOf at e
  repeat (split at e; (rename_i hx; cases e; rw [strEq_iff.mp hx]; decide +kernel))
  cases e
theorem bFun1_ok (o : XOk N c X) {hp : Bool} {x : Str} {p pos : Pos} {a : Expr} {f : List D → Hs → R D} {m : M D} (hx : c.free x = true) (e : bFun1 hp x = some f) (pa : plainE a = true) (ha : PE X a (TD N m W)) : PE X (.Call (.Name x p) [a] [] pos) (TD N (mApp f (mCons m mNil)) W) := by
  obtain ⟨g1, g2, g3⟩ := o.free hx
  obtain ⟨d1, d2, d3⟩ := okName_of g3
  have hA : PA X [a] (TDs N (mCons m mNil) W) := snd_cons ha snd_nil (star_of pa)
  unfold bFun1 at e
  split at e
  · rename_i hx
    cases e
    have hx := strEq_iff.mp hx
    refine snd_cb (id := "len") cb_len (by rw [o.K]; exact cbs_len) g1 g2 (by rw [hx]; decide +kernel) hA d3 d1 (star_of pa) rfl
  split at e
  · rename_i hx
    cases e
    have hx := strEq_iff.mp hx
    exact snd_cb (id := "abs") call_abs cbs_abs g1 g2 (by rw [hx]; decide +kernel) hA d3 d1 (star_of pa) rfl
  split at e
  · rename_i hx
    cases e
    have hx := strEq_iff.mp hx
    exact snd_ct (T := "int") call_int1 cbs_int g1 g2 (by rw [hx]; decide +kernel) hA d3 d1 (star_of pa) rfl
  split at e
  · rename_i hx
    cases e
    have hx := strEq_iff.mp hx
    exact snd_cb (id := "ord") call_ord cbs_ord g1 g2 (by rw [hx]; decide +kernel) hA d3 d1 (star_of pa) rfl
  split at e
  · rename_i hx
    cases e
    have hx := strEq_iff.mp hx
    exact snd_ct (T := "list") call_list_of (by rw [o.K]; exact cbs_list hp) g1 g2 (by rw [hx]; decide +kernel) hA d3 d1 (star_of pa) rfl
  split at e
  · rename_i hx
    cases e
    have hx := strEq_iff.mp hx
    exact snd_ct (T := "tuple") cb_tuple (by rw [o.K]; exact cbs_tuple) g1 g2 (by rw [hx]; decide +kernel) hA d3 d1 (star_of pa) rfl
  · cases e
theorem bFun2_ok (o : XOk N c X) {x : Str} {p pos : Pos} {a b : Expr} {f : List D → Hs → R D} {m m' : M D} (hx : c.free x = true) (e : bFun2 x = some f) (pa : plainE a = true) (ha : PE X a (TD N m W)) (pb : plainE b = true) (hb : PE X b (TD N m' W)) :
    PE X (.Call (.Name x p) [a, b] [] pos) (TD N (mApp f (mCons m (mCons m' mNil))) W) := by
  obtain ⟨g1, g2, g3⟩ := o.free hx
  obtain ⟨d1, d2, d3⟩ := okName_of g3
  have hA : PA X [a, b] (TDs N (mCons m (mCons m' mNil)) W) := snd_cons ha (snd_cons hb snd_nil (star_of pb)) (star_of pa)
  have hpl : (backTo pos (starEach [b] X.env)).any (·.1) = false := (stars_plain fun e he => by
    have he : e = b := by simpa using he
    rw [he]
    exact pb).1
  unfold bFun2 at e
  split at e
  · rename_i hx
    cases e
    have hx := strEq_iff.mp hx
    exact snd_cb (id := "min") (call_min2 o.calm) cbs_min2 g1 g2 (by rw [hx]; decide +kernel) hA d3 d1 (star_of pa) hpl
  split at e
  · rename_i hx
    cases e
    have hx := strEq_iff.mp hx
    exact snd_cb (id := "max") (call_max2 o.calm) cbs_max2 g1 g2 (by rw [hx]; decide +kernel) hA d3 d1 (star_of pa) hpl
  · cases e
theorem cCall_ok (o : XOk N c X) (tk : Takes X W) (h : KE N X W r) {x : Str} {args : List Expr} {p pos : Pos} {m : M D} (e : cCall r c x args pos = some m) : PE X (.Call (.Name x p) args [] pos) (TD N m W) := by
  unfold cCall at e
  split at e
  · rename_i hg
    rw [Bool.and_eq_true] at hg
    obtain ⟨d1, d2, d3⟩ := okName_of hg.2
    split at e
    · rename_i f ar hf
      obtain ⟨fd, ps, h1, h2, h3, h4⟩ := o.fns x f ar hf
      split at e
      · rename_i ms hms
        cases e
        obtain ⟨p1, p2⟩ := compL_ok h hms
        cases args with
        | nil =>
          cases hms
          exact snd_call0 h4 o.room (o.isGlob hg.1) h1 h2 h3 tk d1
        | cons a as => exact snd_call h4 o.room (o.isGlob hg.1) h1 h2 h3 tk p2 d1 (star_of (p1 a List.mem_cons_self)) (stars_plain fun e he => p1 e (List.mem_cons_of_mem _ he)).1
      · cases e
    · split at e
      · rename_i hx
        split at e
        · rename_i a
          split at e
          · rename_i f m1 hf hm
            cases e
            exact bFun1_ok o hx hf (h a m1 hm).1 (h a m1 hm).2
          · cases e
        · rename_i a b
          split at e
          · rename_i hi
            split at e
            · rename_i t pt
              split at e
              · rename_i hft
                split at e
                · rename_i t1 m1 ht hm
                  cases e
                  obtain ⟨g1, g2, g3⟩ := o.free hft
                  obtain ⟨d4, d5, d6⟩ := okName_of g3
                  have hi := strEq_iff.mp hi
                  have hb : PE X (.Name t pt) (tC (.ty t1.name)) := pe_bltn g1 g2 (tyOf_ok ht) rfl d6 d4
                  obtain ⟨g4, g5, g6⟩ := o.free hx
                  exact snd_isi t1 o.K g4 g5 (by rw [hi]; decide +kernel) (h a m1 hm).2 hb d3 d1 (star_of (h a m1 hm).1) rfl rfl
                · cases e
              · cases e
            · cases e
          · split at e
            · rename_i f m1 m2 hf hm1 hm2
              cases e
              exact bFun2_ok o hx hf (h a m1 hm1).1 (h a m1 hm1).2 (h b m2 hm2).1 (h b m2 hm2).2
            · cases e
        · cases e
      · cases e
  · cases e
theorem mFun_ok {m : Str} {f : D → List D → Hs → R D} (e : mFun m = some f) : ∃ id rr, Slot "list" m id ∧ typeOf (.builtin id) = pure (.type "method_descriptor") ∧ MtR X id rr ∧ MtS N "list" rr f := by
  unfold mFun at e
  split at e
  · rename_i hx
    cases e
    rw [strEq_iff.mp hx]
    exact ⟨_, _, PySem.F.slot_list_append, PySem.F.type_list_append, mt_append, mts_append⟩
  split at e
  · rename_i hx
    cases e
    rw [strEq_iff.mp hx]
    exact ⟨_, _, PySem.F.slot_list_extend, PySem.F.type_list_extend, mt_extend, mts_extend⟩
  split at e
  · rename_i hx
    cases e
    rw [strEq_iff.mp hx]
    exact ⟨_, _, PySem.F.slot_list_pop, PySem.F.type_list_pop, mt_popA, mts_pop⟩
  · cases e
theorem cMeth_ok (o : XOk N c X) (h : KE N X W r) {ob : Expr} {mn : Str} {args : List Expr} {ap pos : Pos} {m : M D} (e : cMeth r c ob mn ap args pos = some m) : PE X (.Call (.Attribute ob mn ap) args [] pos) (TD N m W) := by
  unfold cMeth at e
  split at e
  · rename_i hr
    rw [Bool.and_eq_true] at hr
    split at e
    · split at e
      · rename_i hm
        have hm := strEq_iff.mp hm
        subst hm
        split at e
        · rename_i mo hmo
          cases e
          exact pe_imp (pe_bm0 PySem.F.plainAttrs_list PySem.F.slot_list_pop PySem.F.type_list_pop mt_popA (h ob mo hmo).2 (base_of hr.1) hr.2) (td_bm0 mts_pop o.K)
        · cases e
      · cases e
    · rename_i a
      split at e
      · rename_i f mo ma hf hmo hma
        cases e
        obtain ⟨id, rr, s1, s2, s3, s4⟩ := mFun_ok (X := X) (N := N) hf
        obtain ⟨pa, ha⟩ := h a ma hma
        refine pe_imp (pe_bm PySem.F.plainAttrs_list s1 s2 s3 (h ob mo hmo).2 (snd_cons ha snd_nil (star_of pa)) (base_of hr.1) ?_ hr.2 (star_of pa) rfl) (td_bm s4 o.K)
        rw [star_of pa]
        rfl
      · cases e
    · cases e
  · cases e
theorem cIter_ok (o : XOk N c X) (h : KE N X W r) {tg e : Expr} {it : DN.It} (q : cIter r c e = some it) : PI X tg e (TDI N it W) := by
  unfold cIter at q
  split at q
  · rename_i x p args pos
    split at q
    · rename_i hr
      rw [Bool.and_eq_true] at hr
      have hx := strEq_iff.mp hr.2
      subst hx
      obtain ⟨g1, g2, g3⟩ := o.free hr.1
      split at q
      · rename_i a
        split at q
        · rename_i m hm
          cases q
          exact snd_irng1 g1 g2 (h a m hm).2 (star_of (h a m hm).1)
        · cases q
      · rename_i a b
        split at q
        · rename_i m m' hm hm'
          cases q
          refine snd_irng2 g1 g2 (h a m hm).2 (h b m' hm').2 ?_ (star_of (h b m' hm').1)
          rw [star_of (h a m hm).1, star_of (h b m' hm').1]
          rfl
        · cases q
      · cases q
    · split at q
      · rename_i m hm
        cases q
        exact snd_ival o.K (h _ m hm).2
      · cases q
  · split at q
    · rename_i m hm
      cases q
      exact snd_ival o.K (h _ m hm).2
    · cases q
end

/-! ### expressions -/
def SndE (N : Nm) (k : Nat) : Prop := ∀ (c : Cc) (X : Cx) (W : WX), XOk N c X → Takes X W → KE N X W (comp k c).1 ∧ KT N X W (comp k c).2
theorem relab_eq (scope : Scope) (env : PySem.Env) : relabel scope env = relab env.scope scope := rfl
theorem relab_lookup {env : PySem.Env} {k : NameKind} (hk : k ≠ .free) : ∀ {names : List (Str × NameKind)} {x : Str}, names.lookup x = some k →
    (names.map fun p => if (p.2 == NameKind.free && env.scope.kind == .function && env.scope.names.lookup p.1 == some .cell) then (p.1, NameKind.cell) else p).lookup x = some k
  | [], _, h => by cases h
  | (n, k') :: r, x, h => by
    have ih := @relab_lookup env k hk r x
    rw [List.map_cons]
    by_cases e : (x == n) = true
    · have h2 : some k' = some k := by
        rw [List.lookup_cons, e] at h
        exact h
      have h2 := Option.some.inj h2
      have hf : (k' == NameKind.free && env.scope.kind == .function && env.scope.names.lookup n == some .cell) = false := by
        have : (k' == NameKind.free) = false := by
          rw [h2]
          cases k <;> first | rfl | exact absurd rfl hk
        rw [this]
        rfl
      show List.lookup x ((if (k' == NameKind.free && env.scope.kind == .function && env.scope.names.lookup n == some .cell) = true then (n, NameKind.cell) else (n, k')) :: _) = some k
      rw [hf, if_neg (by simp), List.lookup_cons, e]
      exact congrArg some h2
    · have e' : (x == n) = false := by simpa using e
      have h2 : r.lookup x = some k := by
        rw [List.lookup_cons, e'] at h
        exact h
      show List.lookup x ((if (k' == NameKind.free && env.scope.kind == .function && env.scope.names.lookup n == some .cell) = true then (n, NameKind.cell) else (n, k')) :: _) = some k
      split
      · rw [List.lookup_cons, e']
        exact ih h2
      · rw [List.lookup_cons, e']
        exact ih h2
theorem XOk.blk {N : Nm} {c : Cc} {X : Cx} {s : Shared} {H : Hp} {scope : Scope} {cl : List (Str × Addr)} {C : Addr} {fp : List Addr} (o : XOk N c X) : XOk N (c.blk scope) (X.blk s H scope (compEnvC scope cl C X.env) fp) :=
  ⟨o.sl, o.nd, by show relabel scope X.env = relab c.sc scope; rw [relab_eq, o.sc], o.K, o.glo, o.fns, o.blt, o.calm, o.room, fun x => ⟨fun h => by
    show (relabel scope X.env).names.lookup x = some .local
    exact relab_lookup (by decide) h, fun h => ⟨by
    show (relabel scope X.env).names.lookup x = some .cell
    exact relab_lookup (by decide) h, by
    show (scope.names.lookup x == some NameKind.cell) = true
    have h : scope.names.lookup x = some .cell := h
    rw [h]
    rfl⟩⟩⟩
section
variable {N : Nm} {c : Cc} {X : Cx} {W : WX}
theorem cOwn_ok (o : XOk N c X) {sc : Scope} {tg : Expr} {own : List (Str × Nat)} {is : List Nat} (e : cOwn c sc tg = some (own, is)) : isOk is = true ∧ (∀ i ∈ is, i ∈ own.map (·.2)) ∧
    ∀ (s : Shared) (H : Hp) (C : Addr) (cl : List (Str × Addr)) (fp : List Addr), PG (X.blk s H sc (compEnvC sc cl C X.env) fp) tg (gC X.K is) := by
  unfold cOwn at e
  split at e
  · rename_i x p
    split at e
    · rename_i i hi
      cases e
      refine ⟨rfl, by simp, fun s H C cl fp => ?_⟩
      obtain ⟨h1, h2, h3⟩ := (XOk.blk (s := s) (H := H) (scope := sc) (cl := cl) (C := C) (fp := fp) o).slotS hi
      exact pg_name (XOk.blk o).nodup h1 h2 h3
    · cases e
  · rename_i x p y p' k pos
    split at e
    · rename_i i j hi hj
      cases e
      refine ⟨rfl, by simp, fun s H C cl fp => ?_⟩
      have ob := XOk.blk (s := s) (H := H) (scope := sc) (cl := cl) (C := C) (fp := fp) o
      obtain ⟨h1, h2, h3⟩ := ob.slotS hi
      obtain ⟨h4, h5, h6⟩ := ob.slotS hj
      exact pg_tup (n := 2) ob.calm (pgs_cons (pg_name ob.nodup h1 h2 h3) (pgs_cons (pg_name ob.nodup h4 h5 h6) pgs_nil)) rfl rfl
    · cases e
  · cases e
theorem cComp_parts {k : Nat} (hk : SndE N k) (o : XOk N c X) (tk : Takes X W) {elt : Expr} {gens : List Comprehension} {scope : Scope} {pos : Pos} {m : M D} (e : cComp (comp k) c elt gens scope pos = some m) :
    ∃ tg iter ifs own is it t me, gens = [⟨tg, iter, ifs, 0⟩] ∧ m = mLc (c.heap pos) (own.map (·.2)) is it t me ∧ PI X tg iter (TDI N it W) ∧ BlkOk X.N X.env.scope scope own ∧ BlkS X N scope tg ifs elt is t me ∧ (∀ i ∈ is, i ∈ own.map (·.2)) ∧ isOk is = true ∧ plainE iter = true := by
  unfold cComp at e
  split at e
  · rename_i tg iter ifs
    split at e
    · rename_i own is it me ho hi hm
      split at e
      · rename_i hp
        rw [Bool.and_eq_true] at hp
        obtain ⟨q1, q2, q3⟩ := cOwn_ok o ho
        have pi : PI X tg iter (TDI N it W) := cIter_ok o (hk c X W o tk).1 hi
        have bo : BlkOk X.N X.env.scope scope own := by
          rw [o.sl, o.sc]
          exact blkOk_by hp.2
        have he : ∀ (s : Shared) (H : Hp) (C : Addr) (cl : List (Str × Addr)) (fp : List Addr), PE (X.blk s H scope (compEnvC scope cl C X.env) fp) elt (TD N me W0) := fun s H C cl fp => ((hk _ _ W0 (XOk.blk o) takes0).1 elt me hm).2
        split at e
        · cases e
          exact ⟨tg, iter, [], own, is, it, tYesM, me, rfl, rfl, pi, bo, ⟨q3, fun s H C cl fp => snd_tests0, he⟩, q2, q1, hp.1⟩
        · rename_i t
          split at e
          · rename_i tm ht
            cases e
            exact ⟨tg, iter, [t], own, is, it, tm, me, rfl, rfl, pi, bo, ⟨q3, fun s H C cl fp => snd_tests1 ((hk _ _ W0 (XOk.blk o) takes0).2 t tm ht), he⟩, q2, q1, hp.1⟩
          · cases e
        · cases e
      · cases e
    · cases e
  · cases e
theorem cComp_ok {k : Nat} (hk : SndE N k) (o : XOk N c X) (tk : Takes X W) {elt : Expr} {gens : List Comprehension} {scope : Scope} {pos : Pos} {m : M D} (e : cComp (comp k) c elt gens scope pos = some m) : PE X (.ListComp elt gens scope pos) (TD N m W) := by
  obtain ⟨tg, iter, ifs, own, is, it, t, me, rfl, rfl, pi, bo, bs, q2, q1, hp⟩ := cComp_parts hk o tk e
  exact snd_lc o.K o.calm o.nodup pi bo bs q2 q1 (folded_of hp)
theorem cPart_ok {r : Expr → Option (M D)} (h : KE N X W r) {e : Option Expr} {m : Option (M D)} (q : cPart r e = some m) : PO X e (TDg N (fun _ x y => x = y) (mPart m) W) := by
  unfold cPart at q
  split at q
  · cases q
    exact snd_part0
  · split at q
    · rename_i e m' hm
      cases q
      exact snd_part1 (h _ m' hm).2
    · cases q
theorem stepE_ok {k : Nat} (hk : SndE N k) (o : XOk N c X) (tk : Takes X W) : KE N X W (stepE (comp k) c) := by
  intro e m q
  obtain ⟨hE, hT⟩ := hk c X W o tk
  unfold stepE at q
  split at q
  · rename_i hp
    refine ⟨hp, ?_⟩
    split at q
    · exact cName_ok o q
    · split at q
      · rename_i d hd
        cases q
        exact cConst_ok hd
      · cases q
    · split at q
      · rename_i f m1 m2 hf h1 h2
        cases q
        obtain ⟨rr, s1, s2⟩ := binOf_ok o.K hf
        exact snd_bin s1 s2 (hE _ _ h1).2 (hE _ _ h2).2
      · cases q
    · split at q
      · rename_i m1 h1
        cases q
        exact snd_neg (hE _ _ h1).2
      · cases q
    · split at q
      · rename_i m1 h1
        cases q
        exact snd_notV o.K (hE _ _ h1).2
      · cases q
    · exact compAnd_ok hE q
    · exact compOr_ok hE q
    · split at q
      · rename_i op _ _ _ _ m1 m2 h1 h2
        cases q
        obtain ⟨rr, s1, s2⟩ := copC_ok o op
        exact snd_cmp s1 s2 (hE _ _ h1).2 (hE _ _ h2).2 (marks_of (hE _ _ h2).1)
      · cases q
    · split at q
      · rename_i op op' _ _ _ _ _ _ m1 m2 m3 h1 h2 h3
        cases q
        obtain ⟨rr, s1, s2⟩ := copC_ok o op
        obtain ⟨rr', s1', s2'⟩ := copC_ok o op'
        exact snd_chain s1 s1' s2 s2' (hE _ _ h1).2 (hE _ _ h2).2 (hE _ _ h3).2 (marks_of (hE _ _ h3).1)
      · cases q
    · split at q
      · rename_i m1 m2 m3 h1 h2 h3
        cases q
        exact snd_ife (hT _ _ h1) (hE _ _ h2).2 (hE _ _ h3).2
      · cases q
    · split at q
      · rename_i m1 h1
        cases q
        exact snd_tup (compL_ok hE h1).2
      · cases q
    · split at q
      · rename_i m1 h1
        cases q
        exact snd_lst _ (compL_ok hE h1).2
      · cases q
    · split at q
      · rename_i m1 l h h1 h2 h3
        cases q
        exact snd_slc _ o.K (hE _ _ h1).2 (cPart_ok hE h2) (cPart_ok hE h3)
      · cases q
    · split at q
      · rename_i m1 m2 h1 h2
        cases q
        exact snd_ix o.hu1 o.K (hE _ _ h1).2 (hE _ _ h2).2 (plainIx_of (hE _ _ h2).1)
      · cases q
    · exact cCall_ok o tk hE q
    · exact cMeth_ok o hE q
    · exact cComp_ok hk o tk q
    · cases q
  · cases q
theorem stepT_ok {k : Nat} (hk : SndE N k) (o : XOk N c X) (tk : Takes X W) : KT N X W (stepT (comp k c)) := by
  intro e m q
  obtain ⟨hE, hT⟩ := hk c X W o tk
  unfold stepT at q
  split at q
  · split at q
    · rename_i m1 h1
      cases q
      exact snd_not (hT _ _ h1)
    · cases q
  · exact (compTAnd_ok hT q).pt
  · exact (compTOr_ok hT q).pt
  · split at q
    · rename_i op _ _ _ _ m1 m2 h1 h2
      cases q
      obtain ⟨rr, s1, s2⟩ := copC_ok o op
      exact snd_tcmp s1 s2 (hE _ _ h1).2 (hE _ _ h2).2 (marks_of (hE _ _ h2).1)
    · cases q
  · split at q
    · rename_i op op' _ _ _ _ _ _ m1 m2 m3 h1 h2 h3
      cases q
      obtain ⟨rr, s1, s2⟩ := copC_ok o op
      obtain ⟨rr', s1', s2'⟩ := copC_ok o op'
      exact snd_tchain s1 s1' s2 s2' (hE _ _ h1).2 (hE _ _ h2).2 (hE _ _ h3).2 (marks_of (hE _ _ h3).1)
    · cases q
  · split at q
    · rename_i hp
      split at q
      · rename_i m1 h1
        cases q
        exact snd_tval o.K (hE _ _ h1).2 (true_of hp)
      · cases q
    · cases q
end
theorem comp_ok (N : Nm) : ∀ k, SndE N k
  | 0 => fun c X W o tk => ⟨fun _ _ q => (by cases q), fun _ _ q => (by cases q)⟩
  | k + 1 => fun c X W o tk => ⟨stepE_ok (comp_ok N k) o tk, stepT_ok (comp_ok N k) o tk⟩

/-! ### statements -/
section
variable {N : Nm} {c : Cc} {X : Cx} {W : WX}
theorem cTg1_ok {r : Expr → Option (M D)} (o : XOk N c X) (h : KE N X W r) {tg : Expr} {g : Tg} (q : cTg1 r c tg = some g) : plainE tg = true ∧ PG X tg (TDG N g) := by
  unfold cTg1 at q
  split at q
  · split at q
    · rename_i i hi
      cases q
      obtain ⟨h1, h2, h3⟩ := o.slotS hi
      exact ⟨rfl, snd_gvar (pg_name o.nodup h1 h2 h3)⟩
    · cases q
  · rename_i ob ix pos
    split at q
    · rename_i hp
      split at q
      · rename_i m1 m2 h1 h2
        cases q
        refine ⟨rfl, snd_gsub o.hu1 (h _ _ h1).2 (h _ _ h2).2 fun v => ?_⟩
        cases ix <;> first | rfl | cases hp
      · cases q
    · cases q
  · cases q
theorem cTgs_ok {r : Expr → Option (M D)} (o : XOk N c X) (h : KE N X W r) : ∀ {tgs : List Expr} {gs : List Tg}, cTgs r c tgs = some gs → PGs X tgs (TDGs N gs) ∧ (assignEach tgs X.env).length = gs.length ∧ (assignEach tgs X.env).findIdx? (·.1) = none
  | [], gs, q => by
    cases q
    exact ⟨snd_gnil, rfl, rfl⟩
  | tg :: tgs, gs, q => by
    unfold cTgs at q
    split at q
    · rename_i g gs' h1 h2
      cases q
      obtain ⟨p1, p2⟩ := cTg1_ok o h h1
      obtain ⟨p3, p4, p5⟩ := cTgs_ok o h h2
      refine ⟨snd_gcons p2 p3 (by rw [assign_of p1] <;> rfl), by rw [assign_of p1, List.length_cons, List.length_cons, p4], ?_⟩
      rw [assign_of p1, List.findIdx?_cons]
      show (if false = true then some 0 else _) = none
      rw [if_neg (by simp), p5]
      rfl
    · cases q
theorem cTgt_ok {r : Expr → Option (M D)} (o : XOk N c X) (h : KE N X W r) {tg : Expr} {g : Tg} (q : cTgt r c tg = some g) : plainE tg = true ∧ PG X tg (TDG N g) := by
  unfold cTgt at q
  split at q
  · split at q
    · rename_i gs h1
      cases q
      obtain ⟨p3, p4, p5⟩ := cTgs_ok o h h1
      exact ⟨rfl, snd_gtup o.K o.calm p3 p4 p5⟩
    · cases q
  · exact cTg1_ok o h q
theorem swaps_of {e tg : Expr} {l : Nat} {env : PySem.Env} (h : isComp e = false) : swapsWithSole [tg] e l env = pure false := by
  cases e <;> first | rfl | cases h
theorem swapsN_of {e : Expr} {l : Nat} {env : PySem.Env} (h : isComp e = false) : swapsWith e none l env = pure false := by
  cases e <;> first | rfl | cases h
theorem swapped_of {e tg : Expr} {env : PySem.Env} (h : (isTuple tg && isTuple e) = false) (hp : plainE tg = true) (hl : ∀ es p, tg ≠ .List es p) : swappedStores [tg] e env = pure none := by
  cases tg with
  | Tuple ts k p => cases e <;> first | rfl | cases h
  | List es p => exact absurd rfl (hl es p)
  | _ => rfl
theorem cTgt_notList {r : Expr → Option (M D)} {tg : Expr} {g : Tg} (q : cTgt r c tg = some g) : ∀ es p, tg ≠ .List es p := by
  intro es p e
  subst e
  cases q
theorem cAsg_ok {k : Nat} (o : XOk N c X) (tk : Takes X W) {tg e : Expr} {b : B} {pos : Pos} (q : cAsg (comp k c) c tg e = some b) : PS X (.Assign [tg] e pos) (TDS N b W) := by
  obtain ⟨hE, hT⟩ := comp_ok N k c X W o tk
  unfold cAsg at q
  split at q
  · rename_i y py elt gens scope p
    split at q
    · rename_i i hl hi
      split at q
      · rename_i hc
        rw [Bool.and_eq_true, Bool.not_eq_true'] at hc
        split at q
        · rename_i m hm
          cases q
          cases k with
          | zero => cases hm
          | succ k =>
            have hm2 : cComp (comp k) c elt gens scope p = some m := hm
            obtain ⟨tg, iter, ifs, own, is, it, t, me, rfl, rfl, pi, bo, bs, q2, q1, hp⟩ := cComp_parts (comp_ok N k) o tk hm2
            obtain ⟨h1, h2, h3⟩ := o.slotS hi
            have hyl : X.env.scope.names.lookup y = some .local := (o.ss y).1 hl
            by_cases hkf : X.env.scope.kind = .function
            · exact snd_setlc o.K o.calm o.nodup h1 hyl (sw_true hkf hyl hc.1 hc.2) pi bo bs q2 q1 (folded_of hp)
            · exact ⟨fun pins s σ H Dn I t => absurd I.ok.kind hkf⟩
        · cases q
      · cases q
    · cases q
  · split at q
    · cases q
    · rename_i hn
      have hn : (isComp e || isTuple tg && isTuple e) = false := by
        cases z : (isComp e || isTuple tg && isTuple e) with
        | false => rfl
        | true => exact absurd z hn
      rw [Bool.or_eq_false_iff] at hn
      split at q
      · rename_i m g hm hg
        cases q
        obtain ⟨p1, p2⟩ := cTgt_ok o hE hg
        refine snd_asg (hE _ _ hm).2 p2 (swaps_of hn.1) (swapped_of hn.2 p1 (cTgt_notList hg)) ?_
        rw [assign_of p1]
        rfl
      · cases q
theorem cBlk_ok {f : Stmt → Option B} (h : ∀ s b, f s = some b → PS X s (TDS N b W)) : ∀ {ss : List Stmt} {b : B}, cBlk f ss = some b → PSs X ss (TDS N b W)
  | [], b, q => by
    cases q
    exact snd_snil
  | s :: ss, b, q => by
    unfold cBlk at q
    split at q
    · rename_i a b' h1 h2
      cases q
      exact snd_seq (h s a h1) (cBlk_ok h h2)
    · cases q
theorem compS_ok (ke : Nat) (o : XOk N c X) (tk : Takes X W) (po : PassesOwn (model X.prog X.w) X.A X.env X.xe) : ∀ (k : Nat) (s : Stmt) (b : B), compS ke c k s = some b → PS X s (TDS N b W)
  | 0, _, _, q => by cases q
  | k + 1, s, b, q => by
    obtain ⟨hE, hT⟩ := comp_ok N ke c X W o tk
    have ih := compS_ok ke o tk po k
    unfold compS at q
    split at q
    · cases q
      exact snd_doc
    · split at q
      · cases q
      · rename_i hc
        split at q
        · rename_i m hm
          cases q
          exact snd_ex (hE _ _ hm).2 (swapsN_of (by simpa using hc))
        · cases q
    · cases q
      exact snd_retN
    · split at q
      · rename_i m hm
        cases q
        exact snd_ret (hE _ _ hm).2
      · cases q
    · split at q
      · rename_i t a b' ht ha hb
        cases q
        exact snd_if (hT _ _ ht) (cBlk_ok ih ha) (cBlk_ok ih hb)
      · cases q
    · exact cAsg_ok o tk q
    · split at q
      · rename_i i m hi hm
        cases q
        obtain ⟨h1, h2, h3⟩ := o.slotS hi
        exact snd_aug o.nodup h1 h2 (hE _ _ hm).2 ip_addA ops_iadd h3
      · cases q
    · split at q
      · rename_i hp
        split at q
        · rename_i g it b' hg hi hb
          cases q
          exact snd_for po o.calm (cIter_ok o hE hi) (cTgt_ok o hE hg).2 (cBlk_ok ih hb) (folded_of hp)
        · cases q
      · cases q
    · split at q
      · rename_i t b' ht hb
        cases q
        exact snd_while po (hT _ _ ht) (cBlk_ok ih hb)
      · cases q
    · cases q
      exact snd_pass
    · cases q
      exact snd_brk
    · cases q
      exact snd_cnt
    · cases q
theorem compB_ok (o : XOk N c X) (tk : Takes X W) (po : PassesOwn (model X.prog X.w) X.A X.env X.xe) {body : List Stmt} {b : B} (q : compB c body = some b) : PSs X body (TDS N b W) := cBlk_ok (compS_ok 40 o tk po 40) q
end
end DN

set_option Elab.async false
set_option linter.all false
set_option maxRecDepth 100000
/-! DE: from the defs' meanings to the law. -/
namespace DN
open PySem PySem.Spec
open L2 hiding It
open PyProof.Rows hiding St

/-- one def of the text: where it stands, its slots, its parameters, its meaning -/
structure Row where
  name : Str
  st : Stmt
  N : List Str
  ps : List Str
  fe : FnE
structure LawT where
  rows : List Row
  glob : List (Str × D)
  blt : List Str
  hp : List (Nat × Nat)
def fnsFrom : Nat → List Row → List (Str × Nat × Nat)
  | _, [] => []
  | i, r :: rs => (r.name, i, r.fe.ar) :: fnsFrom (i + 1) rs
def LawT.cc (L : LawT) (fns : List (Str × Nat × Nat)) (r : Row) (C : Calls) (n k : Nat) : Cc := ⟨r.N, defScope r.st, defScope r.st, fns, L.glob, L.blt, L.hp, C, n, k⟩
def LawT.tab (L : LawT) : Nat → Option FnE := fun f => (L.rows[f]?).map (·.fe)
structure RowOk (L : LawT) (fns : List (Str × Nat × Nat)) (r : Row) : Prop where
  body : ∀ C n k, compB (L.cc fns r C n k) (defBody r.st) = some (r.fe.body n C)
  scope : FnScope r.N r.ps (defScope r.st)
  bind : ∀ (kV doc pm : Value) (an : Option Addr) (cdv ct : Value) (us : List Value), us.length = r.ps.length → bindArgs (PySem.W.fnOf r.name r.name (defArgs r.st) (defBody r.st) (defScope r.st) .none kV doc pm an cdv ct) ⟨us, []⟩ = pure (r.ps.zip us)
  ar : r.ps.length = r.fe.ar
  sl : r.N.length = r.fe.sl
def Row.defD (r : Row) : He.DefD := ⟨(r.name, none), r.name, r.name, defArgs r.st, defBody r.st, defScope r.st, [], []⟩
def LawT.nm (L : LawT) (K : PySem.W.Frag) : Nm := ⟨K, fun _ => Str.empty, fun i => match L.rows[i]? with
  | some r => He.ga K r.name
  | none => 0, fun _ => 0⟩
theorem fns_at : ∀ {rs : List Row} {i : Nat} {x : Str} {f ar : Nat}, (fnsFrom i rs).lookup x = some (f, ar) → ∃ j r, f = i + j ∧ rs[j]? = some r ∧ r.name = x ∧ ar = r.fe.ar
  | [], _, _, _, _, h => by cases h
  | r :: rs, i, x, f, ar, h => by
    unfold fnsFrom at h
    rw [List.lookup_cons] at h
    by_cases e : (x == r.name) = true
    · rw [e] at h
      cases h
      exact ⟨0, r, rfl, rfl, (beq_iff_eq.mp e).symm, rfl⟩
    · have e' : (x == r.name) = false := by simpa using e
      rw [e'] at h
      obtain ⟨j, r', e1, e2, e3, e4⟩ := fns_at h
      exact ⟨j + 1, r', by omega, by simpa using e2, e3, e4⟩
section
variable {L : LawT} {P : Program} {wd : World} {K : PySem.W.Frag} {mg : Str → Option Value} {base : Heap} {fa : List He.Fa} {fn : List He.DefD}
/-- all defs keep their promises, at every depth -/
theorem LawT.key (c : He.SaysD fa fn K) (hfn : fn = L.rows.map Row.defD) (i : Nat) (r : Row) (h : L.rows[i]? = some r) : ∃ fd, FunD K r.name r.name (defArgs r.st) (defBody r.st) (defScope r.st) [] [] (He.ga K r.name) fd := by
  have h2 : fn[i]? = some r.defD := by rw [hfn, List.getElem?_map, h]; rfl
  obtain ⟨fd, F⟩ := c.def_ i (d := r.defD) h2
  exact ⟨fd, F⟩
theorem LawT.fact (c : He.SaysD fa fn K) : ∀ f ∈ fa, f.ok K = true := fun f h => by
  obtain ⟨i, hi, e⟩ := List.mem_iff_getElem.mp h
  exact c.fact i (f := f) (by rw [List.getElem?_eq_getElem hi, e])
theorem LawT.all (ok : ∀ r ∈ L.rows, RowOk L (fnsFrom 0 L.rows) r) (X : K.In base) (G : base.Ns mainGlobals mg) (c : He.SaysD fa fn K) (hfn : fn = L.rows.map Row.defD) (hfa : ∀ r ∈ L.rows, He.Fa.glo r.name ∈ fa) (hfb : ∀ x ∈ L.blt, He.Fa.free x ∈ fa)
    (hgl : ∀ x d, L.glob.lookup x = some d → ∃ v u, mg x = some u ∧ RelV v u ∧ ∀ w, Rep (L.nm K) w d v) (n : Nat) : ∀ (d i : Nat) (r : Row) (fd : FuncData), L.rows[i]? = some r →
    FunD K r.name r.name (defArgs r.st) (defBody r.st) (defScope r.st) [] [] (He.ga K r.name) fd →
    FnOk P wd K mg base (L2.CX P wd) d (He.ga K r.name) fd r.ps (spC (L.nm K) (callF L.tab n d) r.fe.ar i) := by
  intro d
  induction d with
  | zero =>
    intro i r fd h F
    have hr := ok r (List.mem_of_getElem? h)
    refine ⟨fun vs H Q E q => ?_, fun A outer s H args us vs Q E _ _ _ _ q => ?_⟩
    · obtain ⟨_, _, _, _, _, _, p⟩ := q
      rw [callF_0] at p
      exact p.elim
    · obtain ⟨_, _, _, _, _, _, p⟩ := q
      rw [callF_0] at p
      exact p.elim
  | succ d ih =>
    intro i r fd h F
    have hr := ok r (List.mem_of_getElem? h)
    refine fn_sound (n := n) (C := callF L.tab n d) F hr.scope hr.ar hr.sl (fun ds hh => ?_) (fun cdv A outer s H E rm tk po => ?_)
    · have e : L.tab i = some r.fe := by
        unfold LawT.tab
        rw [h]
        rfl
      exact callF_s e ds hh
    · refine compB_ok (N := L.nm K) (c := L.cc (fnsFrom 0 L.rows) r (callF L.tab n d) n d) ?_ tk po (hr.body _ _ _)
      refine { sl := rfl, nd := hr.scope.nd, sc := rfl, K := rfl, glo := hgl, fns := ?_, blt := ?_, calm := rfl, room := rm, ss := fun x => ⟨fun q => q, fun q => ⟨q, rfl⟩⟩ }
      · intro x f ar q
        obtain ⟨j, r', e1, e2, e3, e4⟩ := fns_at q
        obtain ⟨fd', F'⟩ := LawT.key c hfn j r' e2
        have hr' := ok r' (List.mem_of_getElem? e2)
        have ef : f = j := by omega
        subst ef
        have en : (L.nm K).fa f = He.ga K r'.name := by
          show (match L.rows[f]? with | some r => He.ga K r.name | none => 0) = _
          rw [e2]
        rw [en, ← e3, e4]
        exact ⟨fd', r'.ps, He.glo_ok X G (LawT.fact c _ (hfa r' (List.mem_of_getElem? e2))), F'.kp, F'.bindsN hr'.bind, ih f r' fd' e2 F'⟩
      · intro x q
        exact He.free_ok X G (LawT.fact c _ (hfb x q))
end
/-- the law's end: the world's exceptions are the layer's -/
theorem walk_den {l : PySem.W.OpenLaw} {n k : Nat} {q : Program} {loose : List Str} {XP : (Str → Option Value) → Heap → Prop} {YP : World → Heap → Prop} {d : DefRec} {x : Str}
    (hn : l.most = some n) (hn2 : n ≤ sizeLine) (hdf : d.params.defaults = []) (hr : Room k callerA)
    (F : ∀ (w : World) (mg : Str → Option Value) (fa : Addr) (h : Heap), YP w h → h.Ns mainGlobals mg → mg d.name = some (.ref fa) →
      ∃ (K : PySem.W.Frag) (fd : FuncData) (sp : Sp), K.In h ∧ (∀ (s : Shared) (u : Value), BindsTo s fd ⟨[u], []⟩ [(x, u)]) ∧
        (∀ (H : Hp) (a : Addr) (ns : List Int), ns.length ≤ n → Only H → SqL K H a (ns.map V.int) → sp [.ref a] H (fun v _ => v = .bl true) fun _ _ _ => False) ∧
        ∀ base : Heap, K.In base → base.Ns mainGlobals mg → FnOk l.prog w K mg base (L2.CX l.prog w) k fa fd [x] sp) :
    PySem.W.WalkO q loose XP YP l.row.toRowW d [] (fun f vs => PySem.call f vs) := by
  refine Att.attach_call hn hdf fun w s₀ s₁ mg mb fa o pm cd doc a vs ns G Y ho hd hcd hmg hobj hints hlen hg => ?_
  obtain ⟨K, fd, sp, KX, hb, hsp, hF⟩ := F w mg fa _ Y G.T.g hmg
  exact law_call KX G.T.g G.T.b G.T.builtins G.T.nolimit hg hobj hints (Nat.le_trans hlen hn2) hr hF hb (fun H hO hS => hsp H a ns hlen hO hS) fun H e s' ⟨_, _, _, _, _, _, _, _, _, _, _, _, z⟩ => z
/-- the law of a text: its meaning is true -/
theorem LawT.holds {L : LawT} {l : PySem.W.OpenLaw} {n k il : Nat} {q : Program} {loose : List Str} {XP : (Str → Option Value) → Heap → Prop} {d : DefRec} {x : Str} {rl : Row} {fa : List He.Fa} {fn : List He.DefD}
    (hn : l.most = some n) (hn2 : n ≤ sizeLine) (hdf : d.params.defaults = []) (hr : Room k callerA) (hd : d.name = "law") (hil : L.rows[il]? = some rl) (hnm : rl.name = "law") (hps : rl.ps = [x])
    (ok : ∀ r ∈ L.rows, RowOk L (fnsFrom 0 L.rows) r) (hfn : fn = L.rows.map Row.defD) (hfa : ∀ r ∈ L.rows, He.Fa.glo r.name ∈ fa) (hfb : ∀ x ∈ L.blt, He.Fa.free x ∈ fa)
    (hgl : ∀ (K : PySem.W.Frag) (mg : Str → Option Value) (base : Heap), K.In base → base.Ns mainGlobals mg → He.SaysD fa fn K → ∀ x d, L.glob.lookup x = some d → ∃ v u, mg x = some u ∧ RelV v u ∧ ∀ w, Rep (L.nm K) w d v)
    (law : ∀ ns : List Int, ns.length ≤ n → ∃ m h, callF L.tab m k il [.sl (ns.map .int)] [] = .ok (.bl true) h) :
    PySem.W.WalkO q loose XP (fun _ h => ∃ K : PySem.W.Frag, K.In h ∧ He.SaysD fa fn K) l.row.toRowW d [] (fun f vs => PySem.call f vs) := by
  refine walk_den hn hn2 hdf hr (x := x) fun w mg fa' h Y G hmg => ?_
  obtain ⟨K, KX, c⟩ := Y
  obtain ⟨fd, Fl⟩ := LawT.key c hfn il rl hil
  have hrl := ok rl (List.mem_of_getElem? hil)
  have b2 := Fl.bindsA hrl.bind
  have b3 := He.glo_ok KX G (LawT.fact c _ (hfa rl (List.mem_of_getElem? hil)))
  have efa : fa' = He.ga K rl.name := by
    have e := hmg.symm.trans ((by rw [hd, ← hnm] : mg d.name = mg rl.name).trans b3)
    cases e
    rfl
  subst efa
  refine ⟨K, fd, fun vs H Q E => ∃ m, spC (L.nm K) (callF L.tab m k) rl.fe.ar il vs H Q E, KX, fun s u => ?_, fun H a ns hl hO hS => ?_, fun base KB GB => ?_⟩
  · have z := b2 s [u] (by rw [hps]; rfl)
    rw [hps] at z
    exact z
  · obtain ⟨m, h', e⟩ := law ns hl
    have har : rl.fe.ar = 1 := by
      rw [← (ok rl (List.mem_of_getElem? hil)).ar, hps]
      rfl
    refine ⟨m, ⟨[], fun b => if b = a then H a else none, fun _ => none⟩, [], [.sl (ns.map .int)], ?_, ?_, har.symm, ?_⟩
    · refine ⟨fun b o e => ?_, fun b o e => (by cases e), rfl, List.nodup_nil, fun b hb => (by cases hb), fun i b o e1 e2 => (by simp at e2)⟩
      have e : (if b = a then H a else none) = some o := e
      by_cases hb : b = a
      · rw [if_pos hb] at e
        rw [hb]
        exact e
      · rw [if_neg hb] at e
        cases e
    · refine ⟨.ref a, [], rfl, ⟨a, ns.map V.int, rfl, ?_, ?_⟩, rfl⟩
      · rcases hS with (hS | ⟨o, hS⟩) | hS
        · rcases hO a with z | ⟨o, xs, z⟩
          · rw [z] at hS
            cases hS
          · rw [z] at hS
            cases hS
        · exact .inl ⟨o, by show (if a = a then H a else none) = _; rw [if_pos rfl]; exact hS⟩
        · exact .inr (.inr hS)
      · clear hl hS e
        induction ns with
        | nil => rfl
        | cons i ns ih => exact ⟨.int i, _, rfl, rfl, ih⟩
    · rw [e]
      exact fun w' H' v _ _ q => q
  · have FO := fun m => LawT.all (P := l.prog) (wd := w) ok KB GB c hfn hfa hfb (hgl K mg base KB GB c) m k il rl fd hil Fl
    rw [← hps]
    exact ⟨fun vs H Q E ⟨m, q⟩ => (FO m).len vs H Q E q, fun A outer s H args us vs Q E rm e0 bt va ⟨m, q⟩ => (FO m).run A outer s H args us vs Q E rm e0 bt va q⟩
end DN

set_option Elab.async false
set_option linter.all false
set_option maxRecDepth 100000
/-! T0: a meaning goes well: tools for the plain law. -/
namespace DN
open PySem

def OkR {α : Type} (r : R α) (Q : α → Hs → Prop) : Prop := match r with
  | .ok a h => Q a h
  | _ => False
@[simp ↓] theorem okr_ok {α : Type} (a : α) (h : Hs) (Q : α → Hs → Prop) : OkR (.ok a h) Q = Q a h := Eq.trans rfl rfl
@[simp ↓] theorem okr_no {α : Type} (Q : α → Hs → Prop) : OkR (.no) Q = False := Eq.trans rfl rfl
@[simp ↓] theorem okr_xc {α : Type} (c : Nat) (fs : List (Nat × D)) (h : Hs) (Q : α → Hs → Prop) : OkR (.xc c fs h) Q = False := Eq.trans rfl rfl
@[simp ↓] theorem okr_bind {α β : Type} (r : R α) (f : α → Hs → R β) (Q : β → Hs → Prop) : OkR (r.bind f) Q = OkR r fun a h => OkR (f a h) Q := by cases r <;> rfl
theorem OkR.mono {α : Type} {r : R α} {Q Q' : α → Hs → Prop} (p : OkR r Q) (i : ∀ a h, Q a h → Q' a h) : OkR r Q' := by
  cases r with
  | ok a h => exact i a h p
  | xc _ _ _ => exact p
  | no => exact p
theorem OkR.ex {α : Type} {r : R α} {Q : α → Hs → Prop} (p : OkR r Q) : ∃ a h, r = .ok a h ∧ Q a h := by
  cases r with
  | ok a h => exact ⟨a, h, rfl, p⟩
  | xc _ _ _ => exact p.elim
  | no => exact p.elim
theorem OkR.of {α : Type} {r : R α} {Q : α → Hs → Prop} {a : α} {h : Hs} (e : r = .ok a h) (q : Q a h) : OkR r Q := by
  rw [e]
  exact q
def opt {α : Type} (o : Option α) (P : α → Prop) : Prop := match o with
  | some a => P a
  | none => False
@[simp ↓] theorem opt_some {α : Type} (a : α) (P : α → Prop) : opt (some a) P = P a := Eq.trans rfl rfl
@[simp ↓] theorem opt_none {α : Type} (P : α → Prop) : opt none P = False := Eq.trans rfl rfl
/-- a value of a slot -/
def slt (o : Option (Option D)) (P : D → Prop) : Prop := match o with
  | some (some a) => P a
  | _ => False
@[simp ↓] theorem slt_some (a : D) (P : D → Prop) : slt (some (some a)) P = P a := Eq.trans rfl rfl
def asB (x : D) (P : Bool → Prop) : Prop := match x with
  | .bl b => P b
  | _ => False
@[simp ↓] theorem asB_bl (b : Bool) (P : Bool → Prop) : asB (.bl b) P = P b := Eq.trans rfl rfl
def asI (x : D) (P : Int → Prop) : Prop := match x with
  | .int b => P b
  | _ => False
@[simp ↓] theorem asI_int (b : Int) (P : Int → Prop) : asI (.int b) P = P b := Eq.trans rfl rfl
theorem okr_opt {α : Type} {o : Option Bool} {f : Bool → R α} {Q : α → Hs → Prop} : OkR (match o with | some b => f b | none => .no) Q = opt o fun b => OkR (f b) Q := by
  cases o <;> rfl
def OkO (o : Out) (qn : Env → Hs → Prop) (qr : D → Hs → Prop) (qb qc : Env → Hs → Prop) : Prop := match o with
  | .nx σ h => qn σ h
  | .rt d h => qr d h
  | .bk σ h => qb σ h
  | .ct σ h => qc σ h
  | _ => False
section
variable {qn qb qc : Env → Hs → Prop} {qr : D → Hs → Prop} {σ : Env} {h : Hs} {a b : B} {m m' m'' : M D} {t t' : M Bool} {Q : D → Hs → Prop} {QB : Bool → Hs → Prop} {QL : List D → Hs → Prop} {ml : M (List D)} {f : D → D → Hs → R D} {g : Tg}
@[simp ↓] theorem oko_nx : OkO (.nx σ h) qn qr qb qc = qn σ h := Eq.trans rfl rfl
@[simp ↓] theorem oko_rt {d : D} : OkO (.rt d h) qn qr qb qc = qr d h := Eq.trans rfl rfl
@[simp ↓] theorem oko_bk : OkO (.bk σ h) qn qr qb qc = qb σ h := Eq.trans rfl rfl
@[simp ↓] theorem oko_ct : OkO (.ct σ h) qn qr qb qc = qc σ h := Eq.trans rfl rfl
@[simp ↓] theorem oko_pass : OkO (sPass σ h) qn qr qb qc = qn σ h := Eq.trans rfl rfl
@[simp ↓] theorem oko_brk : OkO (sBrk σ h) qn qr qb qc = qb σ h := Eq.trans rfl rfl
@[simp ↓] theorem oko_cnt : OkO (sCnt σ h) qn qr qb qc = qc σ h := Eq.trans rfl rfl
@[simp ↓] theorem oko_seq : OkO (sSeq a b σ h) qn qr qb qc = OkO (a σ h) (fun σ1 h1 => OkO (b σ1 h1) qn qr qb qc) qr qb qc := by
  show OkO ((a σ h).andThen b) _ _ _ _ = _
  cases a σ h <;> rfl
theorem oko_out {α : Type} {r : R α} {f : α → Hs → Out} : OkO (r.out σ f) qn qr qb qc = OkR r fun x h1 => OkO (f x h1) qn qr qb qc := by
  cases r <;> rfl
@[simp ↓] theorem oko_ex : OkO (sEx m σ h) qn qr qb qc = OkR (m σ h) fun _ h1 => qn σ h1 := oko_out
@[simp ↓] theorem oko_ret : OkO (sRet m σ h) qn qr qb qc = OkR (m σ h) qr := oko_out
@[simp ↓] theorem oko_if : OkO (sIf t a b σ h) qn qr qb qc = OkR (t σ h) fun x h1 => if x = true then OkO (a σ h1) qn qr qb qc else OkO (b σ h1) qn qr qb qc := by
  refine oko_out.trans ?_
  congr 1
  funext x h1
  by_cases e : x = true
  · rw [if_pos e, if_pos e]
  · rw [if_neg e, if_neg e]
@[simp ↓] theorem oko_asg : OkO (sAsg m g σ h) qn qr qb qc = OkR (m σ h) fun x h1 => OkR (g x σ h1) qn := by
  refine oko_out.trans ?_
  congr 1
  funext x h1
  cases g x σ h1 <;> rfl
@[simp ↓] theorem oko_aug {i : Nat} : OkO (sAug i f m σ h) qn qr qb qc = slt σ[i]? fun x => OkR (m σ h) fun y h1 => OkR (f x y h1) fun z h2 => qn (σ.set i (some z)) h2 := by
  unfold sAug
  rcases σ[i]? with _ | _ | x
  · rfl
  · rfl
  · refine oko_out.trans ?_
    show _ = OkR _ _
    congr 1
    funext y h1
    exact oko_out
theorem OkO.mono {o : Out} {qn' qb' qc' : Env → Hs → Prop} {qr' : D → Hs → Prop} (p : OkO o qn qr qb qc) (hn : ∀ σ h, qn σ h → qn' σ h) (hr : ∀ d h, qr d h → qr' d h) (hb : ∀ σ h, qb σ h → qb' σ h) (hc : ∀ σ h, qc σ h → qc' σ h) : OkO o qn' qr' qb' qc' := by
  cases o with
  | nx σ h => exact hn _ _ p
  | rt d h => exact hr _ _ p
  | bk σ h => exact hb _ _ p
  | ct σ h => exact hc _ _ p
  | xc _ _ _ _ => exact p
  | no => exact p
@[simp ↓] theorem okr_fin {o : Out} : OkR (finB o) Q = OkO o (fun _ h1 => Q .non h1) Q (fun _ _ => False) fun _ _ => False := by
  cases o <;> rfl
/-! expressions -/
@[simp ↓] theorem okr_lit {d : D} : OkR (mLit d σ h) Q = Q d h := Eq.trans rfl rfl
@[simp ↓] theorem okr_var {i : Nat} : OkR (mVar i σ h) Q = slt σ[i]? fun d => Q d h := by
  unfold mVar
  rcases σ[i]? with _ | _ | x <;> rfl
@[simp ↓] theorem okr_op : OkR (mOp f m m' σ h) Q = OkR (m σ h) fun x h1 => OkR (m' σ h1) fun y h2 => OkR (f x y h2) Q := by
  simp [mOp]
@[simp ↓] theorem okr_neg : OkR (mNeg m σ h) Q = OkR (m σ h) fun x h1 => asI x fun i => Q (.int (-i)) h1 := by
  unfold mNeg
  rw [okr_bind]
  congr 1
  funext x h1
  cases x <;> rfl
@[simp ↓] theorem okr_chain {o o' : Cop} : OkR (mChain o o' m m' m'' σ h) Q = OkR (m σ h) fun x h1 => OkR (m' σ h1) fun y h2 => opt (cmpD o x y h2) fun b => if b = true then OkR (m'' σ h2) fun z h3 => OkR (opCmp o' y z h3) Q else Q (.bl false) h2 := by
  unfold mChain
  rw [okr_bind]
  congr 1
  funext x h1
  rw [okr_bind]
  congr 1
  funext y h2
  rcases cmpD o x y h2 with _ | _ | _
  · rfl
  · rfl
  · show OkR (R.bind _ _) _ = _
    rw [okr_bind]
    rfl
@[simp ↓] theorem okr_and : OkR (mAnd m m' σ h) Q = OkR (m σ h) fun x h1 => asB x fun b => if b = true then OkR (m' σ h1) Q else Q (.bl false) h1 := by
  unfold mAnd
  rw [okr_bind]
  congr 1
  funext x h1
  rcases x with _ | ⟨_ | _⟩ | _ | _ | _ | _ | _ | _ | _ | _ | _
  all_goals rfl
@[simp ↓] theorem okr_or : OkR (mOr m m' σ h) Q = OkR (m σ h) fun x h1 => asB x fun b => if b = true then Q (.bl true) h1 else OkR (m' σ h1) Q := by
  unfold mOr
  rw [okr_bind]
  congr 1
  funext x h1
  rcases x with _ | ⟨_ | _⟩ | _ | _ | _ | _ | _ | _ | _ | _ | _
  all_goals rfl
@[simp ↓] theorem okr_notT : OkR (mNotT m σ h) Q = OkR (m σ h) fun x h1 => opt (truth h1 x) fun b => Q (.bl (!b)) h1 := by
  unfold mNotT
  rw [okr_bind]
  congr 1
  funext x h1
  cases truth h1 x <;> rfl
@[simp ↓] theorem okr_tval : OkR (tVal m σ h) QB = OkR (m σ h) fun x h1 => opt (truth h1 x) fun b => QB b h1 := by
  unfold tVal
  rw [okr_bind]
  congr 1
  funext x h1
  cases truth h1 x <;> rfl
@[simp ↓] theorem okr_tand : OkR (tAnd t t' σ h) QB = OkR (t σ h) fun x h1 => if x = true then OkR (t' σ h1) QB else QB false h1 := by
  unfold tAnd
  rw [okr_bind]
  congr 1
  funext x h1
  split <;> rfl
@[simp ↓] theorem okr_tor : OkR (tOr t t' σ h) QB = OkR (t σ h) fun x h1 => if x = true then QB true h1 else OkR (t' σ h1) QB := by
  unfold tOr
  rw [okr_bind]
  congr 1
  funext x h1
  split <;> rfl
@[simp ↓] theorem okr_tnot : OkR (tNot t σ h) QB = OkR (t σ h) fun x h1 => QB (!x) h1 := by
  unfold tNot
  rw [okr_bind]
  rfl
@[simp ↓] theorem okr_ife : OkR (mIfe t m m' σ h) Q = OkR (t σ h) fun x h1 => if x = true then OkR (m σ h1) Q else OkR (m' σ h1) Q := by
  unfold mIfe
  rw [okr_bind]
  congr 1
  funext x h1
  split <;> rfl
@[simp ↓] theorem okr_nil : OkR (mNil σ h) QL = QL [] h := Eq.trans rfl rfl
@[simp ↓] theorem okr_cons : OkR (mCons m ml σ h) QL = OkR (m σ h) fun x h1 => OkR (ml σ h1) fun xs h2 => QL (x :: xs) h2 := by
  unfold mCons
  rw [okr_bind]
  congr 1
  funext x h1
  rw [okr_bind]
  rfl
@[simp ↓] theorem okr_app {f : List D → Hs → R D} : OkR (mApp f ml σ h) Q = OkR (ml σ h) fun xs h1 => OkR (f xs h1) Q := by
  unfold mApp
  rw [okr_bind]
@[simp ↓] theorem okr_tup : OkR (mTup ml σ h) Q = OkR (ml σ h) fun xs h1 => OkR (mkT xs h1) Q := okr_app
@[simp ↓] theorem okr_lst {hp : Bool} : OkR (mLst hp ml σ h) Q = OkR (ml σ h) fun xs h1 => OkR (mkL hp xs h1) Q := okr_app
@[simp ↓] theorem okr_callN {C : Calls} {ar f : Nat} : OkR (mCallN C ar f ml σ h) Q = OkR (ml σ h) fun ds h1 => if ds.length = ar then OkR (C f ds h1) Q else False := by
  unfold mCallN
  rw [okr_app]
  congr 1
  funext ds h1
  split <;> rfl
@[simp ↓] theorem okr_isi {t : Ty} : OkR (mIsi t m σ h) Q = OkR (m σ h) fun x h1 => opt (isTy h1 x t) fun b => Q (.bl b) h1 := by
  unfold mIsi
  rw [okr_bind]
  congr 1
  funext x h1
  cases isTy h1 x t <;> rfl
@[simp ↓] theorem okr_bm {T : String} {f : D → List D → Hs → R D} : OkR (mBM T f m ml σ h) Q = OkR (m σ h) fun x h1 => if isT T h1 x = true then OkR (ml σ h1) fun ds h2 => OkR (f x ds h2) Q else False := by
  unfold mBM
  rw [okr_bind]
  congr 1
  funext x h1
  split
  · rw [okr_bind]
  · rfl
@[simp ↓] theorem okr_part_none {QP : Option Int → Hs → Prop} : OkR (mPart none σ h) QP = QP none h := Eq.trans rfl rfl
@[simp ↓] theorem okr_part_some {QP : Option Int → Hs → Prop} : OkR (mPart (some m) σ h) QP = OkR (m σ h) fun x h1 => asI x fun i => QP (some i) h1 := by
  unfold mPart
  rw [okr_bind]
  congr 1
  funext x h1
  cases x <;> rfl
@[simp ↓] theorem okr_slc {hp : Bool} {lo hi : Option (M D)} : OkR (mSlc hp m lo hi σ h) Q = OkR (m σ h) fun x h1 => OkR (mPart lo σ h1) fun l h2 => OkR (mPart hi σ h2) fun u h3 => OkR (opSlc hp x l u h3) Q := by
  simp [mSlc]
@[simp ↓] theorem okr_gvar {i : Nat} {d : D} {QE : Env → Hs → Prop} : OkR (gVar i d σ h) QE = QE (σ.set i (some d)) h := Eq.trans rfl rfl
@[simp ↓] theorem okr_gsub {v : D} {QE : Env → Hs → Prop} : OkR (gSub m m' v σ h) QE = OkR (m σ h) fun x h1 => OkR (m' σ h1) fun y h2 => opt (opSet x y v h2) fun h3 => QE σ h3 := by
  unfold gSub
  rw [okr_bind]
  congr 1
  funext x h1
  rw [okr_bind]
  congr 1
  funext y h2
  cases opSet x y v h2 <;> rfl
/-! operators on ints, strings -/
@[simp ↓] theorem okr_addI {hp : Bool} {i j : Int} : OkR (opAdd hp (.int i) (.int j) h) Q = Q (.int (i + j)) h := Eq.trans rfl rfl
@[simp ↓] theorem okr_subI {i j : Int} : OkR (opSub (.int i) (.int j) h) Q = Q (.int (i - j)) h := Eq.trans rfl rfl
@[simp ↓] theorem okr_cmp {o : Cop} {x y : D} : OkR (opCmp o x y h) Q = opt (cmpD o x y h) fun b => Q (.bl b) h := by
  unfold opCmp
  cases cmpD o x y h <;> rfl
theorem okr_mulI {hp : Bool} {i j : Int} (c : (-(2 ^ 64) < i ∧ i < 2 ^ 64) ∨ (-(2 ^ 64) < j ∧ j < 2 ^ 64)) : OkR (opMul hp (.int i) (.int j) h) Q = Q (.int (i * j)) h := by
  show OkR (if _ then _ else _) Q = _
  rw [if_pos c]
  rfl
@[simp ↓] theorem okr_mulL {hp : Bool} {i j : Int} : OkR (opMul hp (.int i) (.int j) h) Q = if ((-(2 ^ 64) < i ∧ i < 2 ^ 64) ∨ (-(2 ^ 64) < j ∧ j < 2 ^ 64)) then Q (.int (i * j)) h else False := by
  show OkR (if _ then _ else _) Q = _
  split <;> rfl
@[simp ↓] theorem okr_fdiv {i j : Int} : OkR (opFdiv (.int i) (.int j) h) Q = if j ≠ 0 ∧ j.natAbs < 1073741824 then Q (.int (i.fdiv j)) h else False := by
  show OkR (if _ then _ else _) Q = _
  split <;> rfl
@[simp ↓] theorem okr_mod {i j : Int} : OkR (opMod (.int i) (.int j) h) Q = if j ≠ 0 then Q (.int (i.fmod j)) h else False := by
  show OkR (if _ then _ else _) Q = _
  split <;> rfl
@[simp ↓] theorem okr_pow {i j : Int} : OkR (opPow (.int i) (.int j) h) Q = if 0 ≤ j ∧ j ≤ 1000000 ∧ i.natAbs < 2 ^ 64 then Q (.int (i ^ j.toNat)) h else False := by
  show OkR (if _ then _ else _) Q = _
  split <;> rfl
@[simp ↓] theorem okr_mkT {xs : List D} : OkR (mkT xs h) Q = if xs.length ≤ SZ then Q (.tup xs) h else False := by
  unfold mkT
  split <;> rfl
@[simp ↓] theorem okr_mkF {xs : List D} : OkR (mkL false xs h) Q = if xs.length ≤ SZ then Q (.fl xs) h else False := by
  unfold mkL
  split <;> rfl
@[simp ↓] theorem okr_mkH {xs : List D} : OkR (mkL true xs h) Q = if xs.length ≤ SZ then Q (.ref h.length) (h ++ [.lst xs]) else False := by
  unfold mkL
  split <;> rfl

/-- what stands at a place of the heap: a list, a dict -/
def ocase (o : Option O) (f : List D → Prop) (g : List (D × D) → Prop) : Prop := match o with
  | some (.lst xs) => f xs
  | some (.dct kvs) => g kvs
  | _ => False
@[simp ↓] theorem ocase_l (xs : List D) (f : List D → Prop) (g : List (D × D) → Prop) : ocase (some (.lst xs)) f g = f xs := Eq.trans rfl rfl
@[simp ↓] theorem ocase_d (xs : List (D × D)) (f : List D → Prop) (g : List (D × D) → Prop) : ocase (some (.dct xs)) f g = g xs := Eq.trans rfl rfl
def xcons (xs : List D) (f : D → List D → Prop) : Prop := match xs with
  | x :: xs => f x xs
  | [] => False
@[simp ↓] theorem xcons_c (x : D) (xs : List D) (f : D → List D → Prop) : xcons (x :: xs) f = f x xs := Eq.trans rfl rfl
theorem lstOf_ref {h : Hs} {p : Nat} {xs : List D} (e : h[p]? = some (.lst xs)) : lstOf h (.ref p) = some xs := by
  show (match h[p]? with | some (.lst xs) => some xs | _ => none) = _
  rw [e]
/-! loops -/
@[simp ↓] theorem oko_for {it : It} : OkO (sFor g it b σ h) qn qr qb qc = OkR (it σ h) fun p h1 => OkO (loopGo p.2 g b p.1 σ h1) qn qr qb qc := oko_out
variable {QI : List D × (Hs → Prop) → Hs → Prop} {xs ys : List D} {i j : Int} {p : Nat} {P : D → Prop} {PB : Bool → Prop}
@[simp ↓] theorem okr_ival : OkR (iVal m σ h) QI = OkR (m σ h) fun d h1 => OkR (itOf h1 d) QI := okr_bind _ _ _
@[simp ↓] theorem okr_itT : OkR (itOf h (.tup xs)) QI = QI (xs, chkTrue) h := Eq.trans rfl rfl
@[simp ↓] theorem okr_itF : OkR (itOf h (.fl xs)) QI = QI (xs, chkTrue) h := Eq.trans rfl rfl
@[simp ↓] theorem okr_itSc : OkR (itOf h (.sl xs)) QI = QI (xs, chkTrue) h := Eq.trans rfl rfl
@[simp ↓] theorem okr_itS {s : List Nat} : OkR (itOf h (.str s)) QI = QI (s.map fun c => .str [c], chkTrue) h := Eq.trans rfl rfl
@[simp ↓] theorem okr_itR : OkR (itOf h (.ref p)) QI = ocase h[p]? (fun xs => QI (xs, fun h' => h'[p]? = some (.lst xs)) h) fun _ => False := by
  show OkR (match h[p]? with | some (.lst xs) => (.ok (xs, fun h' => h'[p]? = some (.lst xs)) h : R (List D × (Hs → Prop))) | _ => .no) QI = _
  rcases h[p]? with _ | _ | _ | _ <;> rfl
@[simp ↓] theorem okr_rng1 : OkR (iRng1 m σ h) QI = OkR (m σ h) fun x h1 => asI x fun j => if -(2 ^ 62) ≤ j ∧ j < 2 ^ 62 then QI (rngL 0 j.toNat, chkTrue) h1 else False := by
  unfold iRng1
  rw [okr_bind]
  congr 1
  funext x h1
  cases x with
  | int j => show OkR (if _ then _ else _) _ = if _ then _ else _; split <;> rfl
  | _ => rfl
@[simp ↓] theorem okr_rng2 : OkR (iRng2 m m' σ h) QI = OkR (m σ h) fun x h1 => OkR (m' σ h1) fun y h2 => asI x fun i => asI y fun j => if (-(2 ^ 62) ≤ i ∧ i < 2 ^ 62) ∧ -(2 ^ 62) ≤ j ∧ j < 2 ^ 62 then QI (rngL i (j - i).toNat, chkTrue) h2 else False := by
  unfold iRng2
  rw [okr_bind]
  congr 1
  funext x h1
  rw [okr_bind]
  congr 1
  funext y h2
  cases x with
  | int i => cases y with
    | int j => show OkR (if _ then _ else _) _ = if _ then _ else _; split <;> rfl
    | _ => rfl
  | _ => rfl
theorem loop_inv {chk : Hs → Prop} (I : List D → Env → Hs → Prop) (hc : ∀ xs σ h, I xs σ h → chk h) (hn : ∀ σ h, I [] σ h → qn σ h)
    (hs : ∀ x xs σ h, I (x :: xs) σ h → OkR (g x σ h) fun σ1 h1 => OkO (b σ1 h1) (I xs) qr qn (I xs)) : ∀ (xs : List D) (σ : Env) (h : Hs), I xs σ h → OkO (loopGo chk g b xs σ h) qn qr qb qc
  | [], σ, h, q => by
    unfold loopGo
    rw [if_pos (hc _ _ _ q)]
    exact hn _ _ q
  | x :: xs, σ, h, q => by
    unfold loopGo
    rw [if_pos (hc _ _ _ q)]
    have z := hs x xs σ h q
    cases e : g x σ h with
    | no => rw [e] at z; exact z.elim
    | xc _ _ _ => rw [e] at z; exact z.elim
    | ok σ1 h1 =>
      rw [e] at z
      show OkO (match b σ1 h1 with
        | .nx σ2 h2 => loopGo chk g b xs σ2 h2
        | .ct σ2 h2 => loopGo chk g b xs σ2 h2
        | .bk σ2 h2 => .nx σ2 h2
        | o => o) _ _ _ _
      have z' : OkO (b σ1 h1) (I xs) qr qn (I xs) := z
      cases e2 : b σ1 h1 with
      | nx σ2 h2 => rw [e2] at z'; exact loop_inv I hc hn hs xs σ2 h2 z'
      | ct σ2 h2 => rw [e2] at z'; exact loop_inv I hc hn hs xs σ2 h2 z'
      | bk σ2 h2 => rw [e2] at z'; exact z'
      | rt d h2 => rw [e2] at z'; exact z'
      | xc _ _ _ _ => rw [e2] at z'; exact z'
      | no => rw [e2] at z'; exact z'
/-- a loop over a thing that needs no look -/
theorem loop_t (I : List D → Env → Hs → Prop) (q : I xs σ h) (hn : ∀ σ h, I [] σ h → qn σ h)
    (hs : ∀ x xs σ h, I (x :: xs) σ h → OkR (g x σ h) fun σ1 h1 => OkO (b σ1 h1) (I xs) qr qn (I xs)) : OkO (loopGo chkTrue g b xs σ h) qn qr qb qc :=
  loop_inv I (fun _ _ _ _ => trivial) hn hs xs σ h q
@[simp ↓] theorem okr_lc {hp : Bool} {own is : List Nat} {it : It} : OkR (mLc hp own is it t m σ h) Q = OkR (it σ h) fun p h1 => OkR (lcGo p.2 own (cTg is) t m p.1 σ h1) fun ys h2 => OkR (mkL hp ys h2) Q := by
  unfold mLc
  rw [okr_bind]
  congr 1
  funext p h1
  cases lcGo p.2 own (cTg is) t m p.1 σ h1 <;> rfl
theorem lc_inv {chk : Hs → Prop} {own : List Nat} (I : List D → List D → Hs → Prop) (hc : ∀ xs acc h, I xs acc h → chk h)
    (hs : ∀ x xs acc h, I (x :: xs) acc h → OkR (g x (wipeE σ own) h) fun σ1 h1 => OkR (t σ1 h1) fun c h2 => if c = true then OkR (m σ1 h2) fun y h3 => I xs (acc ++ [y]) h3 else I xs acc h2) :
    ∀ (xs acc : List D) (h : Hs), I xs acc h → OkR (lcGo chk own g t m xs σ h) fun ys h' => I [] (acc ++ ys) h'
  | [], acc, h, q => by
    unfold lcGo
    rw [if_pos (hc _ _ _ q)]
    show I [] (acc ++ []) h
    rw [List.append_nil]
    exact q
  | x :: xs, acc, h, q => by
    unfold lcGo
    rw [if_pos (hc _ _ _ q)]
    have z := hs x xs acc h q
    cases e : g x (wipeE σ own) h with
    | no => rw [e] at z; exact z.elim
    | xc _ _ _ => rw [e] at z; exact z.elim
    | ok σ1 h1 =>
      rw [e] at z
      have z : OkR (t σ1 h1) _ := z
      simp only []
      cases e1 : t σ1 h1 with
      | no => rw [e1] at z; exact z.elim
      | xc _ _ _ => rw [e1] at z; exact z.elim
      | ok c h2 =>
        rw [e1] at z
        cases c with
        | false => exact lc_inv I hc hs xs acc h2 z
        | true =>
          have z : OkR (m σ1 h2) _ := z
          simp only []
          cases e2 : m σ1 h2 with
          | no => rw [e2] at z; exact z.elim
          | xc _ _ _ => rw [e2] at z; exact z.elim
          | ok y h3 =>
            rw [e2] at z
            have z : I xs (acc ++ [y]) h3 := z
            have w := lc_inv I hc hs xs (acc ++ [y]) h3 z
            simp only []
            cases e3 : lcGo chk own g t m xs σ h3 with
            | no => rw [e3] at w; exact w.elim
            | xc _ _ _ => rw [e3] at w; exact w.elim
            | ok ys h4 =>
              rw [e3] at w
              show I [] (acc ++ (y :: ys)) h4
              have w : I [] ((acc ++ [y]) ++ ys) h4 := w
              rw [List.append_assoc] at w
              exact w
theorem lc_t {own : List Nat} (I : List D → List D → Hs → Prop) (q : I xs [] h) (hs : ∀ x xs acc h, I (x :: xs) acc h → OkR (g x (wipeE σ own) h) fun σ1 h1 => OkR (t σ1 h1) fun c h2 => if c = true then OkR (m σ1 h2) fun y h3 => I xs (acc ++ [y]) h3 else I xs acc h2)
    (hn : ∀ ys h', I [] ys h' → QL ys h') : OkR (lcGo chkTrue own g t m xs σ h) QL :=
  (lc_inv I (fun _ _ _ _ => trivial) hs xs [] h q).mono fun ys h' w => hn ys h' w
@[simp ↓] theorem okr_yes : OkR (tYesM σ h) QB = QB true h := Eq.trans rfl rfl
/-! tests -/
@[simp ↓] theorem cmp_eqI : cmpD .eq (.int i) (.int j) h = some (decide (i = j)) := by
  show eqD h (.int i) (.int j) = _
  unfold eqD
  simp [datOf, D.dat, D.eqv]
  by_cases e : i = j <;> simp [e]
@[simp ↓] theorem cmp_eqS {s s' : List Nat} : cmpD .eq (.str s) (.str s') h = some (s == s') := Eq.trans rfl rfl
@[simp ↓] theorem cmp_eqB {x y : Bool} : cmpD .eq (.bl x) (.bl y) h = some (x == y) := by
  show eqD h (.bl x) (.bl y) = _
  unfold eqD
  cases x <;> cases y <;> simp [datOf, D.dat, D.eqv]
@[simp ↓] theorem cmp_ne {x y : D} : cmpD .ne x y h = (cmpD .eq x y h).map (!·) := Eq.trans rfl rfl
@[simp ↓] theorem cmp_notin {x y : D} : cmpD .notin x y h = (cmpD .inn x y h).map (!·) := Eq.trans rfl rfl
@[simp ↓] theorem cmp_lt : cmpD .lt (.int i) (.int j) h = some (decide (i < j)) := Eq.trans rfl rfl
@[simp ↓] theorem cmp_le : cmpD .le (.int i) (.int j) h = some (decide (i ≤ j)) := Eq.trans rfl rfl
@[simp ↓] theorem cmp_gt : cmpD .gt (.int i) (.int j) h = some (decide (j < i)) := Eq.trans rfl rfl
@[simp ↓] theorem cmp_ge : cmpD .ge (.int i) (.int j) h = some (decide (j ≤ i)) := Eq.trans rfl rfl
@[simp ↓] theorem cmp_is {x y : D} : cmpD .isx x y h = isD x y := Eq.trans rfl rfl
@[simp ↓] theorem cmp_isnot {x y : D} : cmpD .isnot x y h = (isD x y).map (!·) := Eq.trans rfl rfl
@[simp ↓] theorem opt_map {α β : Type} {o : Option α} {f : α → β} {P : β → Prop} : opt (o.map f) P = opt o fun a => P (f a) := by
  cases o <;> rfl
@[simp ↓] theorem tr_bl {x : Bool} : truth h (.bl x) = some x := Eq.trans rfl rfl
@[simp ↓] theorem tr_int : truth h (.int i) = some (i != 0) := Eq.trans rfl rfl
@[simp ↓] theorem tr_tup : truth h (.tup xs) = some (!xs.isEmpty) := Eq.trans rfl rfl
@[simp ↓] theorem tr_fl : truth h (.fl xs) = some (!xs.isEmpty) := Eq.trans rfl rfl
@[simp ↓] theorem tr_non : truth h .non = some false := Eq.trans rfl rfl
@[simp] theorem SZ_val : SZ = 16777216 := by decide
/-! built-ins -/
@[simp ↓] theorem okr_lenF : OkR (bLen [.fl xs] h) Q = Q (.int xs.length) h := Eq.trans rfl rfl
@[simp ↓] theorem okr_lenT : OkR (bLen [.tup xs] h) Q = Q (.int xs.length) h := Eq.trans rfl rfl
@[simp ↓] theorem okr_lenSc : OkR (bLen [.sl xs] h) Q = Q (.int xs.length) h := Eq.trans rfl rfl
@[simp ↓] theorem okr_lenS {s : List Nat} : OkR (bLen [.str s] h) Q = if s.length ≤ SZ then Q (.int s.length) h else False := by
  show OkR (if _ then _ else _) _ = _
  split <;> rfl
@[simp ↓] theorem okr_lenR : OkR (bLen [.ref p] h) Q = ocase h[p]? (fun xs => Q (.int xs.length) h) fun kvs => Q (.int kvs.length) h := by
  show OkR (match lstOf h (.ref p) with | some xs => .ok (.int xs.length) h | none => (match dctOf h (.ref p) with | some kvs => .ok (.int kvs.length) h | none => .no)) Q = _
  show OkR (match (match h[p]? with | some (.lst xs) => some xs | _ => none) with | some xs => .ok (.int xs.length) h | none => (match (match h[p]? with | some (.dct kvs) => some kvs | _ => none) with | some kvs => .ok (.int kvs.length) h | none => .no)) Q = _
  rcases h[p]? with _ | _ | _ | _ <;> rfl
@[simp ↓] theorem okr_abs : OkR (bAbs [.int i] h) Q = Q (.int (if i < 0 then -i else i)) h := Eq.trans rfl rfl
@[simp ↓] theorem okr_int : OkR (bInt [.int i] h) Q = Q (.int i) h := Eq.trans rfl rfl
@[simp ↓] theorem okr_intB {x : Bool} : OkR (bInt [.bl x] h) Q = Q (.int (if x then 1 else 0)) h := Eq.trans rfl rfl
@[simp ↓] theorem okr_min : OkR (bMin2 [.int i, .int j] h) Q = Q (.int (if j < i then j else i)) h := Eq.trans rfl rfl
@[simp ↓] theorem okr_max : OkR (bMax2 [.int i, .int j] h) Q = Q (.int (if j > i then j else i)) h := Eq.trans rfl rfl
@[simp ↓] theorem okr_tupT : OkR (bTuple [.tup xs] h) Q = Q (.tup xs) h := Eq.trans rfl rfl
@[simp ↓] theorem okr_tupF : OkR (bTuple [.fl xs] h) Q = OkR (mkT xs h) Q := Eq.trans rfl rfl
@[simp ↓] theorem okr_tupR : OkR (bTuple [.ref p] h) Q = ocase h[p]? (fun xs => OkR (mkT xs h) Q) fun _ => False := by
  show OkR (match (match h[p]? with | some (.lst xs) => some xs | _ => none) with | some xs => mkT xs h | none => .no) Q = _
  rcases h[p]? with _ | _ | _ | _ <;> rfl
@[simp ↓] theorem okr_listT {hp : Bool} : OkR (bList hp [.tup xs] h) Q = OkR (mkL hp xs h) Q := Eq.trans rfl rfl
@[simp ↓] theorem okr_listF {hp : Bool} : OkR (bList hp [.fl xs] h) Q = OkR (mkL hp xs h) Q := Eq.trans rfl rfl
@[simp ↓] theorem okr_listR {hp : Bool} : OkR (bList hp [.ref p] h) Q = ocase h[p]? (fun xs => OkR (mkL hp xs h) Q) fun _ => False := by
  show OkR (match (match h[p]? with | some (.lst xs) => some xs | _ => none) with | some xs => mkL hp xs h | none => .no) Q = _
  rcases h[p]? with _ | _ | _ | _ <;> rfl
@[simp ↓] theorem okr_append {d : D} : OkR (eAppend (.ref p) [d] h) Q = ocase h[p]? (fun xs => if xs.length < SZ then Q .non (h.set p (.lst (xs ++ [d]))) else False) fun _ => False := by
  show OkR (match h[p]? with | some (.lst xs) => (if xs.length < SZ then .ok .non (h.set p (.lst (xs ++ [d]))) else .no : R D) | _ => .no) Q = _
  rcases h[p]? with _ | xs | _ | _
  · rfl
  · show OkR (if _ then _ else _) Q = if _ then _ else _
    split <;> rfl
  · rfl
  · rfl
@[simp ↓] theorem okr_pop0 : OkR (ePop (.ref p) [.int 0] h) Q = ocase h[p]? (fun xs => xcons xs fun d xs => Q d (h.set p (.lst xs))) fun _ => False := by
  show OkR (match h[p]? with | some (.lst (y :: xs)) => (.ok y (h.set p (.lst xs)) : R D) | _ => .no) Q = _
  rcases h[p]? with _ | xs | _ | _
  · rfl
  · cases xs <;> rfl
  · rfl
  · rfl
@[simp ↓] theorem isT_list : (isT "list" h (.ref p) = true) = ocase h[p]? (fun _ => True) fun _ => False := by
  show ((match h[p]? with | some (.lst xs) => some xs | _ => none).isSome = true) = _
  rcases h[p]? with _ | _ | _ | _
  · exact eq_false (by simp)
  · exact eq_true rfl
  · exact eq_false (by simp)
  · exact eq_false (by simp)
/-! places -/
def ixat {α : Type} (xs : List α) (i : Int) : Option α := (ixD xs.length i).bind fun j => xs[j]?
@[simp ↓] theorem okr_ixF : OkR (opIx (.fl xs) (.int i) h) Q = opt (ixat xs i) fun v => Q v h := by
  show OkR (match (ixD xs.length i).bind fun j => xs[j]? with | some v => .ok v h | none => .no) Q = _
  unfold ixat
  cases (ixD xs.length i).bind fun j => xs[j]? <;> rfl
@[simp ↓] theorem okr_ixSc : OkR (opIx (.sl xs) (.int i) h) Q = opt (ixat xs i) fun v => Q v h := by
  show OkR (match (ixD xs.length i).bind fun j => xs[j]? with | some v => .ok v h | none => .no) Q = _
  unfold ixat
  cases (ixD xs.length i).bind fun j => xs[j]? <;> rfl
@[simp ↓] theorem okr_ixT : OkR (opIx (.tup xs) (.int i) h) Q = opt (ixat xs i) fun v => Q v h := by
  show OkR (match (ixD xs.length i).bind fun j => xs[j]? with | some v => .ok v h | none => .no) Q = _
  unfold ixat
  cases (ixD xs.length i).bind fun j => xs[j]? <;> rfl
@[simp ↓] theorem okr_ixS {s : List Nat} : OkR (opIx (.str s) (.int i) h) Q = if s.length ≤ SZ then opt (ixat s i) fun c => Q (.str [c]) h else False := by
  show OkR (if _ then (match (ixD s.length i).bind fun j => s[j]? with | some c => .ok (.str [c]) h | none => .no) else .no) Q = _
  unfold ixat
  split
  · cases (ixD s.length i).bind fun j => s[j]? <;> rfl
  · rfl
@[simp ↓] theorem okr_ixR : OkR (opIx (.ref p) (.int i) h) Q = ocase h[p]? (fun xs => opt (ixat xs i) fun v => Q v h) fun kvs => opt (dget kvs (.int i)) fun v => Q v h := by
  show OkR (match (match h[p]? with | some (.lst xs) => some xs | _ => none) with | some xs => (match (ixD xs.length i).bind fun j => xs[j]? with | some v => .ok v h | none => .no) | none => (match (match h[p]? with | some (.dct kvs) => some kvs | _ => none) with | some kvs => (if isKey (.int i) then (match dget kvs (.int i) with | some v => .ok v h | none => .no) else .no) | none => .no)) Q = _
  rcases h[p]? with _ | xs | kvs | _
  · rfl
  · show OkR (match (ixD xs.length i).bind fun j => xs[j]? with | some v => .ok v h | none => .no) Q = opt (ixat xs i) fun v => Q v h
    unfold ixat
    cases (ixD xs.length i).bind fun j => xs[j]? <;> rfl
  · show OkR (match dget kvs (.int i) with | some v => .ok v h | none => .no) Q = opt (dget kvs (.int i)) fun v => Q v h
    cases dget kvs (.int i) <;> rfl
  · rfl
theorem ixat_nat {α : Type} {xs : List α} {i : Int} {k : Nat} {v : α} (e : xs[k]? = some v) (hk : i = k) : ixat xs i = some v := by
  have hl : k < xs.length := by
    rcases Nat.lt_or_ge k xs.length with z | z
    · exact z
    · rw [List.getElem?_eq_none z] at e
      cases e
  unfold ixat ixD
  rw [if_pos (by omega), if_pos (by omega)]
  simp only [Option.bind_some]
  rw [hk]
  exact e
theorem opt_ix {α : Type} {xs : List α} {i : Int} {P : α → Prop} (h0 : 0 ≤ i) (h1 : i < xs.length) (q : ∀ v ∈ xs, P v) : opt (ixat xs i) P := by
  have hl : i.toNat < xs.length := by omega
  rw [ixat_nat (k := i.toNat) (v := xs[i.toNat]) (List.getElem?_eq_getElem hl) (by omega)]
  exact q _ (List.getElem_mem hl)
@[simp ↓] theorem ixat_0 {α : Type} {x : α} {xs : List α} : ixat (x :: xs) 0 = some x := ixat_nat (k := 0) rfl rfl
@[simp ↓] theorem ixat_1 {α : Type} {x y : α} {xs : List α} : ixat (x :: y :: xs) 1 = some y := ixat_nat (k := 1) rfl rfl
@[simp ↓] theorem ixat_2 {α : Type} {x y z : α} {xs : List α} : ixat (x :: y :: z :: xs) 2 = some z := ixat_nat (k := 2) rfl rfl
@[simp ↓] theorem ixat_3 {α : Type} {x y z w : α} {xs : List α} : ixat (x :: y :: z :: w :: xs) 3 = some w := ixat_nat (k := 3) rfl rfl
@[simp ↓] theorem okr_slcS {hp : Bool} {s : List Nat} {lo hi : Option Int} : OkR (opSlc hp (.str s) lo hi h) Q = if s.length ≤ SZ then Q (.str (cutD s lo hi)) h else False := by
  show OkR (if _ then _ else _) Q = _
  split <;> rfl
@[simp ↓] theorem okr_slcT {hp : Bool} {lo hi : Option Int} : OkR (opSlc hp (.tup xs) lo hi h) Q = Q (.tup (cutD xs lo hi)) h := Eq.trans rfl rfl
@[simp ↓] theorem okr_slcF {hp : Bool} {lo hi : Option Int} : OkR (opSlc hp (.fl xs) lo hi h) Q = OkR (mkL hp (cutD xs lo hi) h) Q := Eq.trans rfl rfl
@[simp ↓] theorem okr_slcSc {hp : Bool} {lo hi : Option Int} : OkR (opSlc hp (.sl xs) lo hi h) Q = OkR (mkL hp (cutD xs lo hi) h) Q := Eq.trans rfl rfl
@[simp ↓] theorem okr_slcR {hp : Bool} {lo hi : Option Int} : OkR (opSlc hp (.ref p) lo hi h) Q = ocase h[p]? (fun xs => OkR (mkL hp (cutD xs lo hi) h) Q) fun _ => False := by
  show OkR (match (match h[p]? with | some (.lst xs) => some xs | _ => none) with | some xs => mkL hp (cutD xs lo hi) h | none => .no) Q = _
  rcases h[p]? with _ | _ | _ | _ <;> rfl
@[simp] theorem cut_all {α : Type} (xs : List α) : cutD xs (some 0) none = xs := by
  unfold cutD sixD
  simp
@[simp ↓] theorem opset_l {v : D} (PH : Hs → Prop) : opt (opSet (.ref p) (.int i) v h) PH = ocase h[p]? (fun xs => opt (ixD xs.length i) fun j => PH (h.set p (.lst (xs.set j v)))) fun kvs => if kvs.length < SZ then PH (h.set p (.dct (dput kvs (.int i) v))) else False := by
  show opt (match h[p]?, D.int i with
    | some (.lst xs), .int i => (match ixD xs.length i with
      | some j => some (h.set p (.lst (xs.set j v)))
      | none => none)
    | some (.dct kvs), y => if isKey y && decide (kvs.length < SZ) then some (h.set p (.dct (dput kvs y v))) else none
    | _, _ => none) PH = _
  rcases h[p]? with _ | xs | kvs | _
  · rfl
  · show opt (match ixD xs.length i with | some j => some (h.set p (.lst (xs.set j v))) | none => none) PH = _
    show _ = opt (ixD xs.length i) _
    cases ixD xs.length i <;> rfl
  · show opt (if isKey (.int i) && decide (kvs.length < SZ) then _ else _) PH = if _ then _ else _
    by_cases e : kvs.length < SZ
    · rw [if_pos e, if_pos (by simp only [isKey, Bool.true_and, decide_eq_true_eq]; exact e)]
      rfl
    · rw [if_neg e, if_neg (by simp only [isKey, Bool.true_and, decide_eq_true_eq]; exact e)]
      rfl
  · rfl
theorem cut_mem {α : Type} {xs : List α} {lo hi : Option Int} {x : α} (q : x ∈ cutD xs lo hi) : x ∈ xs := List.mem_of_mem_drop (List.mem_of_mem_take q)
end
theorem okr_pure {h : Hs} {o : Out} {Q : D → Hs → Prop} (q : OkO o (fun _ h1 => (∃ g, h1 = h ++ g) ∧ Q .non h) (fun v h1 => (∃ g, h1 = h ++ g) ∧ OkR (frz h.length h1 h v) Q) (fun _ _ => False) fun _ _ => False) : OkR (purify h (finB o)) Q := by
  cases o with
  | nx σ h1 =>
    unfold purify finB
    simp only []
    rw [if_pos q.1]
    exact q.2
  | rt d h1 =>
    unfold purify finB
    simp only []
    rw [if_pos q.1]
    exact q.2
  | _ => exact q.elim
theorem cut_map {α β : Type} (f : α → β) (xs : List α) (lo hi : Option Int) : cutD (xs.map f) lo hi = (cutD xs lo hi).map f := by
  unfold cutD
  rw [List.map_take, List.map_drop, List.length_map]
@[simp] theorem fdivE {a b : Int} (hb : 0 ≤ b) : a.fdiv b = a / b := Int.fdiv_eq_ediv_of_nonneg a hb
@[simp] theorem fmodE {a b : Int} (hb : 0 ≤ b) : a.fmod b = a % b := Int.fmod_eq_emod_of_nonneg a hb
/-! the heap, but for one place -/
def Fr (p : Nat) (h h' : Hs) : Prop := h.length ≤ h'.length ∧ ∀ i, i < h.length → i ≠ p → h'[i]? = h[i]?
theorem Fr.refl (p : Nat) (h : Hs) : Fr p h h := ⟨Nat.le_refl _, fun _ _ _ => rfl⟩
theorem Fr.trans {p : Nat} {h h' h'' : Hs} (a : Fr p h h') (b : Fr p h' h'') : Fr p h h'' := ⟨Nat.le_trans a.1 b.1, fun i hi n => (b.2 i (Nat.lt_of_lt_of_le hi a.1) n).trans (a.2 i hi n)⟩
theorem Fr.set (p : Nat) (h : Hs) (o : O) : Fr p h (h.set p o) := ⟨by simp, fun i hi n => List.getElem?_set_ne (Ne.symm n)⟩
theorem Fr.app (p : Nat) (h g : Hs) : Fr p h (h ++ g) := ⟨by simp, fun i hi _ => List.getElem?_append_left hi⟩
theorem lt_of_at {h : Hs} {p : Nat} {o : O} (e : h[p]? = some o) : p < h.length := by
  rcases Nat.lt_or_ge p h.length with z | z
  · exact z
  · rw [List.getElem?_eq_none z] at e
    cases e
theorem lt_of_at' {α : Type} {xs : List α} {k : Nat} {x : α} (e : xs[k]? = some x) : k < xs.length := by
  rcases Nat.lt_or_ge k xs.length with z | z
  · exact z
  · rw [List.getElem?_eq_none z] at e
    cases e
/-- the draws: a list of numbers of no sign -/
def Dr (p : Nat) (h : Hs) : Prop := ∃ ns : List Int, h[p]? = some (.lst (ns.map .int)) ∧ ∀ n ∈ ns, 0 ≤ n
theorem Dr.lt {p : Nat} {h : Hs} (q : Dr p h) : p < h.length := by
  obtain ⟨ns, e, _⟩ := q
  exact lt_of_at e
theorem Dr.app {p : Nat} {h : Hs} (q : Dr p h) (g : Hs) : Dr p (h ++ g) := by
  have l := q.lt
  obtain ⟨ns, e, nn⟩ := q
  exact ⟨ns, by rw [List.getElem?_append_left l]; exact e, nn⟩
theorem Dr.set {p q : Nat} {h : Hs} (r : Dr p h) (n : q ≠ p) (o : O) : Dr p (h.set q o) := by
  obtain ⟨ns, e, nn⟩ := r
  exact ⟨ns, by rw [List.getElem?_set_ne n]; exact e, nn⟩
theorem Fr.at_ {p i : Nat} {h h' : Hs} {o : O} (f : Fr p h h') (e : h[i]? = some o) (n : i ≠ p) : h'[i]? = some o := (f.2 i (lt_of_at e) n).trans e
/-- a place above is set -/
theorem Fr.set_hi {p q : Nat} {h h' : Hs} (f : Fr p h h') (l : h.length ≤ q) (o : O) : Fr p h (h'.set q o) := ⟨by simpa using f.1, fun i hi n => by
  rw [List.getElem?_set_ne (by omega)]
  exact f.2 i hi n⟩
theorem Fr.app_hi {p : Nat} {h h' : Hs} (f : Fr p h h') (g : Hs) : Fr p h (h' ++ g) := f.trans (Fr.app p h' g)
/-- what was made first is forgotten -/
theorem Fr.of_app {p : Nat} {h g h' : Hs} (f : Fr p (h ++ g) h') : Fr p h h' := (Fr.app p h g).trans f
@[simp ↓] theorem rngL_0 (i : Int) : rngL i 0 = [] := Eq.trans rfl rfl
@[simp ↓] theorem cmp_inT {s : List Nat} {ys : List D} {h : Hs} : cmpD .inn (.str s) (.tup ys) h = if ys.all flatD = true then some (ys.any fun z => D.eqv z (.str s)) else none := by
  show inD h (.str s) (.tup ys) = _
  unfold inD
  split
  · rename_i e1 e2
    cases e2
  · simp [seqOf, flatD]
@[simp] theorem eqv_ss {a b : List Nat} : D.eqv (.str a) (.str b) = (a == b) := Eq.trans rfl rfl
@[simp] theorem flat_s {a : List Nat} : flatD (.str a) = true := Eq.trans rfl rfl
@[simp] theorem flat_i {a : Int} : flatD (.int a) = true := Eq.trans rfl rfl
@[simp ↓] theorem okr_addS {hp : Bool} {a b : List Nat} {h : Hs} {Q : D → Hs → Prop} : OkR (opAdd hp (.str a) (.str b) h) Q = (a.length + b.length ≤ SZ ∧ Q (.str (a ++ b)) h) := by
  show OkR (if _ then _ else _) Q = _
  split
  · rename_i z
    exact propext ⟨fun q => ⟨z, q⟩, fun q => q.2⟩
  · rename_i z
    exact propext ⟨fun q => q.elim, fun q => z q.1⟩
@[simp ↓] theorem isTy_non {h : Hs} {t : Ty} : isTy h .non t = some false := Eq.trans rfl rfl
@[simp ↓] theorem isTy_int {h : Hs} {i : Int} {t : Ty} : isTy h (.int i) t = some (t == .int) := Eq.trans rfl rfl
@[simp ↓] theorem isTy_bl {h : Hs} {i : Bool} {t : Ty} : isTy h (.bl i) t = some (t == .bool || t == .int) := Eq.trans rfl rfl
@[simp ↓] theorem isTy_str {h : Hs} {i : List Nat} {t : Ty} : isTy h (.str i) t = some (t == .str) := Eq.trans rfl rfl
@[simp ↓] theorem isTy_tup {h : Hs} {i : List D} {t : Ty} : isTy h (.tup i) t = some (t == .tuple) := Eq.trans rfl rfl
@[simp ↓] theorem isTy_fl {h : Hs} {i : List D} {t : Ty} : isTy h (.fl i) t = some (t == .list) := Eq.trans rfl rfl
@[simp ↓] theorem okr_iaddI {i j : Int} {h : Hs} {Q : D → Hs → Prop} : OkR (opIAdd (.int i) (.int j) h) Q = Q (.int (i + j)) h := Eq.trans rfl rfl
@[simp] theorem cut_1 {α : Type} (x : α) (xs : List α) : cutD (x :: xs) (some 1) none = xs := by
  unfold cutD sixD
  simp
end DN

set_option Elab.async false
set_option linter.all false
set_option maxRecDepth 100000
set_option maxHeartbeats 0
/-! the law's defs as meanings; printed by gen_law.py -/
namespace LW
open PySem DN
def top (i : Nat) : Stmt := PySem.Challenge.pw_sinktree_k04_evaluate.main.body.getD i (.Pass ⟨0, 0, 0, 0⟩)
/- 0 field_index: 0 schema, 1 name, 2 k -/
noncomputable def b0 (n : Nat) (C : Calls) : B := (sSeq (sFor (gVar 2) (iRng1 (mApp bLen (mCons (mVar 0) mNil))) (sSeq (sIf (tVal (mOp (opCmp .eq) (mOp opIx (mOp opIx (mVar 0) (mVar 2)) (mLit (.int 0))) (mVar 1))) (sSeq (sRet (mVar 2))
  sPass) sPass)
  sPass))
  (sSeq (sRet (mNeg (mLit (.int 1))))
  sPass))
noncomputable def r0 : Row := ⟨"field_index", top 1, ["schema", "name", "k"], ["schema", "name"], ⟨2, 3, false, b0⟩⟩
/- 1 combine: 0 head, 1 a, 2 b -/
noncomputable def b1 (n : Nat) (C : Calls) : B := (sSeq (sIf (tVal (mOp (opCmp .eq) (mVar 0) (mLit (.str [97, 100, 100])))) (sSeq (sRet (mOp (opAdd false) (mVar 1) (mVar 2)))
  sPass) sPass)
  (sSeq (sIf (tVal (mOp (opCmp .eq) (mVar 0) (mLit (.str [115, 117, 98])))) (sSeq (sRet (mOp opSub (mVar 1) (mVar 2)))
  sPass) sPass)
  (sSeq (sIf (tVal (mOp (opCmp .eq) (mVar 0) (mLit (.str [109, 117, 108])))) (sSeq (sRet (mOp (opMul false) (mVar 1) (mVar 2)))
  sPass) sPass)
  (sSeq (sIf (tVal (mOp (opCmp .eq) (mVar 0) (mLit (.str [109, 105, 110])))) (sSeq (sRet (mApp bMin2 (mCons (mVar 1) (mCons (mVar 2) mNil))))
  sPass) sPass)
  (sSeq (sIf (tVal (mOp (opCmp .eq) (mVar 0) (mLit (.str [109, 97, 120])))) (sSeq (sRet (mApp bMax2 (mCons (mVar 1) (mCons (mVar 2) mNil))))
  sPass) sPass)
  (sSeq (sIf (tVal (mOp (opCmp .eq) (mVar 0) (mLit (.str [108, 101, 115, 115])))) (sSeq (sRet (mOp (opCmp .lt) (mVar 1) (mVar 2)))
  sPass) sPass)
  (sSeq (sIf (tVal (mOp (opCmp .eq) (mVar 0) (mLit (.str [115, 97, 109, 101])))) (sSeq (sRet (mOp (opCmp .eq) (mVar 1) (mVar 2)))
  sPass) sPass)
  (sSeq (sIf (tVal (mOp (opCmp .eq) (mVar 0) (mLit (.str [97, 110, 100])))) (sSeq (sRet (mAnd (mVar 1) (mVar 2)))
  sPass) sPass)
  (sSeq (sIf (tVal (mOp (opCmp .eq) (mVar 0) (mLit (.str [111, 114])))) (sSeq (sRet (mOr (mVar 1) (mVar 2)))
  sPass) sPass)
  (sSeq (sRet (mOp (opAdd false) (mVar 1) (mVar 2)))
  sPass))))))))))
noncomputable def r1 : Row := ⟨"combine", top 3, ["head", "a", "b"], ["head", "a", "b"], ⟨3, 3, false, b1⟩⟩
/- 2 alter: 0 head, 1 a, 2 n -/
noncomputable def b2 (n : Nat) (C : Calls) : B := (sSeq (sIf (tVal (mOp (opCmp .eq) (mVar 0) (mLit (.str [110, 111, 116])))) (sSeq (sRet (mNotT (mVar 1)))
  sPass) sPass)
  (sSeq (sIf (tVal (mOp (opCmp .eq) (mVar 0) (mLit (.str [100, 105, 118])))) (sSeq (sRet (mOp opFdiv (mApp bInt (mCons (mVar 1) mNil)) (mVar 2)))
  sPass) sPass)
  (sSeq (sIf (tVal (mOp (opCmp .eq) (mVar 0) (mLit (.str [109, 111, 100])))) (sSeq (sRet (mOp opMod (mApp bInt (mCons (mVar 1) mNil)) (mVar 2)))
  sPass) sPass)
  (sSeq (sRet (mSlc false (mVar 1) none (some (mVar 2))))
  sPass))))
noncomputable def r2 : Row := ⟨"alter", top 4, ["head", "a", "n"], ["head", "a", "n"], ⟨3, 3, false, b2⟩⟩
/- 3 value_of: 0 schema, 1 expression, 2 record, 3 head, 4 first, 5 second, 6 third -/
noncomputable def b3 (n : Nat) (C : Calls) : B := (sSeq (sAsg (mOp opIx (mVar 1) (mLit (.int 0))) (gVar 3))
  (sSeq (sIf (tVal (mOp (opCmp .inn) (mVar 3) (mTup (mCons (mLit (.str [105, 110, 116])) (mCons (mLit (.str [102, 108, 97, 103])) (mCons (mLit (.str [119, 111, 114, 100])) (mCons (mLit (.str [116, 101, 120, 116])) mNil))))))) (sSeq (sRet (mOp opIx (mVar 1) (mLit (.int 1))))
  sPass) sPass)
  (sSeq (sIf (tVal (mOp (opCmp .eq) (mVar 3) (mLit (.str [102, 105, 101, 108, 100])))) (sSeq (sRet (mOp opIx (mVar 2) (mCallN C 2 0 (mCons (mVar 0) (mCons (mOp opIx (mVar 1) (mLit (.int 1))) mNil)))))
  sPass) sPass)
  (sSeq (sAsg (mCallN C 3 3 (mCons (mVar 0) (mCons (mOp opIx (mVar 1) (mLit (.int 1))) (mCons (mVar 2) mNil)))) (gVar 4))
  (sSeq (sIf (tVal (mOp (opCmp .eq) (mVar 3) (mLit (.str [110, 111, 116])))) (sSeq (sRet (mCallN C 3 2 (mCons (mVar 3) (mCons (mVar 4) (mCons (mLit (.int 0)) mNil)))))
  sPass) sPass)
  (sSeq (sIf (tVal (mOp (opCmp .inn) (mVar 3) (mTup (mCons (mLit (.str [100, 105, 118])) (mCons (mLit (.str [109, 111, 100])) (mCons (mLit (.str [99, 117, 116])) mNil)))))) (sSeq (sRet (mCallN C 3 2 (mCons (mVar 3) (mCons (mVar 4) (mCons (mOp opIx (mVar 1) (mLit (.int 2))) mNil)))))
  sPass) sPass)
  (sSeq (sAsg (mCallN C 3 3 (mCons (mVar 0) (mCons (mOp opIx (mVar 1) (mLit (.int 2))) (mCons (mVar 2) mNil)))) (gVar 5))
  (sSeq (sIf (tVal (mOp (opCmp .eq) (mVar 3) (mLit (.str [112, 105, 99, 107])))) (sSeq (sAsg (mCallN C 3 3 (mCons (mVar 0) (mCons (mOp opIx (mVar 1) (mLit (.int 3))) (mCons (mVar 2) mNil)))) (gVar 6))
  (sSeq (sRet (mIfe (tVal (mVar 4)) (mVar 5) (mVar 6)))
  sPass)) sPass)
  (sSeq (sRet (mCallN C 3 1 (mCons (mVar 3) (mCons (mVar 4) (mCons (mVar 5) mNil)))))
  sPass)))))))))
noncomputable def r3 : Row := ⟨"value_of", top 5, ["schema", "expression", "record", "head", "first", "second", "third"], ["schema", "expression", "record"], ⟨3, 7, false, b3⟩⟩
/- 4 run_block: 0 schema, 1 block, 2 record, 3 statement -/
noncomputable def b4 (n : Nat) (C : Calls) : B := (sSeq (sFor (gVar 3) (iVal (mVar 1)) (sSeq (sIf (tVal (mOp (opCmp .eq) (mOp opIx (mVar 3) (mLit (.int 0))) (mLit (.str [115, 101, 116])))) (sSeq (sAsg (mCallN C 3 3 (mCons (mVar 0) (mCons (mOp opIx (mVar 3) (mLit (.int 2))) (mCons (mVar 2) mNil)))) (gSub (mVar 2) (mCallN C 2 0 (mCons (mVar 0) (mCons (mOp opIx (mVar 3) (mLit (.int 1))) mNil)))))
  sPass) (sSeq (sIf (tVal (mOp (opCmp .eq) (mOp opIx (mVar 3) (mLit (.int 0))) (mLit (.str [105, 102])))) (sSeq (sIf (tVal (mCallN C 3 3 (mCons (mVar 0) (mCons (mOp opIx (mVar 3) (mLit (.int 1))) (mCons (mVar 2) mNil))))) (sSeq (sEx (mCallN C 3 4 (mCons (mVar 0) (mCons (mOp opIx (mVar 3) (mLit (.int 2))) (mCons (mVar 2) mNil)))))
  sPass) (sSeq (sEx (mCallN C 3 4 (mCons (mVar 0) (mCons (mOp opIx (mVar 3) (mLit (.int 3))) (mCons (mVar 2) mNil)))))
  sPass))
  sPass) sPass)
  sPass))
  sPass))
  sPass)
noncomputable def r4 : Row := ⟨"run_block", top 6, ["schema", "block", "record", "statement"], ["schema", "block", "record"], ⟨3, 4, false, b4⟩⟩
/- 5 evaluate: 0 schema, 1 program, 2 record, 3 values -/
noncomputable def b5 (n : Nat) (C : Calls) : B := (sSeq (sAsg (mApp (bList true) (mCons (mVar 2) mNil)) (gVar 3))
  (sSeq (sEx (mCallN C 3 4 (mCons (mVar 0) (mCons (mVar 1) (mCons (mVar 3) mNil)))))
  (sSeq (sRet (mApp bTuple (mCons (mVar 3) mNil)))
  sPass)))
noncomputable def r5 : Row := ⟨"evaluate", top 7, ["schema", "program", "record", "values"], ["schema", "program", "record"], ⟨3, 4, true, b5⟩⟩
/- 6 _law_cell: 0 _law_script, 1 _law_k -/
noncomputable def b6 (n : Nat) (C : Calls) : B := (sSeq (sIf (tVal (mOp (opCmp .lt) (mVar 1) (mApp bLen (mCons (mVar 0) mNil)))) (sSeq (sRet (mApp bAbs (mCons (mApp bInt (mCons (mOp opIx (mVar 0) (mVar 1)) mNil)) mNil)))
  sPass) sPass)
  (sSeq (sRet (mLit (.int 0)))
  sPass))
noncomputable def r6 : Row := ⟨"_law_cell", top 9, ["_law_script", "_law_k"], ["_law_script", "_law_k"], ⟨2, 2, false, b6⟩⟩
/- 7 _law_draws: 0 _law_script, 1 _law_start, 2 _law_most, 3 _law_draws_here, 4 _law_cell_here, 5 _law_number, 6 _law_mixed, 7 _law_k -/
noncomputable def b7 (n : Nat) (C : Calls) : B := (sSeq (sAsg (mLst true mNil) (gVar 3))
  (sSeq (sFor (gVar 4) (iVal (mSlc false (mVar 0) (some (mVar 1)) none)) (sSeq (sAsg (mApp bAbs (mCons (mApp bInt (mCons (mVar 4) mNil)) mNil)) (gVar 5))
  (sSeq (sIf (tVal (mOp (opCmp .lt) (mVar 5) (mOp opPow (mLit (.int 10)) (mLit (.int 18))))) (sSeq (sAsg (mOp opMod (mApp bInt (mCons (mOp (opAdd false) (mOp (opMul false) (mVar 5) (mLit (.int 48271))) (mLit (.int 11))) mNil)) (mLit (.int 2147483647))) (gVar 6))
  (sSeq (sEx (mBM "list" eAppend (mVar 3) (mCons (mVar 5) mNil)))
  (sSeq (sEx (mBM "list" eAppend (mVar 3) (mCons (mOp opFdiv (mOp opMod (mApp bInt (mCons (mOp (opAdd false) (mOp (opAdd false) (mOp (opMul false) (mVar 6) (mLit (.int 16807))) (mOp opFdiv (mVar 5) (mLit (.int 9)))) (mLit (.int 3))) mNil)) (mLit (.int 2147483647))) (mLit (.int 7))) mNil)))
  (sSeq (sEx (mBM "list" eAppend (mVar 3) (mCons (mOp opFdiv (mOp opMod (mApp bInt (mCons (mOp (opAdd false) (mOp (opAdd false) (mOp (opMul false) (mVar 6) (mLit (.int 69621))) (mOp opFdiv (mVar 5) (mLit (.int 5)))) (mLit (.int 7))) mNil)) (mLit (.int 2147483647))) (mLit (.int 11))) mNil)))
  sPass)))) (sSeq (sFor (gVar 7) (iRng1 (mLit (.int 20))) (sSeq (sIf (tVal (mOp (opCmp .gt) (mVar 5) (mLit (.int 0)))) (sSeq (sEx (mBM "list" eAppend (mVar 3) (mCons (mOp opMod (mApp bInt (mCons (mVar 5) mNil)) (mLit (.int 10000))) mNil)))
  sPass) sPass)
  (sSeq (sAsg (mOp opFdiv (mVar 5) (mLit (.int 10000))) (gVar 5))
  sPass)))
  sPass))
  sPass)))
  (sSeq (sRet (mSlc true (mVar 3) none (some (mVar 2))))
  sPass)))
noncomputable def r7 : Row := ⟨"_law_draws", top 10, ["_law_script", "_law_start", "_law_most", "_law_draws_here", "_law_cell_here", "_law_number", "_law_mixed", "_law_k"], ["_law_script", "_law_start", "_law_most"], ⟨3, 8, false, b7⟩⟩
/- 8 _law_next: 0 _law_draws_here -/
noncomputable def b8 (n : Nat) (C : Calls) : B := (sSeq (sIf (tVal (mOp (opCmp .eq) (mApp bLen (mCons (mVar 0) mNil)) (mLit (.int 0)))) (sSeq (sRet (mLit (.int 0)))
  sPass) sPass)
  (sSeq (sRet (mBM "list" ePop (mVar 0) (mCons (mLit (.int 0)) mNil)))
  sPass))
noncomputable def r8 : Row := ⟨"_law_next", top 11, ["_law_draws_here"], ["_law_draws_here"], ⟨1, 1, false, b8⟩⟩
/- 9 _law_kind: 0 _law_draw, 1 _law_low -/
noncomputable def b9 (n : Nat) (C : Calls) : B := (sSeq (sIf (tVal (mOp (opCmp .lt) (mOp opMod (mVar 0) (mLit (.int 5))) (mLit (.int 2)))) (sSeq (sAsg (mOp opIx (mLst false (mCons (mLit (.int 0)) (mCons (mNeg (mLit (.int 5))) (mCons (mLit (.int 3)) (mCons (mNeg (mLit (.int 1000000000))) (mCons (mNeg (mLit (.int 9))) mNil)))))) (mOp opMod (mOp opFdiv (mVar 0) (mLit (.int 5))) (mLit (.int 5)))) (gVar 1))
  (sSeq (sRet (mTup (mCons (mLit (.str [105, 110, 116])) (mCons (mVar 1) (mCons (mApp bMin2 (mCons (mLit (.int 1000000000)) (mCons (mOp (opAdd false) (mVar 1) (mOp opIx (mLst false (mCons (mLit (.int 0)) (mCons (mLit (.int 9)) (mCons (mLit (.int 100)) (mCons (mLit (.int 2000000000)) mNil))))) (mOp opMod (mOp opFdiv (mVar 0) (mLit (.int 25))) (mLit (.int 4))))) mNil))) mNil)))))
  sPass)) sPass)
  (sSeq (sIf (tVal (mOp (opCmp .eq) (mOp opMod (mVar 0) (mLit (.int 5))) (mLit (.int 2)))) (sSeq (sRet (mTup (mCons (mLit (.str [102, 108, 97, 103])) mNil)))
  sPass) sPass)
  (sSeq (sIf (tVal (mOp (opCmp .eq) (mOp opMod (mVar 0) (mLit (.int 5))) (mLit (.int 3)))) (sSeq (sRet (mTup (mCons (mLit (.str [119, 111, 114, 100])) (mCons (mSlc false (mTup (mCons (mLit (.str [110, 101, 119])) (mCons (mLit (.str [111, 108, 100])) (mCons (mLit (.str [108, 111, 115, 116])) (mCons (mLit (.str [97])) (mCons (mLit (.str [105, 102])) mNil)))))) none (some (mOp (opAdd false) (mLit (.int 1)) (mOp opMod (mOp opFdiv (mVar 0) (mLit (.int 5))) (mLit (.int 5)))))) mNil))))
  sPass) sPass)
  (sSeq (sRet (mTup (mCons (mLit (.str [116, 101, 120, 116])) (mCons (mOp opIx (mLst false (mCons (mLit (.int 0)) (mCons (mLit (.int 1)) (mCons (mLit (.int 5)) (mCons (mLit (.int 40)) mNil))))) (mOp opMod (mOp opFdiv (mVar 0) (mLit (.int 5))) (mLit (.int 4)))) mNil))))
  sPass))))
noncomputable def r9 : Row := ⟨"_law_kind", top 12, ["_law_draw", "_law_low"], ["_law_draw"], ⟨1, 2, false, b9⟩⟩
/- 10 _law_schema: 0 _law_draws_here, 1 _law_fields, 2 _law_k -/
noncomputable def b10 (n : Nat) (C : Calls) : B := (sSeq (sAsg (mLst true mNil) (gVar 1))
  (sSeq (sFor (gVar 2) (iRng1 (mOp opIx (mLst false (mCons (mLit (.int 1)) (mCons (mLit (.int 2)) (mCons (mLit (.int 3)) (mCons (mLit (.int 4)) (mCons (mLit (.int 2)) (mCons (mLit (.int 3)) (mCons (mLit (.int 5)) (mCons (mLit (.int 8)) mNil))))))))) (mOp opMod (mCallN C 1 8 (mCons (mVar 0) mNil)) (mLit (.int 8))))) (sSeq (sEx (mBM "list" eAppend (mVar 1) (mCons (mTup (mCons (mOp opIx (mLst false (mCons (mLit (.str [110])) (mCons (mLit (.str [111, 110])) (mCons (mLit (.str [115, 116, 97, 116, 101])) (mCons (mLit (.str [110, 111, 116, 101])) (mCons (mLit (.str [112])) (mCons (mLit (.str [113])) (mCons (mLit (.str [117])) (mCons (mLit (.str [119])) mNil))))))))) (mVar 2)) (mCons (mCallN C 1 9 (mCons (mCallN C 1 8 (mCons (mVar 0) mNil)) mNil)) mNil))) mNil)))
  sPass))
  (sSeq (sRet (mApp bTuple (mCons (mVar 1) mNil)))
  sPass)))
noncomputable def r10 : Row := ⟨"_law_schema", top 13, ["_law_draws_here", "_law_fields", "_law_k"], ["_law_draws_here"], ⟨1, 3, false, b10⟩⟩
/- 11 _law_value: 0 _law_kind_here, 1 _law_draw -/
noncomputable def b11 (n : Nat) (C : Calls) : B := (sSeq (sIf (tVal (mOp (opCmp .eq) (mOp opIx (mVar 0) (mLit (.int 0))) (mLit (.str [105, 110, 116])))) (sSeq (sIf (tVal (mOp (opCmp .eq) (mOp opMod (mVar 1) (mLit (.int 4))) (mLit (.int 0)))) (sSeq (sRet (mOp opIx (mVar 0) (mLit (.int 1))))
  sPass) sPass)
  (sSeq (sIf (tVal (mOp (opCmp .eq) (mOp opMod (mVar 1) (mLit (.int 4))) (mLit (.int 1)))) (sSeq (sRet (mOp opIx (mVar 0) (mLit (.int 2))))
  sPass) sPass)
  (sSeq (sRet (mOp (opAdd false) (mOp opIx (mVar 0) (mLit (.int 1))) (mOp opMod (mOp opFdiv (mVar 1) (mLit (.int 4))) (mOp (opAdd false) (mOp opSub (mOp opIx (mVar 0) (mLit (.int 2))) (mOp opIx (mVar 0) (mLit (.int 1)))) (mLit (.int 1))))))
  sPass))) sPass)
  (sSeq (sIf (tVal (mOp (opCmp .eq) (mOp opIx (mVar 0) (mLit (.int 0))) (mLit (.str [102, 108, 97, 103])))) (sSeq (sRet (mOp (opCmp .eq) (mOp opMod (mVar 1) (mLit (.int 2))) (mLit (.int 1))))
  sPass) sPass)
  (sSeq (sIf (tVal (mOp (opCmp .eq) (mOp opIx (mVar 0) (mLit (.int 0))) (mLit (.str [119, 111, 114, 100])))) (sSeq (sRet (mOp opIx (mOp opIx (mVar 0) (mLit (.int 1))) (mOp opMod (mVar 1) (mApp bLen (mCons (mOp opIx (mVar 0) (mLit (.int 1))) mNil)))))
  sPass) sPass)
  (sSeq (sRet (mSlc false (mOp opIx (mLst false (mCons (mLit (.str [])) (mCons (mLit (.str [97])) (mCons (mLit (.str [120, 32, 121])) (mCons (mLit (.str [108, 111, 115, 116])) (mCons (mLit (.str [48, 49, 50, 51, 52, 53, 54, 55, 56, 57, 48, 49, 50, 51, 52, 53, 54, 55, 56, 57, 48, 49, 50, 51, 52, 53, 54, 55, 56, 57, 48, 49, 50, 51, 52, 53, 54, 55, 56, 57])) mNil)))))) (mOp opMod (mVar 1) (mLit (.int 5)))) none (some (mOp opIx (mVar 0) (mLit (.int 1))))))
  sPass))))
noncomputable def r11 : Row := ⟨"_law_value", top 14, ["_law_kind_here", "_law_draw"], ["_law_kind_here", "_law_draw"], ⟨2, 2, false, b11⟩⟩
/- 12 _law_record: 0 _law_schema_here, 1 _law_draws_here, 2 _law_field -/
noncomputable def b12 (n : Nat) (C : Calls) : B := (sSeq (sRet (mApp bTuple (mCons (mLc false [2] [2] (iVal (mVar 0)) tYesM (mCallN C 2 11 (mCons (mOp opIx (mVar 2) (mLit (.int 1))) (mCons (mCallN C 1 8 (mCons (mVar 1) mNil)) mNil)))) mNil)))
  sPass)
noncomputable def r12 : Row := ⟨"_law_record", top 15, ["_law_schema_here", "_law_draws_here", "_law_field"], ["_law_schema_here", "_law_draws_here"], ⟨2, 3, false, b12⟩⟩
/- 13 _law_leaf: 0 _law_schema_here, 1 _law_head, 2 _law_draw, 3 _law_names, 4 _law_field -/
noncomputable def b13 (n : Nat) (C : Calls) : B := (sSeq (sAsg (mLc false [4] [4] (iVal (mVar 0)) (tVal (mOp (opCmp .eq) (mOp opIx (mOp opIx (mVar 4) (mLit (.int 1))) (mLit (.int 0))) (mVar 1))) (mOp opIx (mVar 4) (mLit (.int 0)))) (gVar 3))
  (sSeq (sIf (tAnd (tVal (mOp (opCmp .gt) (mApp bLen (mCons (mVar 3) mNil)) (mLit (.int 0)))) (tVal (mOp (opCmp .gt) (mOp opMod (mVar 2) (mLit (.int 3))) (mLit (.int 0))))) (sSeq (sRet (mTup (mCons (mLit (.str [102, 105, 101, 108, 100])) (mCons (mOp opIx (mVar 3) (mOp opMod (mOp opFdiv (mVar 2) (mLit (.int 3))) (mApp bLen (mCons (mVar 3) mNil)))) mNil))))
  sPass) sPass)
  (sSeq (sIf (tVal (mOp (opCmp .eq) (mVar 1) (mLit (.str [105, 110, 116])))) (sSeq (sRet (mTup (mCons (mLit (.str [105, 110, 116])) (mCons (mOp opIx (mLst false (mCons (mLit (.int 0)) (mCons (mLit (.int 1)) (mCons (mNeg (mLit (.int 1))) (mCons (mLit (.int 7)) (mCons (mNeg (mLit (.int 12))) (mCons (mLit (.int 1000000000)) (mCons (mLit (.int 50)) mNil)))))))) (mOp opMod (mOp opFdiv (mVar 2) (mLit (.int 3))) (mLit (.int 7)))) mNil))))
  sPass) sPass)
  (sSeq (sIf (tVal (mOp (opCmp .eq) (mVar 1) (mLit (.str [102, 108, 97, 103])))) (sSeq (sRet (mTup (mCons (mLit (.str [102, 108, 97, 103])) (mCons (mOp (opCmp .eq) (mOp opMod (mOp opFdiv (mVar 2) (mLit (.int 3))) (mLit (.int 2))) (mLit (.int 1))) mNil))))
  sPass) sPass)
  (sSeq (sIf (tVal (mOp (opCmp .eq) (mVar 1) (mLit (.str [119, 111, 114, 100])))) (sSeq (sRet (mTup (mCons (mLit (.str [119, 111, 114, 100])) (mCons (mOp opIx (mLst false (mCons (mLit (.str [110, 101, 119])) (mCons (mLit (.str [111, 108, 100])) (mCons (mLit (.str [108, 111, 115, 116])) (mCons (mLit (.str [122, 122])) mNil))))) (mOp opMod (mOp opFdiv (mVar 2) (mLit (.int 3))) (mLit (.int 4)))) mNil))))
  sPass) sPass)
  (sSeq (sRet (mTup (mCons (mLit (.str [116, 101, 120, 116])) (mCons (mOp opIx (mLst false (mCons (mLit (.str [])) (mCons (mLit (.str [97, 98])) (mCons (mLit (.str [120, 32, 121, 59, 123])) (mCons (mLit (.str [113, 39, 49])) mNil))))) (mOp opMod (mOp opFdiv (mVar 2) (mLit (.int 3))) (mLit (.int 4)))) mNil))))
  sPass))))))
noncomputable def r13 : Row := ⟨"_law_leaf", top 16, ["_law_schema_here", "_law_head", "_law_draw", "_law_names", "_law_field"], ["_law_schema_here", "_law_head", "_law_draw"], ⟨3, 5, false, b13⟩⟩
/- 14 _law_expression: 0 _law_schema_here, 1 _law_head, 2 _law_draws_here, 3 _law_depth, 4 _law_draw, 5 _law_parts, 6 _law_kind_here, 7 _law_sign, 8 _law_first -/
noncomputable def b14 (n : Nat) (C : Calls) : B := (sSeq (sAsg (mCallN C 1 8 (mCons (mVar 2) mNil)) (gVar 4))
  (sSeq (sIf (tOr (tVal (mOp (opCmp .eq) (mVar 3) (mLit (.int 0)))) (tOr (tVal (mOp (opCmp .eq) (mOp opMod (mVar 4) (mLit (.int 4))) (mLit (.int 0)))) (tVal (mOp (opCmp .eq) (mApp bLen (mCons (mVar 2) mNil)) (mLit (.int 0)))))) (sSeq (sRet (mCallN C 3 13 (mCons (mVar 0) (mCons (mVar 1) (mCons (mOp opFdiv (mVar 4) (mLit (.int 4))) mNil)))))
  sPass) sPass)
  (sSeq (sIf (tVal (mOp (opCmp .eq) (mOp opMod (mVar 4) (mLit (.int 16))) (mLit (.int 1)))) (sSeq (sAsg (mLc false [6] [6] (iVal (mLst false (mCons (mLit (.str [102, 108, 97, 103])) (mCons (mVar 1) (mCons (mVar 1) mNil))))) tYesM (mCallN C 4 14 (mCons (mVar 0) (mCons (mVar 6) (mCons (mVar 2) (mCons (mOp opSub (mVar 3) (mLit (.int 1))) mNil)))))) (gVar 5))
  (sSeq (sRet (mTup (mCons (mLit (.str [112, 105, 99, 107])) (mCons (mOp opIx (mVar 5) (mLit (.int 0))) (mCons (mOp opIx (mVar 5) (mLit (.int 1))) (mCons (mOp opIx (mVar 5) (mLit (.int 2))) mNil))))))
  sPass)) sPass)
  (sSeq (sIf (tVal (mOp (opCmp .eq) (mVar 1) (mLit (.str [105, 110, 116])))) (sSeq (sIf (tVal (mOp (opCmp .gt) (mOp opMod (mOp opFdiv (mVar 4) (mLit (.int 4))) (mLit (.int 8))) (mLit (.int 5)))) (sSeq (sAsg (mOp opIx (mLst false (mCons (mLit (.str [100, 105, 118])) (mCons (mLit (.str [109, 111, 100])) mNil))) (mOp opMod (mOp opFdiv (mVar 4) (mLit (.int 4))) (mLit (.int 2)))) (gVar 7))
  (sSeq (sRet (mTup (mCons (mVar 7) (mCons (mCallN C 4 14 (mCons (mVar 0) (mCons (mLit (.str [105, 110, 116])) (mCons (mVar 2) (mCons (mOp opSub (mVar 3) (mLit (.int 1))) mNil))))) (mCons (mOp (opAdd false) (mLit (.int 1)) (mOp opMod (mOp opFdiv (mVar 4) (mLit (.int 32))) (mLit (.int 9)))) mNil)))))
  sPass)) sPass)
  (sSeq (sAsg (mOp opIx (mLst false (mCons (mLit (.str [97, 100, 100])) (mCons (mLit (.str [115, 117, 98])) (mCons (mLit (.str [109, 117, 108])) (mCons (mLit (.str [109, 105, 110])) (mCons (mLit (.str [109, 97, 120])) (mCons (mLit (.str [97, 100, 100])) mNil))))))) (mOp opMod (mOp opFdiv (mVar 4) (mLit (.int 4))) (mLit (.int 6)))) (gVar 7))
  (sSeq (sAsg (mCallN C 4 14 (mCons (mVar 0) (mCons (mLit (.str [105, 110, 116])) (mCons (mVar 2) (mCons (mOp opSub (mVar 3) (mLit (.int 1))) mNil))))) (gVar 8))
  (sSeq (sRet (mTup (mCons (mVar 7) (mCons (mVar 8) (mCons (mCallN C 4 14 (mCons (mVar 0) (mCons (mLit (.str [105, 110, 116])) (mCons (mVar 2) (mCons (mOp opSub (mVar 3) (mLit (.int 1))) mNil))))) mNil)))))
  sPass)))) sPass)
  (sSeq (sIf (tVal (mOp (opCmp .eq) (mVar 1) (mLit (.str [102, 108, 97, 103])))) (sSeq (sIf (tVal (mOp (opCmp .eq) (mOp opMod (mOp opFdiv (mVar 4) (mLit (.int 4))) (mLit (.int 5))) (mLit (.int 0)))) (sSeq (sRet (mTup (mCons (mLit (.str [110, 111, 116])) (mCons (mCallN C 4 14 (mCons (mVar 0) (mCons (mLit (.str [102, 108, 97, 103])) (mCons (mVar 2) (mCons (mOp opSub (mVar 3) (mLit (.int 1))) mNil))))) mNil))))
  sPass) sPass)
  (sSeq (sAsg (mOp opIx (mLst false (mCons (mLit (.str [108, 101, 115, 115])) (mCons (mLit (.str [115, 97, 109, 101])) (mCons (mLit (.str [97, 110, 100])) (mCons (mLit (.str [111, 114])) mNil))))) (mOp opMod (mOp opFdiv (mVar 4) (mLit (.int 4))) (mLit (.int 4)))) (gVar 7))
  (sSeq (sAsg (mLit (.str [102, 108, 97, 103])) (gVar 6))
  (sSeq (sIf (tVal (mOp (opCmp .eq) (mVar 7) (mLit (.str [108, 101, 115, 115])))) (sSeq (sAsg (mLit (.str [105, 110, 116])) (gVar 6))
  sPass) sPass)
  (sSeq (sIf (tVal (mOp (opCmp .eq) (mVar 7) (mLit (.str [115, 97, 109, 101])))) (sSeq (sAsg (mOp opIx (mLst false (mCons (mLit (.str [105, 110, 116])) (mCons (mLit (.str [102, 108, 97, 103])) (mCons (mLit (.str [119, 111, 114, 100])) (mCons (mLit (.str [116, 101, 120, 116])) mNil))))) (mOp opMod (mOp opFdiv (mVar 4) (mLit (.int 64))) (mLit (.int 4)))) (gVar 6))
  sPass) sPass)
  (sSeq (sAsg (mCallN C 4 14 (mCons (mVar 0) (mCons (mVar 6) (mCons (mVar 2) (mCons (mOp opSub (mVar 3) (mLit (.int 1))) mNil))))) (gVar 8))
  (sSeq (sRet (mTup (mCons (mVar 7) (mCons (mVar 8) (mCons (mCallN C 4 14 (mCons (mVar 0) (mCons (mVar 6) (mCons (mVar 2) (mCons (mOp opSub (mVar 3) (mLit (.int 1))) mNil))))) mNil)))))
  sPass))))))) sPass)
  (sSeq (sIf (tVal (mOp (opCmp .eq) (mVar 1) (mLit (.str [116, 101, 120, 116])))) (sSeq (sIf (tVal (mOp (opCmp .eq) (mOp opMod (mOp opFdiv (mVar 4) (mLit (.int 4))) (mLit (.int 2))) (mLit (.int 0)))) (sSeq (sRet (mTup (mCons (mLit (.str [99, 117, 116])) (mCons (mCallN C 4 14 (mCons (mVar 0) (mCons (mLit (.str [116, 101, 120, 116])) (mCons (mVar 2) (mCons (mOp opSub (mVar 3) (mLit (.int 1))) mNil))))) (mCons (mOp opMod (mOp opFdiv (mVar 4) (mLit (.int 8))) (mLit (.int 41))) mNil)))))
  sPass) sPass)
  (sSeq (sAsg (mCallN C 4 14 (mCons (mVar 0) (mCons (mLit (.str [116, 101, 120, 116])) (mCons (mVar 2) (mCons (mOp opSub (mVar 3) (mLit (.int 1))) mNil))))) (gVar 8))
  (sSeq (sRet (mTup (mCons (mLit (.str [106, 111, 105, 110])) (mCons (mVar 8) (mCons (mCallN C 4 14 (mCons (mVar 0) (mCons (mLit (.str [116, 101, 120, 116])) (mCons (mVar 2) (mCons (mOp opSub (mVar 3) (mLit (.int 1))) mNil))))) mNil)))))
  sPass))) sPass)
  (sSeq (sRet (mCallN C 3 13 (mCons (mVar 0) (mCons (mVar 1) (mCons (mOp opFdiv (mVar 4) (mLit (.int 4))) mNil)))))
  sPass)))))))
noncomputable def r14 : Row := ⟨"_law_expression", top 17, ["_law_schema_here", "_law_head", "_law_draws_here", "_law_depth", "_law_draw", "_law_parts", "_law_kind_here", "_law_sign", "_law_first"], ["_law_schema_here", "_law_head", "_law_draws_here", "_law_depth"], ⟨4, 9, false, b14⟩⟩
/- 15 _law_set: 0 _law_schema_here, 1 _law_draws_here, 2 _law_depth, 3 _law_field, 4 _law_kind_here, 5 _law_value_here -/
noncomputable def b15 (n : Nat) (C : Calls) : B := (sSeq (sAsg (mOp opIx (mVar 0) (mOp opMod (mCallN C 1 8 (mCons (mVar 1) mNil)) (mApp bLen (mCons (mVar 0) mNil)))) (gVar 3))
  (sSeq (sAsg (mOp opIx (mVar 3) (mLit (.int 1))) (gVar 4))
  (sSeq (sAsg (mCallN C 4 14 (mCons (mVar 0) (mCons (mOp opIx (mVar 4) (mLit (.int 0))) (mCons (mVar 1) (mCons (mVar 2) mNil))))) (gVar 5))
  (sSeq (sIf (tVal (mOp (opCmp .eq) (mOp opIx (mVar 4) (mLit (.int 0))) (mLit (.str [105, 110, 116])))) (sSeq (sAsg (mTup (mCons (mLit (.str [109, 105, 110])) (mCons (mTup (mCons (mLit (.str [109, 97, 120])) (mCons (mVar 5) (mCons (mTup (mCons (mLit (.str [105, 110, 116])) (mCons (mOp opIx (mVar 4) (mLit (.int 1))) mNil))) mNil)))) (mCons (mTup (mCons (mLit (.str [105, 110, 116])) (mCons (mOp opIx (mVar 4) (mLit (.int 2))) mNil))) mNil)))) (gVar 5))
  sPass) sPass)
  (sSeq (sIf (tVal (mOp (opCmp .eq) (mOp opIx (mVar 4) (mLit (.int 0))) (mLit (.str [116, 101, 120, 116])))) (sSeq (sAsg (mTup (mCons (mLit (.str [99, 117, 116])) (mCons (mVar 5) (mCons (mOp opIx (mVar 4) (mLit (.int 1))) mNil)))) (gVar 5))
  sPass) sPass)
  (sSeq (sIf (tVal (mOp (opCmp .eq) (mOp opIx (mVar 4) (mLit (.int 0))) (mLit (.str [119, 111, 114, 100])))) (sSeq (sAsg (mTup (mCons (mLit (.str [119, 111, 114, 100])) (mCons (mOp opIx (mOp opIx (mVar 4) (mLit (.int 1))) (mOp opMod (mCallN C 1 8 (mCons (mVar 1) mNil)) (mApp bLen (mCons (mOp opIx (mVar 4) (mLit (.int 1))) mNil)))) mNil))) (gVar 5))
  (sSeq (sIf (tVal (mOp (opCmp .eq) (mOp opMod (mCallN C 1 8 (mCons (mVar 1) mNil)) (mLit (.int 2))) (mLit (.int 1)))) (sSeq (sAsg (mTup (mCons (mLit (.str [112, 105, 99, 107])) (mCons (mCallN C 4 14 (mCons (mVar 0) (mCons (mLit (.str [102, 108, 97, 103])) (mCons (mVar 1) (mCons (mOp opSub (mVar 2) (mLit (.int 1))) mNil))))) (mCons (mVar 5) (mCons (mTup (mCons (mLit (.str [102, 105, 101, 108, 100])) (mCons (mOp opIx (mVar 3) (mLit (.int 0))) mNil))) mNil))))) (gVar 5))
  sPass) sPass)
  sPass)) sPass)
  (sSeq (sRet (mTup (mCons (mLit (.str [115, 101, 116])) (mCons (mOp opIx (mVar 3) (mLit (.int 0))) (mCons (mVar 5) mNil)))))
  sPass)))))))
noncomputable def r15 : Row := ⟨"_law_set", top 18, ["_law_schema_here", "_law_draws_here", "_law_depth", "_law_field", "_law_kind_here", "_law_value_here"], ["_law_schema_here", "_law_draws_here", "_law_depth"], ⟨3, 6, false, b15⟩⟩
/- 16 _law_made: 0 _law_schema_here, 1 _law_draws_here, 2 _law_depth, 3 _law_statements, 4 _law_k, 5 _law_draw, 6 _law_condition, 7 _law_first -/
noncomputable def b16 (n : Nat) (C : Calls) : B := (sSeq (sAsg (mLst true mNil) (gVar 3))
  (sSeq (sFor (gVar 4) (iRng1 (mOp (opAdd false) (mLit (.int 1)) (mOp opMod (mCallN C 1 8 (mCons (mVar 1) mNil)) (mLit (.int 3))))) (sSeq (sAsg (mCallN C 1 8 (mCons (mVar 1) mNil)) (gVar 5))
  (sSeq (sIf (tAnd (tVal (mOp (opCmp .eq) (mOp opMod (mVar 5) (mLit (.int 4))) (mLit (.int 3)))) (tVal (mOp (opCmp .gt) (mVar 2) (mLit (.int 0))))) (sSeq (sAsg (mCallN C 4 14 (mCons (mVar 0) (mCons (mLit (.str [102, 108, 97, 103])) (mCons (mVar 1) (mCons (mLit (.int 2)) mNil))))) (gVar 6))
  (sSeq (sAsg (mCallN C 3 16 (mCons (mVar 0) (mCons (mVar 1) (mCons (mOp opSub (mVar 2) (mLit (.int 1))) mNil)))) (gVar 7))
  (sSeq (sEx (mBM "list" eAppend (mVar 3) (mCons (mTup (mCons (mLit (.str [105, 102])) (mCons (mVar 6) (mCons (mVar 7) (mCons (mCallN C 3 16 (mCons (mVar 0) (mCons (mVar 1) (mCons (mOp opSub (mVar 2) (mLit (.int 1))) mNil)))) mNil))))) mNil)))
  sPass))) (sSeq (sIf (tVal (mOp (opCmp .eq) (mOp opMod (mVar 5) (mLit (.int 12))) (mLit (.int 4)))) (sSeq (sEx (mBM "list" eAppend (mVar 3) (mCons (mTup (mCons (mLit (.str [115, 107, 105, 112])) mNil)) mNil)))
  sPass) (sSeq (sEx (mBM "list" eAppend (mVar 3) (mCons (mCallN C 3 15 (mCons (mVar 0) (mCons (mVar 1) (mCons (mLit (.int 2)) mNil)))) mNil)))
  sPass))
  sPass))
  sPass)))
  (sSeq (sRet (mApp bTuple (mCons (mVar 3) mNil)))
  sPass)))
noncomputable def r16 : Row := ⟨"_law_made", top 19, ["_law_schema_here", "_law_draws_here", "_law_depth", "_law_statements", "_law_k", "_law_draw", "_law_condition", "_law_first"], ["_law_schema_here", "_law_draws_here", "_law_depth"], ⟨3, 8, false, b16⟩⟩
/- 17 _law_nodes: 0 _law_e, 1 _law_total, 2 _law_part -/
noncomputable def b17 (n : Nat) (C : Calls) : B := (sSeq (sAsg (mLit (.int 1)) (gVar 1))
  (sSeq (sFor (gVar 2) (iVal (mSlc false (mVar 0) (some (mLit (.int 1))) none)) (sSeq (sIf (tAnd (tVal (mIsi .tuple (mVar 2))) (tVal (mOp (opCmp .notin) (mOp opIx (mVar 0) (mLit (.int 0))) (mTup (mCons (mLit (.str [105, 110, 116])) (mCons (mLit (.str [102, 108, 97, 103])) (mCons (mLit (.str [119, 111, 114, 100])) (mCons (mLit (.str [116, 101, 120, 116])) (mCons (mLit (.str [102, 105, 101, 108, 100])) mNil))))))))) (sSeq (sAug 1 opIAdd (mCallN C 1 17 (mCons (mVar 2) mNil)))
  sPass) sPass)
  sPass))
  (sSeq (sRet (mVar 1))
  sPass)))
noncomputable def r17 : Row := ⟨"_law_nodes", top 20, ["_law_e", "_law_total", "_law_part"], ["_law_e"], ⟨1, 3, false, b17⟩⟩
/- 18 _law_size: 0 _law_program_here, 1 _law_total, 2 _law_row -/
noncomputable def b18 (n : Nat) (C : Calls) : B := (sSeq (sAsg (mLit (.int 0)) (gVar 1))
  (sSeq (sFor (gVar 2) (iVal (mVar 0)) (sSeq (sAug 1 opIAdd (mLit (.int 1)))
  (sSeq (sIf (tVal (mOp (opCmp .eq) (mOp opIx (mVar 2) (mLit (.int 0))) (mLit (.str [115, 101, 116])))) (sSeq (sAug 1 opIAdd (mCallN C 1 17 (mCons (mOp opIx (mVar 2) (mLit (.int 2))) mNil)))
  sPass) (sSeq (sIf (tVal (mOp (opCmp .eq) (mOp opIx (mVar 2) (mLit (.int 0))) (mLit (.str [105, 102])))) (sSeq (sAug 1 opIAdd (mOp (opAdd false) (mOp (opAdd false) (mCallN C 1 17 (mCons (mOp opIx (mVar 2) (mLit (.int 1))) mNil)) (mCallN C 1 18 (mCons (mOp opIx (mVar 2) (mLit (.int 2))) mNil))) (mCallN C 1 18 (mCons (mOp opIx (mVar 2) (mLit (.int 3))) mNil))))
  sPass) sPass)
  sPass))
  sPass)))
  (sSeq (sRet (mVar 1))
  sPass)))
noncomputable def r18 : Row := ⟨"_law_size", top 21, ["_law_program_here", "_law_total", "_law_row"], ["_law_program_here"], ⟨1, 3, false, b18⟩⟩
/- 19 _law_program: 0 _law_schema_here, 1 _law_draws_here, 2 _law_depth, 3 _law_program_here, 4 _law_k -/
noncomputable def b19 (n : Nat) (C : Calls) : B := (sSeq (sAsg (mCallN C 3 16 (mCons (mVar 0) (mCons (mVar 1) (mCons (mVar 2) mNil)))) (gVar 3))
  (sSeq (sFor (gVar 4) (iRng1 (mLit (.int 3))) (sSeq (sIf (tAnd (tVal (mOp (opCmp .gt) (mCallN C 1 18 (mCons (mVar 3) mNil)) (mLit (.int 180)))) (tVal (mOp (opCmp .gt) (mApp bLen (mCons (mVar 3) mNil)) (mLit (.int 1))))) (sSeq (sAsg (mSlc false (mVar 3) none (some (mNeg (mLit (.int 1))))) (gVar 3))
  sPass) sPass)
  sPass))
  (sSeq (sIf (tVal (mOp (opCmp .gt) (mCallN C 1 18 (mCons (mVar 3) mNil)) (mLit (.int 180)))) (sSeq (sRet (mTup (mCons (mTup (mCons (mLit (.str [115, 107, 105, 112])) mNil)) mNil)))
  sPass) sPass)
  (sSeq (sRet (mVar 3))
  sPass))))
noncomputable def r19 : Row := ⟨"_law_program", top 22, ["_law_schema_here", "_law_draws_here", "_law_depth", "_law_program_here", "_law_k"], ["_law_schema_here", "_law_draws_here", "_law_depth"], ⟨3, 5, false, b19⟩⟩
/- 20 _law_at: 0 _law_schema_here, 1 _law_name, 2 _law_k -/
noncomputable def b20 (n : Nat) (C : Calls) : B := (sSeq (sRet (mOp opIx (mLc false [2] [2] (iRng1 (mApp bLen (mCons (mVar 0) mNil))) (tVal (mOp (opCmp .eq) (mOp opIx (mOp opIx (mVar 0) (mVar 2)) (mLit (.int 0))) (mVar 1))) (mVar 2)) (mLit (.int 0))))
  sPass)
noncomputable def r20 : Row := ⟨"_law_at", top 23, ["_law_schema_here", "_law_name", "_law_k"], ["_law_schema_here", "_law_name"], ⟨2, 3, false, b20⟩⟩
/- 21 _law_eval: 0 _law_schema_here, 1 _law_e, 2 _law_record_here, 3 _law_head, 4 _law_a, 5 _law_b, 6 _law_c -/
noncomputable def b21 (n : Nat) (C : Calls) : B := (sSeq (sAsg (mOp opIx (mVar 1) (mLit (.int 0))) (gVar 3))
  (sSeq (sIf (tVal (mOp (opCmp .inn) (mVar 3) (mTup (mCons (mLit (.str [105, 110, 116])) (mCons (mLit (.str [102, 108, 97, 103])) (mCons (mLit (.str [119, 111, 114, 100])) (mCons (mLit (.str [116, 101, 120, 116])) mNil))))))) (sSeq (sRet (mOp opIx (mVar 1) (mLit (.int 1))))
  sPass) sPass)
  (sSeq (sIf (tVal (mOp (opCmp .eq) (mVar 3) (mLit (.str [102, 105, 101, 108, 100])))) (sSeq (sRet (mOp opIx (mVar 2) (mCallN C 2 20 (mCons (mVar 0) (mCons (mOp opIx (mVar 1) (mLit (.int 1))) mNil)))))
  sPass) sPass)
  (sSeq (sAsg (mCallN C 3 21 (mCons (mVar 0) (mCons (mOp opIx (mVar 1) (mLit (.int 1))) (mCons (mVar 2) mNil)))) (gVar 4))
  (sSeq (sIf (tVal (mOp (opCmp .eq) (mVar 3) (mLit (.str [110, 111, 116])))) (sSeq (sRet (mNotT (mVar 4)))
  sPass) sPass)
  (sSeq (sIf (tVal (mOp (opCmp .eq) (mVar 3) (mLit (.str [100, 105, 118])))) (sSeq (sRet (mOp opFdiv (mApp bInt (mCons (mVar 4) mNil)) (mOp opIx (mVar 1) (mLit (.int 2)))))
  sPass) sPass)
  (sSeq (sIf (tVal (mOp (opCmp .eq) (mVar 3) (mLit (.str [109, 111, 100])))) (sSeq (sRet (mOp opMod (mApp bInt (mCons (mVar 4) mNil)) (mOp opIx (mVar 1) (mLit (.int 2)))))
  sPass) sPass)
  (sSeq (sIf (tVal (mOp (opCmp .eq) (mVar 3) (mLit (.str [99, 117, 116])))) (sSeq (sRet (mSlc false (mVar 4) none (some (mOp opIx (mVar 1) (mLit (.int 2))))))
  sPass) sPass)
  (sSeq (sAsg (mCallN C 3 21 (mCons (mVar 0) (mCons (mOp opIx (mVar 1) (mLit (.int 2))) (mCons (mVar 2) mNil)))) (gVar 5))
  (sSeq (sIf (tVal (mOp (opCmp .eq) (mVar 3) (mLit (.str [112, 105, 99, 107])))) (sSeq (sAsg (mCallN C 3 21 (mCons (mVar 0) (mCons (mOp opIx (mVar 1) (mLit (.int 3))) (mCons (mVar 2) mNil)))) (gVar 6))
  (sSeq (sIf (tVal (mVar 4)) (sSeq (sRet (mVar 5))
  sPass) sPass)
  (sSeq (sRet (mVar 6))
  sPass))) sPass)
  (sSeq (sIf (tVal (mOp (opCmp .eq) (mVar 3) (mLit (.str [115, 117, 98])))) (sSeq (sRet (mOp opSub (mVar 4) (mVar 5)))
  sPass) sPass)
  (sSeq (sIf (tVal (mOp (opCmp .eq) (mVar 3) (mLit (.str [109, 117, 108])))) (sSeq (sRet (mOp (opMul false) (mVar 4) (mVar 5)))
  sPass) sPass)
  (sSeq (sIf (tVal (mOp (opCmp .eq) (mVar 3) (mLit (.str [109, 105, 110])))) (sSeq (sRet (mApp bMin2 (mCons (mVar 4) (mCons (mVar 5) mNil))))
  sPass) sPass)
  (sSeq (sIf (tVal (mOp (opCmp .eq) (mVar 3) (mLit (.str [109, 97, 120])))) (sSeq (sRet (mApp bMax2 (mCons (mVar 4) (mCons (mVar 5) mNil))))
  sPass) sPass)
  (sSeq (sIf (tVal (mOp (opCmp .eq) (mVar 3) (mLit (.str [108, 101, 115, 115])))) (sSeq (sRet (mOp (opCmp .lt) (mVar 4) (mVar 5)))
  sPass) sPass)
  (sSeq (sIf (tVal (mOp (opCmp .eq) (mVar 3) (mLit (.str [115, 97, 109, 101])))) (sSeq (sRet (mOp (opCmp .eq) (mVar 4) (mVar 5)))
  sPass) sPass)
  (sSeq (sIf (tVal (mOp (opCmp .eq) (mVar 3) (mLit (.str [97, 110, 100])))) (sSeq (sRet (mAnd (mVar 4) (mVar 5)))
  sPass) sPass)
  (sSeq (sIf (tVal (mOp (opCmp .eq) (mVar 3) (mLit (.str [111, 114])))) (sSeq (sRet (mOr (mVar 4) (mVar 5)))
  sPass) sPass)
  (sSeq (sRet (mOp (opAdd false) (mVar 4) (mVar 5)))
  sPass)))))))))))))))))))
noncomputable def r21 : Row := ⟨"_law_eval", top 24, ["_law_schema_here", "_law_e", "_law_record_here", "_law_head", "_law_a", "_law_b", "_law_c"], ["_law_schema_here", "_law_e", "_law_record_here"], ⟨3, 7, false, b21⟩⟩
/- 22 _law_run: 0 _law_schema_here, 1 _law_program_here, 2 _law_record_here, 3 _law_values, 4 _law_statement, 5 _law_block -/
noncomputable def b22 (n : Nat) (C : Calls) : B := (sSeq (sAsg (mApp (bList true) (mCons (mVar 2) mNil)) (gVar 3))
  (sSeq (sFor (gVar 4) (iVal (mVar 1)) (sSeq (sIf (tVal (mOp (opCmp .eq) (mOp opIx (mVar 4) (mLit (.int 0))) (mLit (.str [115, 101, 116])))) (sSeq (sAsg (mCallN C 3 21 (mCons (mVar 0) (mCons (mOp opIx (mVar 4) (mLit (.int 2))) (mCons (mVar 3) mNil)))) (gSub (mVar 3) (mCallN C 2 20 (mCons (mVar 0) (mCons (mOp opIx (mVar 4) (mLit (.int 1))) mNil)))))
  sPass) (sSeq (sIf (tVal (mOp (opCmp .eq) (mOp opIx (mVar 4) (mLit (.int 0))) (mLit (.str [105, 102])))) (sSeq (sAsg (mOp opIx (mVar 4) (mLit (.int 3))) (gVar 5))
  (sSeq (sIf (tVal (mCallN C 3 21 (mCons (mVar 0) (mCons (mOp opIx (mVar 4) (mLit (.int 1))) (mCons (mVar 3) mNil))))) (sSeq (sAsg (mOp opIx (mVar 4) (mLit (.int 2))) (gVar 5))
  sPass) sPass)
  (sSeq (sAsg (mApp (bList true) (mCons (mCallN C 3 22 (mCons (mVar 0) (mCons (mVar 5) (mCons (mVar 3) mNil)))) mNil)) (gVar 3))
  sPass))) sPass)
  sPass))
  sPass))
  (sSeq (sRet (mApp bTuple (mCons (mVar 3) mNil)))
  sPass)))
noncomputable def r22 : Row := ⟨"_law_run", top 25, ["_law_schema_here", "_law_program_here", "_law_record_here", "_law_values", "_law_statement", "_law_block"], ["_law_schema_here", "_law_program_here", "_law_record_here"], ⟨3, 6, true, b22⟩⟩
/- 23 _law_exact: 0 _law_actual, 1 _law_expected, 2 _law_k -/
noncomputable def b23 (n : Nat) (C : Calls) : B := (sSeq (sIf (tOr (tNot (tVal (mIsi .tuple (mVar 0)))) (tVal (mOp (opCmp .ne) (mVar 0) (mVar 1)))) (sSeq (sRet (mLit (.bl false)))
  sPass) sPass)
  (sSeq (sFor (gVar 2) (iRng1 (mApp bLen (mCons (mVar 1) mNil))) (sSeq (sIf (tVal (mOp (opCmp .ne) (mIsi .bool (mOp opIx (mVar 0) (mVar 2))) (mIsi .bool (mOp opIx (mVar 1) (mVar 2))))) (sSeq (sRet (mLit (.bl false)))
  sPass) sPass)
  sPass))
  (sSeq (sRet (mLit (.bl true)))
  sPass)))
noncomputable def r23 : Row := ⟨"_law_exact", top 26, ["_law_actual", "_law_expected", "_law_k"], ["_law_actual", "_law_expected"], ⟨2, 3, false, b23⟩⟩
/- 24 law: 0 _law_script, 1 _law_draws_here, 2 _law_schema_here, 3 _law_record_here, 4 _law_program_here, 5 _law_k -/
noncomputable def b24 (n : Nat) (C : Calls) : B := (sSeq (sAsg (mCallN C 3 7 (mCons (mVar 0) (mCons (mLit (.int 0)) (mCons (mLit (.int 120)) mNil)))) (gVar 1))
  (sSeq (sAsg (mCallN C 1 10 (mCons (mVar 1) mNil)) (gVar 2))
  (sSeq (sAsg (mCallN C 2 12 (mCons (mVar 2) (mCons (mVar 1) mNil))) (gVar 3))
  (sSeq (sAsg (mCallN C 3 19 (mCons (mVar 2) (mCons (mVar 1) (mCons (mLit (.int 2)) mNil)))) (gVar 4))
  (sSeq (sFor (gVar 5) (iRng1 (mLit (.int 3))) (sSeq (sIf (tNot (tVal (mCallN C 2 23 (mCons (mCallN C 3 5 (mCons (mVar 2) (mCons (mVar 4) (mCons (mVar 3) mNil)))) (mCons (mCallN C 3 22 (mCons (mVar 2) (mCons (mVar 4) (mCons (mVar 3) mNil)))) mNil))))) (sSeq (sRet (mLit (.bl false)))
  sPass) sPass)
  (sSeq (sAsg (mCallN C 2 12 (mCons (mVar 2) (mCons (mVar 1) mNil))) (gVar 3))
  sPass)))
  (sSeq (sRet (mLit (.bl true)))
  sPass))))))
noncomputable def r24 : Row := ⟨"law", top 27, ["_law_script", "_law_draws_here", "_law_schema_here", "_law_record_here", "_law_program_here", "_law_k"], ["_law_script"], ⟨1, 6, false, b24⟩⟩
noncomputable def rows : List Row := [r0, r1, r2, r3, r4, r5, r6, r7, r8, r9, r10, r11, r12, r13, r14, r15, r16, r17, r18, r19, r20, r21, r22, r23, r24]
noncomputable def L : LawT := ⟨rows, [], ["abs", "bool", "int", "isinstance", "len", "list", "max", "min", "range", "tuple"], [(62, 13), (71, 22), (84, 11), (99, 18), (173, 22), (249, 18), (257, 26)]⟩
def fns : List (Str × Nat × Nat) := [("field_index", 0, 2), ("combine", 1, 3), ("alter", 2, 3), ("value_of", 3, 3), ("run_block", 4, 3), ("evaluate", 5, 3), ("_law_cell", 6, 2), ("_law_draws", 7, 3), ("_law_next", 8, 1), ("_law_kind", 9, 1), ("_law_schema", 10, 1), ("_law_value", 11, 2), ("_law_record", 12, 2), ("_law_leaf", 13, 3), ("_law_expression", 14, 4), ("_law_set", 15, 3), ("_law_made", 16, 3), ("_law_nodes", 17, 1), ("_law_size", 18, 1), ("_law_program", 19, 3), ("_law_at", 20, 2), ("_law_eval", 21, 3), ("_law_run", 22, 3), ("_law_exact", 23, 2), ("law", 24, 1)]
theorem fns_eq : fnsFrom 0 L.rows = fns := rfl
theorem ok0 : RowOk L fns r0 := { body := fun C n k => by kernel_rfl, scope := ⟨rfl, rfl, rfl, by decide +kernel, rfl, by decide +kernel, by decide +kernel⟩, bind := fun _ _ _ _ _ _ us hl => match us, hl with | [_, _], _ => rfl, ar := rfl, sl := rfl }
theorem ok1 : RowOk L fns r1 := { body := fun C n k => by kernel_rfl, scope := ⟨rfl, rfl, rfl, by decide +kernel, rfl, by decide +kernel, by decide +kernel⟩, bind := fun _ _ _ _ _ _ us hl => match us, hl with | [_, _, _], _ => rfl, ar := rfl, sl := rfl }
theorem ok2 : RowOk L fns r2 := { body := fun C n k => by kernel_rfl, scope := ⟨rfl, rfl, rfl, by decide +kernel, rfl, by decide +kernel, by decide +kernel⟩, bind := fun _ _ _ _ _ _ us hl => match us, hl with | [_, _, _], _ => rfl, ar := rfl, sl := rfl }
theorem ok3 : RowOk L fns r3 := { body := fun C n k => by kernel_rfl, scope := ⟨rfl, rfl, rfl, by decide +kernel, rfl, by decide +kernel, by decide +kernel⟩, bind := fun _ _ _ _ _ _ us hl => match us, hl with | [_, _, _], _ => rfl, ar := rfl, sl := rfl }
theorem ok4 : RowOk L fns r4 := { body := fun C n k => by kernel_rfl, scope := ⟨rfl, rfl, rfl, by decide +kernel, rfl, by decide +kernel, by decide +kernel⟩, bind := fun _ _ _ _ _ _ us hl => match us, hl with | [_, _, _], _ => rfl, ar := rfl, sl := rfl }
theorem ok5 : RowOk L fns r5 := { body := fun C n k => by kernel_rfl, scope := ⟨rfl, rfl, rfl, by decide +kernel, rfl, by decide +kernel, by decide +kernel⟩, bind := fun _ _ _ _ _ _ us hl => match us, hl with | [_, _, _], _ => rfl, ar := rfl, sl := rfl }
theorem ok6 : RowOk L fns r6 := { body := fun C n k => by kernel_rfl, scope := ⟨rfl, rfl, rfl, by decide +kernel, rfl, by decide +kernel, by decide +kernel⟩, bind := fun _ _ _ _ _ _ us hl => match us, hl with | [_, _], _ => rfl, ar := rfl, sl := rfl }
theorem ok7 : RowOk L fns r7 := { body := fun C n k => by kernel_rfl, scope := ⟨rfl, rfl, rfl, by decide +kernel, rfl, by decide +kernel, by decide +kernel⟩, bind := fun _ _ _ _ _ _ us hl => match us, hl with | [_, _, _], _ => rfl, ar := rfl, sl := rfl }
theorem ok8 : RowOk L fns r8 := { body := fun C n k => by kernel_rfl, scope := ⟨rfl, rfl, rfl, by decide +kernel, rfl, by decide +kernel, by decide +kernel⟩, bind := fun _ _ _ _ _ _ us hl => match us, hl with | [_], _ => rfl, ar := rfl, sl := rfl }
theorem ok9 : RowOk L fns r9 := { body := fun C n k => by kernel_rfl, scope := ⟨rfl, rfl, rfl, by decide +kernel, rfl, by decide +kernel, by decide +kernel⟩, bind := fun _ _ _ _ _ _ us hl => match us, hl with | [_], _ => rfl, ar := rfl, sl := rfl }
theorem ok10 : RowOk L fns r10 := { body := fun C n k => by kernel_rfl, scope := ⟨rfl, rfl, rfl, by decide +kernel, rfl, by decide +kernel, by decide +kernel⟩, bind := fun _ _ _ _ _ _ us hl => match us, hl with | [_], _ => rfl, ar := rfl, sl := rfl }
theorem ok11 : RowOk L fns r11 := { body := fun C n k => by kernel_rfl, scope := ⟨rfl, rfl, rfl, by decide +kernel, rfl, by decide +kernel, by decide +kernel⟩, bind := fun _ _ _ _ _ _ us hl => match us, hl with | [_, _], _ => rfl, ar := rfl, sl := rfl }
theorem ok12 : RowOk L fns r12 := { body := fun C n k => by kernel_rfl, scope := ⟨rfl, rfl, rfl, by decide +kernel, rfl, by decide +kernel, by decide +kernel⟩, bind := fun _ _ _ _ _ _ us hl => match us, hl with | [_, _], _ => rfl, ar := rfl, sl := rfl }
theorem ok13 : RowOk L fns r13 := { body := fun C n k => by kernel_rfl, scope := ⟨rfl, rfl, rfl, by decide +kernel, rfl, by decide +kernel, by decide +kernel⟩, bind := fun _ _ _ _ _ _ us hl => match us, hl with | [_, _, _], _ => rfl, ar := rfl, sl := rfl }
theorem ok14 : RowOk L fns r14 := { body := fun C n k => by kernel_rfl, scope := ⟨rfl, rfl, rfl, by decide +kernel, rfl, by decide +kernel, by decide +kernel⟩, bind := fun _ _ _ _ _ _ us hl => match us, hl with | [_, _, _, _], _ => rfl, ar := rfl, sl := rfl }
theorem ok15 : RowOk L fns r15 := { body := fun C n k => by kernel_rfl, scope := ⟨rfl, rfl, rfl, by decide +kernel, rfl, by decide +kernel, by decide +kernel⟩, bind := fun _ _ _ _ _ _ us hl => match us, hl with | [_, _, _], _ => rfl, ar := rfl, sl := rfl }
theorem ok16 : RowOk L fns r16 := { body := fun C n k => by kernel_rfl, scope := ⟨rfl, rfl, rfl, by decide +kernel, rfl, by decide +kernel, by decide +kernel⟩, bind := fun _ _ _ _ _ _ us hl => match us, hl with | [_, _, _], _ => rfl, ar := rfl, sl := rfl }
theorem ok17 : RowOk L fns r17 := { body := fun C n k => by kernel_rfl, scope := ⟨rfl, rfl, rfl, by decide +kernel, rfl, by decide +kernel, by decide +kernel⟩, bind := fun _ _ _ _ _ _ us hl => match us, hl with | [_], _ => rfl, ar := rfl, sl := rfl }
theorem ok18 : RowOk L fns r18 := { body := fun C n k => by kernel_rfl, scope := ⟨rfl, rfl, rfl, by decide +kernel, rfl, by decide +kernel, by decide +kernel⟩, bind := fun _ _ _ _ _ _ us hl => match us, hl with | [_], _ => rfl, ar := rfl, sl := rfl }
theorem ok19 : RowOk L fns r19 := { body := fun C n k => by kernel_rfl, scope := ⟨rfl, rfl, rfl, by decide +kernel, rfl, by decide +kernel, by decide +kernel⟩, bind := fun _ _ _ _ _ _ us hl => match us, hl with | [_, _, _], _ => rfl, ar := rfl, sl := rfl }
theorem ok20 : RowOk L fns r20 := { body := fun C n k => by kernel_rfl, scope := ⟨rfl, rfl, rfl, by decide +kernel, rfl, by decide +kernel, by decide +kernel⟩, bind := fun _ _ _ _ _ _ us hl => match us, hl with | [_, _], _ => rfl, ar := rfl, sl := rfl }
theorem ok21 : RowOk L fns r21 := { body := fun C n k => by kernel_rfl, scope := ⟨rfl, rfl, rfl, by decide +kernel, rfl, by decide +kernel, by decide +kernel⟩, bind := fun _ _ _ _ _ _ us hl => match us, hl with | [_, _, _], _ => rfl, ar := rfl, sl := rfl }
theorem ok22 : RowOk L fns r22 := { body := fun C n k => by kernel_rfl, scope := ⟨rfl, rfl, rfl, by decide +kernel, rfl, by decide +kernel, by decide +kernel⟩, bind := fun _ _ _ _ _ _ us hl => match us, hl with | [_, _, _], _ => rfl, ar := rfl, sl := rfl }
theorem ok23 : RowOk L fns r23 := { body := fun C n k => by kernel_rfl, scope := ⟨rfl, rfl, rfl, by decide +kernel, rfl, by decide +kernel, by decide +kernel⟩, bind := fun _ _ _ _ _ _ us hl => match us, hl with | [_, _], _ => rfl, ar := rfl, sl := rfl }
theorem ok24 : RowOk L fns r24 := { body := fun C n k => by kernel_rfl, scope := ⟨rfl, rfl, rfl, by decide +kernel, rfl, by decide +kernel, by decide +kernel⟩, bind := fun _ _ _ _ _ _ us hl => match us, hl with | [_], _ => rfl, ar := rfl, sl := rfl }
theorem ok : ∀ r ∈ L.rows, RowOk L (fnsFrom 0 L.rows) r := by
  rw [fns_eq]
  have e : ∀ r, r ∈ L.rows ↔ r ∈ rows := fun r => Iff.rfl
  intro r hr
  rw [e] at hr
  unfold rows at hr
  simp only [List.mem_cons, List.not_mem_nil, or_false] at hr
  rcases hr with rfl | rfl | rfl | rfl | rfl | rfl | rfl | rfl | rfl | rfl | rfl | rfl | rfl | rfl | rfl | rfl | rfl | rfl | rfl | rfl | rfl | rfl | rfl | rfl | rfl
  · exact ok0
  · exact ok1
  · exact ok2
  · exact ok3
  · exact ok4
  · exact ok5
  · exact ok6
  · exact ok7
  · exact ok8
  · exact ok9
  · exact ok10
  · exact ok11
  · exact ok12
  · exact ok13
  · exact ok14
  · exact ok15
  · exact ok16
  · exact ok17
  · exact ok18
  · exact ok19
  · exact ok20
  · exact ok21
  · exact ok22
  · exact ok23
  · exact ok24
noncomputable abbrev K (n d : Nat) : Calls := callF L.tab n d
theorem call_eq {n d f : Nat} {fe : FnE} {ds : List D} {h : Hs} (e : L.tab f = some fe) : K n (d + 1) f ds h = fe.run n (K n d) ds h := by
  exact callF_s e ds h
theorem c0 {n d : Nat} {a0 a1 : D} {h : Hs} {Q : D → Hs → Prop} : OkR (K n (d + 1) 0 [a0, a1] h) Q = OkO (b0 n (K n d) [some a0, some a1, none] h) (fun _ h1 => Q .non h1) Q (fun _ _ => False) fun _ _ => False := by
  rw [call_eq (fe := r0.fe) rfl]
  exact okr_fin
theorem c1 {n d : Nat} {a0 a1 a2 : D} {h : Hs} {Q : D → Hs → Prop} : OkR (K n (d + 1) 1 [a0, a1, a2] h) Q = OkO (b1 n (K n d) [some a0, some a1, some a2] h) (fun _ h1 => Q .non h1) Q (fun _ _ => False) fun _ _ => False := by
  rw [call_eq (fe := r1.fe) rfl]
  exact okr_fin
theorem c2 {n d : Nat} {a0 a1 a2 : D} {h : Hs} {Q : D → Hs → Prop} : OkR (K n (d + 1) 2 [a0, a1, a2] h) Q = OkO (b2 n (K n d) [some a0, some a1, some a2] h) (fun _ h1 => Q .non h1) Q (fun _ _ => False) fun _ _ => False := by
  rw [call_eq (fe := r2.fe) rfl]
  exact okr_fin
theorem c3 {n d : Nat} {a0 a1 a2 : D} {h : Hs} {Q : D → Hs → Prop} : OkR (K n (d + 1) 3 [a0, a1, a2] h) Q = OkO (b3 n (K n d) [some a0, some a1, some a2, none, none, none, none] h) (fun _ h1 => Q .non h1) Q (fun _ _ => False) fun _ _ => False := by
  rw [call_eq (fe := r3.fe) rfl]
  exact okr_fin
theorem c4 {n d : Nat} {a0 a1 a2 : D} {h : Hs} {Q : D → Hs → Prop} : OkR (K n (d + 1) 4 [a0, a1, a2] h) Q = OkO (b4 n (K n d) [some a0, some a1, some a2, none] h) (fun _ h1 => Q .non h1) Q (fun _ _ => False) fun _ _ => False := by
  rw [call_eq (fe := r4.fe) rfl]
  exact okr_fin
theorem c5 {n d : Nat} {a0 a1 a2 : D} {h : Hs} {Q : D → Hs → Prop} (q : OkO (b5 n (K n d) [some a0, some a1, some a2, none] h) (fun _ h1 => (∃ g, h1 = h ++ g) ∧ Q .non h) (fun v h1 => (∃ g, h1 = h ++ g) ∧ OkR (frz h.length h1 h v) Q) (fun _ _ => False) fun _ _ => False) : OkR (K n (d + 1) 5 [a0, a1, a2] h) Q := by
  rw [call_eq (fe := r5.fe) rfl]
  exact okr_pure q
theorem c6 {n d : Nat} {a0 a1 : D} {h : Hs} {Q : D → Hs → Prop} : OkR (K n (d + 1) 6 [a0, a1] h) Q = OkO (b6 n (K n d) [some a0, some a1] h) (fun _ h1 => Q .non h1) Q (fun _ _ => False) fun _ _ => False := by
  rw [call_eq (fe := r6.fe) rfl]
  exact okr_fin
theorem c7 {n d : Nat} {a0 a1 a2 : D} {h : Hs} {Q : D → Hs → Prop} : OkR (K n (d + 1) 7 [a0, a1, a2] h) Q = OkO (b7 n (K n d) [some a0, some a1, some a2, none, none, none, none, none] h) (fun _ h1 => Q .non h1) Q (fun _ _ => False) fun _ _ => False := by
  rw [call_eq (fe := r7.fe) rfl]
  exact okr_fin
theorem c8 {n d : Nat} {a0 : D} {h : Hs} {Q : D → Hs → Prop} : OkR (K n (d + 1) 8 [a0] h) Q = OkO (b8 n (K n d) [some a0] h) (fun _ h1 => Q .non h1) Q (fun _ _ => False) fun _ _ => False := by
  rw [call_eq (fe := r8.fe) rfl]
  exact okr_fin
theorem c9 {n d : Nat} {a0 : D} {h : Hs} {Q : D → Hs → Prop} : OkR (K n (d + 1) 9 [a0] h) Q = OkO (b9 n (K n d) [some a0, none] h) (fun _ h1 => Q .non h1) Q (fun _ _ => False) fun _ _ => False := by
  rw [call_eq (fe := r9.fe) rfl]
  exact okr_fin
theorem c10 {n d : Nat} {a0 : D} {h : Hs} {Q : D → Hs → Prop} : OkR (K n (d + 1) 10 [a0] h) Q = OkO (b10 n (K n d) [some a0, none, none] h) (fun _ h1 => Q .non h1) Q (fun _ _ => False) fun _ _ => False := by
  rw [call_eq (fe := r10.fe) rfl]
  exact okr_fin
theorem c11 {n d : Nat} {a0 a1 : D} {h : Hs} {Q : D → Hs → Prop} : OkR (K n (d + 1) 11 [a0, a1] h) Q = OkO (b11 n (K n d) [some a0, some a1] h) (fun _ h1 => Q .non h1) Q (fun _ _ => False) fun _ _ => False := by
  rw [call_eq (fe := r11.fe) rfl]
  exact okr_fin
theorem c12 {n d : Nat} {a0 a1 : D} {h : Hs} {Q : D → Hs → Prop} : OkR (K n (d + 1) 12 [a0, a1] h) Q = OkO (b12 n (K n d) [some a0, some a1, none] h) (fun _ h1 => Q .non h1) Q (fun _ _ => False) fun _ _ => False := by
  rw [call_eq (fe := r12.fe) rfl]
  exact okr_fin
theorem c13 {n d : Nat} {a0 a1 a2 : D} {h : Hs} {Q : D → Hs → Prop} : OkR (K n (d + 1) 13 [a0, a1, a2] h) Q = OkO (b13 n (K n d) [some a0, some a1, some a2, none, none] h) (fun _ h1 => Q .non h1) Q (fun _ _ => False) fun _ _ => False := by
  rw [call_eq (fe := r13.fe) rfl]
  exact okr_fin
theorem c14 {n d : Nat} {a0 a1 a2 a3 : D} {h : Hs} {Q : D → Hs → Prop} : OkR (K n (d + 1) 14 [a0, a1, a2, a3] h) Q = OkO (b14 n (K n d) [some a0, some a1, some a2, some a3, none, none, none, none, none] h) (fun _ h1 => Q .non h1) Q (fun _ _ => False) fun _ _ => False := by
  rw [call_eq (fe := r14.fe) rfl]
  exact okr_fin
theorem c15 {n d : Nat} {a0 a1 a2 : D} {h : Hs} {Q : D → Hs → Prop} : OkR (K n (d + 1) 15 [a0, a1, a2] h) Q = OkO (b15 n (K n d) [some a0, some a1, some a2, none, none, none] h) (fun _ h1 => Q .non h1) Q (fun _ _ => False) fun _ _ => False := by
  rw [call_eq (fe := r15.fe) rfl]
  exact okr_fin
theorem c16 {n d : Nat} {a0 a1 a2 : D} {h : Hs} {Q : D → Hs → Prop} : OkR (K n (d + 1) 16 [a0, a1, a2] h) Q = OkO (b16 n (K n d) [some a0, some a1, some a2, none, none, none, none, none] h) (fun _ h1 => Q .non h1) Q (fun _ _ => False) fun _ _ => False := by
  rw [call_eq (fe := r16.fe) rfl]
  exact okr_fin
theorem c17 {n d : Nat} {a0 : D} {h : Hs} {Q : D → Hs → Prop} : OkR (K n (d + 1) 17 [a0] h) Q = OkO (b17 n (K n d) [some a0, none, none] h) (fun _ h1 => Q .non h1) Q (fun _ _ => False) fun _ _ => False := by
  rw [call_eq (fe := r17.fe) rfl]
  exact okr_fin
theorem c18 {n d : Nat} {a0 : D} {h : Hs} {Q : D → Hs → Prop} : OkR (K n (d + 1) 18 [a0] h) Q = OkO (b18 n (K n d) [some a0, none, none] h) (fun _ h1 => Q .non h1) Q (fun _ _ => False) fun _ _ => False := by
  rw [call_eq (fe := r18.fe) rfl]
  exact okr_fin
theorem c19 {n d : Nat} {a0 a1 a2 : D} {h : Hs} {Q : D → Hs → Prop} : OkR (K n (d + 1) 19 [a0, a1, a2] h) Q = OkO (b19 n (K n d) [some a0, some a1, some a2, none, none] h) (fun _ h1 => Q .non h1) Q (fun _ _ => False) fun _ _ => False := by
  rw [call_eq (fe := r19.fe) rfl]
  exact okr_fin
theorem c20 {n d : Nat} {a0 a1 : D} {h : Hs} {Q : D → Hs → Prop} : OkR (K n (d + 1) 20 [a0, a1] h) Q = OkO (b20 n (K n d) [some a0, some a1, none] h) (fun _ h1 => Q .non h1) Q (fun _ _ => False) fun _ _ => False := by
  rw [call_eq (fe := r20.fe) rfl]
  exact okr_fin
theorem c21 {n d : Nat} {a0 a1 a2 : D} {h : Hs} {Q : D → Hs → Prop} : OkR (K n (d + 1) 21 [a0, a1, a2] h) Q = OkO (b21 n (K n d) [some a0, some a1, some a2, none, none, none, none] h) (fun _ h1 => Q .non h1) Q (fun _ _ => False) fun _ _ => False := by
  rw [call_eq (fe := r21.fe) rfl]
  exact okr_fin
theorem c22 {n d : Nat} {a0 a1 a2 : D} {h : Hs} {Q : D → Hs → Prop} (q : OkO (b22 n (K n d) [some a0, some a1, some a2, none, none, none] h) (fun _ h1 => (∃ g, h1 = h ++ g) ∧ Q .non h) (fun v h1 => (∃ g, h1 = h ++ g) ∧ OkR (frz h.length h1 h v) Q) (fun _ _ => False) fun _ _ => False) : OkR (K n (d + 1) 22 [a0, a1, a2] h) Q := by
  rw [call_eq (fe := r22.fe) rfl]
  exact okr_pure q
theorem c23 {n d : Nat} {a0 a1 : D} {h : Hs} {Q : D → Hs → Prop} : OkR (K n (d + 1) 23 [a0, a1] h) Q = OkO (b23 n (K n d) [some a0, some a1, none] h) (fun _ h1 => Q .non h1) Q (fun _ _ => False) fun _ _ => False := by
  rw [call_eq (fe := r23.fe) rfl]
  exact okr_fin
theorem c24 {n d : Nat} {a0 : D} {h : Hs} {Q : D → Hs → Prop} : OkR (K n (d + 1) 24 [a0] h) Q = OkO (b24 n (K n d) [some a0, none, none, none, none, none] h) (fun _ h1 => Q .non h1) Q (fun _ _ => False) fun _ _ => False := by
  rw [call_eq (fe := r24.fe) rfl]
  exact okr_fin
theorem glob_ok (K : PySem.W.Frag) (mg : Str → Option Value) (base : Heap) {fa : List He.Fa} {fn : List He.DefD} : K.In base → base.Ns mainGlobals mg → He.SaysD fa fn K → ∀ x d, L.glob.lookup x = some d → ∃ v u, mg x = some u ∧ L2.RelV v u ∧ ∀ w, Rep (L.nm K) w d v := fun _ _ _ x d e => by cases e
end LW

set_option Elab.async false
set_option linter.all false
set_option maxRecDepth 100000
set_option maxHeartbeats 0
namespace LW
open PySem DN
section
variable {n d : Nat} {h : Hs}
theorem next_ok {p : Nat} (q : Dr p h) : OkR (K n (d + 1) 8 [.ref p] h) fun v h' => ∃ i : Int, v = .int i ∧ 0 ≤ i ∧ Dr p h' ∧ Fr p h h' := by
  obtain ⟨ns, e, nn⟩ := q
  rw [c8]
  unfold b8
  cases ns with
  | nil =>
    simp [e]
    exact ⟨⟨[], e, nn⟩, Fr.refl p h⟩
  | cons i ns =>
    have e' : h[p]? = some (.lst (.int i :: ns.map .int)) := e
    simp [e']
    refine ⟨nn i (by simp), ⟨ns, ?_, fun k hk => nn k (by simp [hk])⟩, Fr.set p h _⟩
    rw [List.getElem?_set_self (lt_of_at e)]
def I7 (h : Hs) (ns : List Int) (most : Int) (rest : List D) (σ : DN.Env) (h' : Hs) : Prop := ∃ (xs rs : List Int) (u4 u5 u6 u7 : Option D), h' = h ++ [.lst (xs.map .int)] ∧ (∀ n ∈ xs, 0 ≤ n) ∧ rest = rs.map .int ∧ xs.length + 20 * rs.length ≤ 2000 ∧ σ = [some (.sl (ns.map .int)), some (.int 0), some (.int most), some (.ref h.length), u4, u5, u6, u7]
def I7b (h : Hs) (ns : List Int) (most : Int) (rs : List Int) (rest : List D) (σ : DN.Env) (h' : Hs) : Prop := ∃ (xs : List Int) (m : Int) (u4 u6 u7 : Option D), 0 ≤ m ∧ h' = h ++ [.lst (xs.map .int)] ∧ (∀ n ∈ xs, 0 ≤ n) ∧ xs.length + 20 * rs.length + rest.length ≤ 2000 ∧ σ = [some (.sl (ns.map .int)), some (.int 0), some (.int most), some (.ref h.length), u4, some (.int m), u6, u7]
theorem draws_ok {ns : List Int} {most : Int} (hl : ns.length ≤ 63) : OkR (K n (d + 1) 7 [.sl (ns.map .int), .int 0, .int most] h) fun v h' => ∃ p, v = .ref p ∧ Dr p h' := by
  rw [c7]
  unfold b7
  simp
  refine ⟨by omega, ?_⟩
  refine loop_t (I7 h ns most) ?_ ?_ ?_
  · exact ⟨[], ns, none, none, none, none, rfl, by simp, rfl, by simp; omega, rfl⟩
  · rintro σ h' ⟨xs, rs, u4, u5, u6, u7, rfl, nn, er, el, rfl⟩
    simp
    refine ⟨Nat.le_trans (cut_len _ _ _) (by simp; omega), cutD xs none (some most), ?_, fun n hn => nn n (cut_mem hn)⟩
    simp [cut_map]
  · rintro x rest σ h' ⟨xs, rs, u4, u5, u6, u7, rfl, nn, er, el, rfl⟩
    cases rs with
    | nil => cases er
    | cons r rs =>
      cases er
      have hm : ∃ m : Int, (if r < 0 then -r else r) = m ∧ 0 ≤ m := ⟨_, rfl, by split <;> omega⟩
      obtain ⟨m, em, m0⟩ := hm
      simp at el
      simp [em]
      by_cases hr : m < 1000000000000000000
      · rw [if_pos hr]
        refine ⟨by omega, by omega, by omega, xs ++ [m, ((m * 48271 + 11) % 2147483647 * 16807 + m / 9 + 3) % 2147483647 / 7, ((m * 48271 + 11) % 2147483647 * 69621 + m / 5 + 7) % 2147483647 / 11], rs, _, _, _, _, by simp, ?_, rfl, by simp; omega, rfl⟩
        intro k hk
        simp at hk
        rcases hk with hk | hk | hk | hk
        · exact nn k hk
        · omega
        · omega
        · omega
      · rw [if_neg hr]
        refine loop_t (I7b h ns most rs) ?_ ?_ ?_
        · exact ⟨xs, m, _, _, _, m0, rfl, nn, by simp [rngL]; omega, rfl⟩
        · rintro σ h' ⟨xs, m, u4, u6, u7, m0, rfl, nn, el, rfl⟩
          simp at el
          exact ⟨xs, rs, _, _, _, _, rfl, nn, rfl, by omega, rfl⟩
        · rintro x rest σ h' ⟨xs, m, u4, u6, u7, m0, rfl, nn, el, rfl⟩
          simp at el
          simp
          split
          · refine ⟨by omega, xs ++ [m % 10000], m / 10000, _, _, _, by omega, by simp, ?_, by simp; omega, rfl⟩
            intro k hk
            simp at hk
            rcases hk with hk | hk
            · exact nn k hk
            · omega
          · exact ⟨xs, m / 10000, _, _, _, by omega, rfl, nn, by omega, rfl⟩
end
end LW

set_option Elab.async false
set_option linter.all false
set_option maxRecDepth 100000
set_option maxHeartbeats 0
namespace LW
open PySem DN
inductive tt where
  | int | flag | word | text
def tt.s : tt → List Nat
  | .int => [105, 110, 116]
  | .flag => [102, 108, 97, 103]
  | .word => [119, 111, 114, 100]
  | .text => [116, 101, 120, 116]
def SOK (l : Nat) (s : List Nat) : Prop := s.length ≤ l ∧ s.all (· < 1114112) = true
theorem SOK.up {l l' : Nat} {s : List Nat} (q : SOK l s) (h : l ≤ l') : SOK l' s := ⟨Nat.le_trans q.1 h, q.2⟩
theorem SOK.cut {l : Nat} {s : List Nat} (q : SOK l s) (lo hi : Option Int) : SOK l (cutD s lo hi) := ⟨Nat.le_trans (cut_len _ _ _) q.1, by
  have z := q.2
  rw [List.all_eq_true] at z ⊢
  exact fun c hc => z c (cut_mem hc)⟩
theorem SOK.app {l l' : Nat} {s s' : List Nat} (q : SOK l s) (q' : SOK l' s') : SOK (l + l') (s ++ s') := ⟨by simp; exact Nat.add_le_add q.1 q'.1, by
  rw [List.all_append, q.2, q'.2]
  rfl⟩
def KindOK : tt → D → Prop
  | .int, k => ∃ lo hi : Int, k = .tup [.str [105, 110, 116], .int lo, .int hi] ∧ -1000000000 ≤ lo ∧ lo ≤ hi ∧ hi ≤ 1000000000
  | .flag, k => k = .tup [.str [102, 108, 97, 103]]
  | .word, k => ∃ ws : List (List Nat), k = .tup [.str [119, 111, 114, 100], .tup (ws.map .str)] ∧ ws ≠ [] ∧ ∀ w ∈ ws, SOK 40 w
  | .text, k => ∃ m : Int, k = .tup [.str [116, 101, 120, 116], .int m] ∧ 0 ≤ m ∧ m ≤ 40
def bd : Nat → Int
  | 0 => 1000000000
  | m + 1 => bd m * bd m
def TV (m : Nat) : tt → D → Prop
  | .int, v => ∃ i : Int, v = .int i ∧ -bd m ≤ i ∧ i ≤ bd m
  | .flag, v => ∃ b : Bool, v = .bl b
  | _, v => ∃ s : List Nat, v = .str s ∧ SOK (40 * 2 ^ m) s
section
variable {n d : Nat} {h : Hs}
theorem kind_ok {i : Int} (h0 : 0 ≤ i) : OkR (K n (d + 1) 9 [.int i] h) fun v h' => h' = h ∧ ∃ t, KindOK t v := by
  rw [c9]
  unfold b9
  simp
  split
  · refine opt_ix (by omega) (by simp; omega) ?_
    simp
    refine ⟨?_, ?_, ?_, ?_, ?_⟩
    all_goals
      refine opt_ix (by omega) (by simp; omega) ?_
      simp
      refine ⟨?_, ?_, ?_, ?_⟩
      all_goals exact ⟨.int, _, _, rfl, by omega, by omega, by omega⟩
  · split
    · exact ⟨.flag, rfl⟩
    · split
      · refine ⟨.word, cutD [[110, 101, 119], [111, 108, 100], [108, 111, 115, 116], [97], [105, 102]] none (some (1 + i / 5 % 5)), ?_, ?_, ?_⟩
        · rw [← cut_map]
          rfl
        · intro e
          have z := congrArg List.length e
          have e1 : ¬ (1 + i / 5 % 5 < 0) := by omega
          simp [cutD, sixD, e1] at z
          trace_state
          omega
        · intro w hw
          have := cut_mem hw
          simp at this
          rcases this with rfl | rfl | rfl | rfl | rfl <;> exact ⟨by decide, by decide⟩
      · refine opt_ix (by omega) (by simp; omega) ?_
        simp
        refine ⟨?_, ?_, ?_, ?_⟩
        all_goals exact ⟨.text, _, rfl, by omega, by omega⟩
end
end LW

set_option Elab.async false
set_option linter.all false
set_option maxRecDepth 100000
set_option maxHeartbeats 0
namespace LW
open PySem DN
def fD (f : List Nat × tt × D) : D := .tup [.str f.1, f.2.2]
def SC (fs : List (List Nat × tt × D)) : D := .tup (fs.map fD)
def n8 : List (List Nat) := [[110], [111, 110], [115, 116, 97, 116, 101], [110, 111, 116, 101], [112], [113], [117], [119]]
structure SchOK (fs : List (List Nat × tt × D)) : Prop where
  ne : fs ≠ []
  le : fs.length ≤ 8
  nd : (fs.map (·.1)).Nodup
  ok : ∀ f ∈ fs, KindOK f.2.1 f.2.2
section
variable {n d : Nat} {h : Hs}
def I10 (p : Nat) (h : Hs) (rest : List D) (σ : DN.Env) (h' : Hs) : Prop := ∃ (fs : List (List Nat × tt × D)) (r : Nat) (u : Option D), rest = rngL fs.length r ∧ fs.length + r ≤ 8 ∧ 1 ≤ fs.length + r ∧ fs.map (·.1) = n8.take fs.length ∧ (∀ f ∈ fs, KindOK f.2.1 f.2.2) ∧ Dr p h' ∧ Fr p h h' ∧ h'[h.length]? = some (.lst (fs.map fD)) ∧ σ = [some (.ref p), some (.ref h.length), u]
theorem schema_ok {p : Nat} (q : Dr p h) : OkR (K n (d + 2) 10 [.ref p] h) fun v h' => ∃ fs, v = SC fs ∧ SchOK fs ∧ Dr p h' ∧ Fr p h h' := by
  have pl := q.lt
  rw [c10]
  unfold b10
  simp
  refine (next_ok (q.app _)).mono ?_
  rintro _ h1 ⟨i, rfl, i0, q1, f1⟩
  have e1 : h1[h.length]? = some (.lst []) := f1.at_ (by simp) (by omega)
  simp
  refine opt_ix (by omega) (by simp; omega) ?_
  intro v hv
  have hj : ∃ j : Nat, v = .int j ∧ 1 ≤ j ∧ j ≤ 8 := by
    simp at hv
    rcases hv with rfl | rfl | rfl | rfl | rfl | rfl | rfl | rfl
    all_goals exact ⟨_, rfl, by decide, by decide⟩
  obtain ⟨j, rfl, j1, j8⟩ := hj
  simp
  refine ⟨by omega, ?_⟩
  refine loop_t (I10 p h) ?_ ?_ ?_
  · exact ⟨[], j, none, rfl, by simp; omega, by simp; omega, rfl, by simp, q1, f1.of_app, e1, rfl⟩
  · rintro σ h' ⟨fs, r, u, er, l8, l1, en, ko, q', f', e', rfl⟩
    cases r with
    | succ r => cases er
    | zero =>
      simp [e']
      refine ⟨by omega, fs, rfl, ⟨by rintro rfl; simp at l1, by omega, ?_, ko⟩, q', f'⟩
      rw [en]
      exact List.Nodup.sublist (List.take_sublist _ _) (by decide)
  · rintro x rest σ h' ⟨fs, r, u, er, l8, l1, en, ko, q', f', e', rfl⟩
    cases r with
    | zero => cases er
    | succ r =>
      cases er
      simp [e']
      obtain ⟨nm, hx⟩ : ∃ nm, n8[fs.length]? = some nm := ⟨_, List.getElem?_eq_getElem (by simp [n8]; omega)⟩
      have hix : ixat (n8.map D.str) (fs.length : Int) = some (.str nm) := ixat_nat (k := fs.length) (by rw [List.getElem?_map, hx]; rfl) rfl
      have hix' : ixat [D.str [110], D.str [111, 110], D.str [115, 116, 97, 116, 101], D.str [110, 111, 116, 101], D.str [112], D.str [113], D.str [117], D.str [119]] (fs.length : Int) = some (.str nm) := hix
      rw [hix']
      simp
      refine (next_ok q').mono ?_
      rintro _ h2 ⟨i2, rfl, i20, q2, f2⟩
      skip
      refine (kind_ok i20).mono ?_
      rintro kd h3 ⟨rfl, t, kt⟩
      have e2 := f2.at_ e' (by omega)
      simp [e2]
      refine ⟨by omega, fs ++ [(nm, t, kd)], r, _, by simp, by simp; omega, by simp; omega, ?_, ?_, q2.set (by omega) _, (f'.trans f2).set_hi (Nat.le_refl _) _, ?_, rfl⟩
      · simp [en]
        rw [List.take_succ, hx]
        rfl
      · intro f hf
        simp at hf
        rcases hf with hf | rfl
        · exact ko f hf
        · exact kt
      · rw [List.getElem?_set_self (lt_of_at e2)]
        simp [fD]
end
end LW

set_option Elab.async false
set_option linter.all false
set_option maxRecDepth 100000
set_option maxHeartbeats 0
namespace LW
open PySem DN
def RecOK (fs : List (List Nat × tt × D)) (xs : List D) : Prop := xs.length = fs.length ∧ ∀ (k : Nat) f v, fs[k]? = some f → xs[k]? = some v → TV 0 f.2.1 v
section
variable {n d : Nat} {h : Hs}
theorem value_ok {t : tt} {k : D} {i : Int} (q : KindOK t k) (h0 : 0 ≤ i) : OkR (K n (d + 1) 11 [k, .int i] h) fun v h' => h' = h ∧ TV 0 t v := by
  rw [c11]
  unfold b11
  cases t with
  | int =>
    obtain ⟨lo, hi, rfl, l1, l2, l3⟩ := q
    have e1 : (0 : Int) ≤ hi - lo + 1 := by omega
    have e2 : 0 ≤ i / 4 % (hi - lo + 1) := Int.emod_nonneg _ (by omega)
    have e3 : i / 4 % (hi - lo + 1) < hi - lo + 1 := Int.emod_lt_of_pos _ (by omega)
    simp [fmodE e1]
    split
    · exact ⟨lo, rfl, by simp [bd]; omega, by simp [bd]; omega⟩
    · split
      · exact ⟨hi, rfl, by simp [bd]; omega, by simp [bd]; omega⟩
      · refine ⟨by omega, _, rfl, by simp [bd]; omega, by simp [bd]; omega⟩
  | flag =>
    cases q
    simp
    exact ⟨_, rfl⟩
  | word =>
    obtain ⟨ws, rfl, ne, l⟩ := q
    have hl : 0 < ws.length := List.length_pos_iff.mpr ne
    have e2 : 0 ≤ i % (ws.length : Int) := Int.emod_nonneg _ (by omega)
    have e3 : i % (ws.length : Int) < ws.length := Int.emod_lt_of_pos _ (by omega)
    simp [ne]
    refine opt_ix e2 (by simpa using e3) ?_
    intro v hv
    simp at hv
    obtain ⟨w, hw, rfl⟩ := hv
    exact ⟨w, rfl, l w hw⟩
  | text =>
    obtain ⟨m, rfl, m0, m1⟩ := q
    simp
    refine opt_ix (by omega) (by simp; omega) ?_
    simp
    refine ⟨?_, ?_, ?_, ?_, ?_⟩
    all_goals exact ⟨_, rfl, SOK.cut ⟨by decide, by decide⟩ _ _⟩
def I12 (p : Nat) (h : Hs) (fs : List (List Nat × tt × D)) (rest acc : List D) (h' : Hs) : Prop := ∃ fs1 fs2, fs = fs1 ++ fs2 ∧ rest = fs2.map fD ∧ RecOK fs1 acc ∧ Dr p h' ∧ Fr p h h'
theorem record_ok {p : Nat} {fs : List (List Nat × tt × D)} (S : SchOK fs) (q : Dr p h) : OkR (K n (d + 2) 12 [SC fs, .ref p] h) fun v h' => ∃ xs, v = .tup xs ∧ RecOK fs xs ∧ Dr p h' ∧ Fr p h h' := by
  rw [c12]
  unfold b12
  simp [SC]
  refine lc_t (I12 p h fs) ⟨[], fs, rfl, rfl, ⟨rfl, by simp⟩, q, Fr.refl p h⟩ ?_ ?_
  · rintro x xs acc h' ⟨fs1, fs2, e, er, ro, q', f'⟩
    cases fs2 with
    | nil => cases er
    | cons f fs2 =>
      cases er
      simp [wipeE, cTg, fD]
      refine (next_ok q').mono ?_
      rintro _ h2 ⟨i2, rfl, i20, q2, f2⟩
      try simp
      refine (value_ok (S.ok f (by rw [e]; simp)) i20).mono ?_
      rintro v h3 ⟨rfl, tv⟩
      refine ⟨fs1 ++ [f], fs2, by simp [e], rfl, ⟨by simp [ro.1], ?_⟩, q2, f'.trans f2⟩
      intro k g w hg hw
      rcases Nat.lt_or_ge k fs1.length with z | z
      · rw [List.getElem?_append_left z] at hg
        rw [List.getElem?_append_left (by rw [ro.1]; exact z)] at hw
        exact ro.2 k g w hg hw
      · rw [List.getElem?_append_right z] at hg
        rw [List.getElem?_append_right (by rw [ro.1]; exact z)] at hw
        rw [ro.1] at hw
        cases e3 : k - fs1.length with
        | zero =>
          rw [e3] at hg hw
          cases hg
          cases hw
          exact tv
        | succ j =>
          rw [e3] at hg
          cases hg
  · rintro ys h' ⟨fs1, fs2, e, er, ro, q', f'⟩
    cases fs2 with
    | cons f fs2 => cases er
    | nil =>
      rw [List.append_nil] at e
      subst e
      have := S.le
      simp [ro.1]
      exact ⟨by omega, ro, q', f'⟩
def I0 (fs : List (List Nat × tt × D)) (nm : D) (k : Nat) (h : Hs) (rest : List D) (σ : DN.Env) (h' : Hs) : Prop := ∃ (j r : Nat) (u : Option D), rest = rngL j r ∧ j + r = fs.length ∧ j ≤ k ∧ h' = h ∧ σ = [some (SC fs), some nm, u]
theorem SC_at {fs : List (List Nat × tt × D)} {j : Nat} {f : List Nat × tt × D} (e : fs[j]? = some f) : ixat (fs.map fD) (j : Int) = some (fD f) := ixat_nat (k := j) (by rw [List.getElem?_map, e]; rfl) rfl
theorem SchOK.inj {fs : List (List Nat × tt × D)} (S : SchOK fs) {j k : Nat} {f g : List Nat × tt × D} (e1 : fs[j]? = some f) (e2 : fs[k]? = some g) (e : f.1 = g.1) : j = k := by
  have z := S.nd
  have lj := lt_of_at' e1
  have lk := lt_of_at' e2
  refine (List.getElem?_inj (by simpa using lj) z).mp ?_
  rw [List.getElem?_map, List.getElem?_map, e1, e2]
  simp [e]
theorem index_ok {fs : List (List Nat × tt × D)} (S : SchOK fs) {k : Nat} {f : List Nat × tt × D} (e : fs[k]? = some f) : OkR (K n (d + 1) 0 [SC fs, .str f.1] h) fun v h' => h' = h ∧ v = .int k := by
  have l8 := S.le
  have lk := lt_of_at' e
  rw [c0]
  unfold b0
  simp [SC]
  refine ⟨by omega, ?_⟩
  refine loop_t (I0 fs (.str f.1) k h) ⟨0, fs.length, none, rfl, by omega, by omega, rfl, rfl⟩ ?_ ?_
  · rintro σ h' ⟨j, r, u, er, l, jk, rfl, rfl⟩
    cases r with
    | succ r => cases er
    | zero => omega
  · rintro x rest σ h' ⟨j, r, u, er, l, jk, rfl, rfl⟩
    cases r with
    | zero => cases er
    | succ r =>
      cases er
      obtain ⟨g, eg⟩ : ∃ g, fs[j]? = some g := ⟨_, List.getElem?_eq_getElem (by omega)⟩
      simp [SC, SC_at eg, fD]
      split
      · rename_i hg
        have := S.inj eg e hg
        simp [this]
      · rename_i hg
        refine ⟨j + 1, r, _, by simp, by omega, ?_, rfl, rfl⟩
        rcases Nat.lt_or_ge j k with z | z
        · omega
        · have : j = k := by omega
          subst this
          rw [eg] at e
          cases e
          exact absurd rfl hg
def I20 (fs : List (List Nat × tt × D)) (k : Nat) (h : Hs) (rest acc : List D) (h' : Hs) : Prop := ∃ (j r : Nat), rest = rngL j r ∧ j + r = fs.length ∧ h' = h ∧ acc = if k < j then [.int k] else []
theorem at_ok {fs : List (List Nat × tt × D)} (S : SchOK fs) {k : Nat} {f : List Nat × tt × D} (e : fs[k]? = some f) : OkR (K n (d + 1) 20 [SC fs, .str f.1] h) fun v h' => h' = h ∧ v = .int k := by
  have l8 := S.le
  have lk := lt_of_at' e
  rw [c20]
  unfold b20
  simp [SC]
  refine ⟨by omega, ?_⟩
  refine lc_t (I20 fs k h) ⟨0, fs.length, rfl, by omega, rfl, by simp⟩ ?_ ?_
  · rintro x rest acc h' ⟨j, r, er, l, rfl, rfl⟩
    cases r with
    | zero => cases er
    | succ r =>
      cases er
      obtain ⟨g, eg⟩ : ∃ g, fs[j]? = some g := ⟨_, List.getElem?_eq_getElem (by omega)⟩
      simp [SC_at eg, fD, wipeE, cTg]
      split
      · rename_i hg
        have := S.inj eg e hg
        subst this
        exact ⟨j + 1, r, by simp, by omega, rfl, by simp⟩
      · rename_i hg
        have : j ≠ k := by
          rintro rfl
          rw [eg] at e
          cases e
          exact hg rfl
        refine ⟨j + 1, r, by simp, by omega, rfl, ?_⟩
        by_cases z : k < j
        · rw [if_pos z, if_pos (by omega)]
        · rw [if_neg z, if_neg (by omega)]
  · rintro ys h' ⟨j, r, er, l, rfl, rfl⟩
    cases r with
    | succ r => cases er
    | zero =>
      rw [if_pos (by omega)]
      simp
end
end LW

set_option Elab.async false
set_option linter.all false
set_option maxRecDepth 100000
set_option maxHeartbeats 0
namespace LW
open PySem DN
def EVP (fs : List (List Nat × tt × D)) (M : Nat) (P : D → Prop) (e : D) : Prop := ∀ xs, RecOK fs xs → ∃ v, P v ∧ ∀ n d h r, M ≤ d → h[r]? = some (.lst xs) → OkR (K n d 3 [SC fs, e, .ref r] h) (fun v' h' => h' = h ∧ v' = v) ∧ OkR (K n d 21 [SC fs, e, .ref r] h) (fun v' h' => h' = h ∧ v' = v)
def EVI (fs : List (List Nat × tt × D)) (M : Nat) (P : Int → Prop) (e : D) : Prop := EVP fs M (fun v => ∃ i, v = .int i ∧ P i) e
def EVB (fs : List (List Nat × tt × D)) (M : Nat) (e : D) : Prop := EVP fs M (fun v => ∃ i, v = .bl i) e
def EVS (fs : List (List Nat × tt × D)) (M : Nat) (P : List Nat → Prop) (e : D) : Prop := EVP fs M (fun v => ∃ i, v = .str i ∧ P i) e
section
variable {fs : List (List Nat × tt × D)} {M : Nat} {a b c : D}
theorem EVP.mono {P P' : D → Prop} {M' : Nat} {e : D} (A : EVP fs M P e) (hM : M ≤ M') (i : ∀ v, P v → P' v) : EVP fs M' P' e := fun xs rx => by
  obtain ⟨v, p, q⟩ := A xs rx
  exact ⟨v, i v p, fun n d h r hd er => q n d h r (Nat.le_trans hM hd) er⟩
theorem ev_const {P : D → Prop} {hd : List Nat} {v : D} (hh : hd ∈ [[105, 110, 116], [102, 108, 97, 103], [119, 111, 114, 100], [116, 101, 120, 116]]) (p : P v) : EVP fs 1 P (.tup [.str hd, v]) := fun xs rx => by
  refine ⟨v, p, ?_⟩
  intro n d h r hd er
  obtain ⟨d, rfl⟩ : ∃ e, d = e + 1 := ⟨d - 1, by omega⟩
  simp at hh
  constructor
  · rw [c3]
    unfold b3
    rcases hh with rfl | rfl | rfl | rfl <;> simp
  · rw [c21]
    unfold b21
    rcases hh with rfl | rfl | rfl | rfl <;> simp
theorem ev_field (S : SchOK fs) {k : Nat} {f : List Nat × tt × D} (e : fs[k]? = some f) : EVP fs 2 (TV 0 f.2.1) (.tup [.str [102, 105, 101, 108, 100], .str f.1]) := fun xs rx => by
  have lk := lt_of_at' e
  obtain ⟨v, ev⟩ : ∃ v, xs[k]? = some v := ⟨_, List.getElem?_eq_getElem (by rw [rx.1]; exact lk)⟩
  refine ⟨v, rx.2 k f v e ev, ?_⟩
  intro n d h r hd er
  obtain ⟨d, rfl⟩ : ∃ e, d = e + 2 := ⟨d - 2, by omega⟩
  have ix : ixat xs (k : Int) = some v := ixat_nat ev rfl
  constructor
  · rw [c3]
    unfold b3
    simp
    refine (index_ok S e).mono ?_
    rintro _ h1 ⟨rfl, rfl⟩
    simp [er, ix]
  · rw [c21]
    unfold b21
    simp
    refine (at_ok S e).mono ?_
    rintro _ h1 ⟨rfl, rfl⟩
    simp [er, ix]
theorem ev_add {P : Int → Prop} {R : Int → Prop} (hM : 1 ≤ M) (A : EVI fs M P a) (B : EVI fs M R b) : EVI fs (M + 1) (fun z => ∃ i j, P i ∧ R j ∧ z = i + j) (.tup [.str [97, 100, 100], a, b]) := fun xs rx => by
  obtain ⟨_, ⟨i, rfl, pi⟩, ei⟩ := A xs rx
  obtain ⟨_, ⟨j, rfl, pj⟩, ej⟩ := B xs rx
  refine ⟨_, ⟨_, rfl, i, j, pi, pj, rfl⟩, ?_⟩
  intro n d h r hd er
  obtain ⟨d, rfl⟩ : ∃ e, d = e + 2 := ⟨d - 2, by omega⟩
  have a1 := ei n (d + 1) h r (by omega) er
  have a2 := ej n (d + 1) h r (by omega) er
  constructor
  · rw [c3]
    unfold b3
    simp
    refine a1.1.mono ?_
    rintro _ h1 ⟨rfl, rfl⟩
    try simp
    refine a2.1.mono ?_
    rintro _ h1 ⟨rfl, rfl⟩
    try simp
    rw [c1]
    unfold b1
    simp 
  · rw [c21]
    unfold b21
    simp
    refine a1.2.mono ?_
    rintro _ h1 ⟨rfl, rfl⟩
    try simp
    refine a2.2.mono ?_
    rintro _ h1 ⟨rfl, rfl⟩
    try simp 
theorem ev_sub {P : Int → Prop} {R : Int → Prop} (hM : 1 ≤ M) (A : EVI fs M P a) (B : EVI fs M R b) : EVI fs (M + 1) (fun z => ∃ i j, P i ∧ R j ∧ z = i - j) (.tup [.str [115, 117, 98], a, b]) := fun xs rx => by
  obtain ⟨_, ⟨i, rfl, pi⟩, ei⟩ := A xs rx
  obtain ⟨_, ⟨j, rfl, pj⟩, ej⟩ := B xs rx
  refine ⟨_, ⟨_, rfl, i, j, pi, pj, rfl⟩, ?_⟩
  intro n d h r hd er
  obtain ⟨d, rfl⟩ : ∃ e, d = e + 2 := ⟨d - 2, by omega⟩
  have a1 := ei n (d + 1) h r (by omega) er
  have a2 := ej n (d + 1) h r (by omega) er
  constructor
  · rw [c3]
    unfold b3
    simp
    refine a1.1.mono ?_
    rintro _ h1 ⟨rfl, rfl⟩
    try simp
    refine a2.1.mono ?_
    rintro _ h1 ⟨rfl, rfl⟩
    try simp
    rw [c1]
    unfold b1
    simp 
  · rw [c21]
    unfold b21
    simp
    refine a1.2.mono ?_
    rintro _ h1 ⟨rfl, rfl⟩
    try simp
    refine a2.2.mono ?_
    rintro _ h1 ⟨rfl, rfl⟩
    try simp 
theorem ev_mul {P : Int → Prop} {R : Int → Prop} (hM : 1 ≤ M) (A : EVI fs M P a) (B : EVI fs M R b) (sm : ∀ i j, P i → R j → (-18446744073709551616 < i ∧ i < 18446744073709551616) ∨ (-18446744073709551616 < j ∧ j < 18446744073709551616)) : EVI fs (M + 1) (fun z => ∃ i j, P i ∧ R j ∧ z = i * j) (.tup [.str [109, 117, 108], a, b]) := fun xs rx => by
  obtain ⟨_, ⟨i, rfl, pi⟩, ei⟩ := A xs rx
  obtain ⟨_, ⟨j, rfl, pj⟩, ej⟩ := B xs rx
  have hc := sm i j pi pj
  refine ⟨_, ⟨_, rfl, i, j, pi, pj, rfl⟩, ?_⟩
  intro n d h r hd er
  obtain ⟨d, rfl⟩ : ∃ e, d = e + 2 := ⟨d - 2, by omega⟩
  have a1 := ei n (d + 1) h r (by omega) er
  have a2 := ej n (d + 1) h r (by omega) er
  constructor
  · rw [c3]
    unfold b3
    simp
    refine a1.1.mono ?_
    rintro _ h1 ⟨rfl, rfl⟩
    try simp
    refine a2.1.mono ?_
    rintro _ h1 ⟨rfl, rfl⟩
    try simp
    rw [c1]
    unfold b1
    simp [hc]
  · rw [c21]
    unfold b21
    simp
    refine a1.2.mono ?_
    rintro _ h1 ⟨rfl, rfl⟩
    try simp
    refine a2.2.mono ?_
    rintro _ h1 ⟨rfl, rfl⟩
    try simp [hc]
theorem ev_min {P : Int → Prop} {R : Int → Prop} (hM : 1 ≤ M) (A : EVI fs M P a) (B : EVI fs M R b) : EVI fs (M + 1) (fun z => ∃ i j, P i ∧ R j ∧ z = if j < i then j else i) (.tup [.str [109, 105, 110], a, b]) := fun xs rx => by
  obtain ⟨_, ⟨i, rfl, pi⟩, ei⟩ := A xs rx
  obtain ⟨_, ⟨j, rfl, pj⟩, ej⟩ := B xs rx
  refine ⟨_, ⟨_, rfl, i, j, pi, pj, rfl⟩, ?_⟩
  intro n d h r hd er
  obtain ⟨d, rfl⟩ : ∃ e, d = e + 2 := ⟨d - 2, by omega⟩
  have a1 := ei n (d + 1) h r (by omega) er
  have a2 := ej n (d + 1) h r (by omega) er
  constructor
  · rw [c3]
    unfold b3
    simp
    refine a1.1.mono ?_
    rintro _ h1 ⟨rfl, rfl⟩
    try simp
    refine a2.1.mono ?_
    rintro _ h1 ⟨rfl, rfl⟩
    try simp
    rw [c1]
    unfold b1
    simp 
  · rw [c21]
    unfold b21
    simp
    refine a1.2.mono ?_
    rintro _ h1 ⟨rfl, rfl⟩
    try simp
    refine a2.2.mono ?_
    rintro _ h1 ⟨rfl, rfl⟩
    try simp 
theorem ev_max {P : Int → Prop} {R : Int → Prop} (hM : 1 ≤ M) (A : EVI fs M P a) (B : EVI fs M R b) : EVI fs (M + 1) (fun z => ∃ i j, P i ∧ R j ∧ z = if j > i then j else i) (.tup [.str [109, 97, 120], a, b]) := fun xs rx => by
  obtain ⟨_, ⟨i, rfl, pi⟩, ei⟩ := A xs rx
  obtain ⟨_, ⟨j, rfl, pj⟩, ej⟩ := B xs rx
  refine ⟨_, ⟨_, rfl, i, j, pi, pj, rfl⟩, ?_⟩
  intro n d h r hd er
  obtain ⟨d, rfl⟩ : ∃ e, d = e + 2 := ⟨d - 2, by omega⟩
  have a1 := ei n (d + 1) h r (by omega) er
  have a2 := ej n (d + 1) h r (by omega) er
  constructor
  · rw [c3]
    unfold b3
    simp
    refine a1.1.mono ?_
    rintro _ h1 ⟨rfl, rfl⟩
    try simp
    refine a2.1.mono ?_
    rintro _ h1 ⟨rfl, rfl⟩
    try simp
    rw [c1]
    unfold b1
    simp 
  · rw [c21]
    unfold b21
    simp
    refine a1.2.mono ?_
    rintro _ h1 ⟨rfl, rfl⟩
    try simp
    refine a2.2.mono ?_
    rintro _ h1 ⟨rfl, rfl⟩
    try simp 
theorem ev_less {P : Int → Prop} {R : Int → Prop} (hM : 1 ≤ M) (A : EVI fs M P a) (B : EVI fs M R b) : EVB fs (M + 1) (.tup [.str [108, 101, 115, 115], a, b]) := fun xs rx => by
  obtain ⟨_, ⟨i, rfl, pi⟩, ei⟩ := A xs rx
  obtain ⟨_, ⟨j, rfl, pj⟩, ej⟩ := B xs rx
  refine ⟨_, ⟨decide (i < j), rfl⟩, ?_⟩
  intro n d h r hd er
  obtain ⟨d, rfl⟩ : ∃ e, d = e + 2 := ⟨d - 2, by omega⟩
  have a1 := ei n (d + 1) h r (by omega) er
  have a2 := ej n (d + 1) h r (by omega) er
  constructor
  · rw [c3]
    unfold b3
    simp
    refine a1.1.mono ?_
    rintro _ h1 ⟨rfl, rfl⟩
    try simp
    refine a2.1.mono ?_
    rintro _ h1 ⟨rfl, rfl⟩
    try simp
    rw [c1]
    unfold b1
    simp 
  · rw [c21]
    unfold b21
    simp
    refine a1.2.mono ?_
    rintro _ h1 ⟨rfl, rfl⟩
    try simp
    refine a2.2.mono ?_
    rintro _ h1 ⟨rfl, rfl⟩
    try simp 
theorem ev_sameI {P : Int → Prop} {R : Int → Prop} (hM : 1 ≤ M) (A : EVI fs M P a) (B : EVI fs M R b) : EVB fs (M + 1) (.tup [.str [115, 97, 109, 101], a, b]) := fun xs rx => by
  obtain ⟨_, ⟨i, rfl, pi⟩, ei⟩ := A xs rx
  obtain ⟨_, ⟨j, rfl, pj⟩, ej⟩ := B xs rx
  refine ⟨_, ⟨decide (i = j), rfl⟩, ?_⟩
  intro n d h r hd er
  obtain ⟨d, rfl⟩ : ∃ e, d = e + 2 := ⟨d - 2, by omega⟩
  have a1 := ei n (d + 1) h r (by omega) er
  have a2 := ej n (d + 1) h r (by omega) er
  constructor
  · rw [c3]
    unfold b3
    simp
    refine a1.1.mono ?_
    rintro _ h1 ⟨rfl, rfl⟩
    try simp
    refine a2.1.mono ?_
    rintro _ h1 ⟨rfl, rfl⟩
    try simp
    rw [c1]
    unfold b1
    simp 
  · rw [c21]
    unfold b21
    simp
    refine a1.2.mono ?_
    rintro _ h1 ⟨rfl, rfl⟩
    try simp
    refine a2.2.mono ?_
    rintro _ h1 ⟨rfl, rfl⟩
    try simp 
theorem ev_sameB   (hM : 1 ≤ M) (A : EVB fs M a) (B : EVB fs M b) : EVB fs (M + 1) (.tup [.str [115, 97, 109, 101], a, b]) := fun xs rx => by
  obtain ⟨_, ⟨i, rfl⟩, ei⟩ := A xs rx
  obtain ⟨_, ⟨j, rfl⟩, ej⟩ := B xs rx
  refine ⟨_, ⟨i == j, rfl⟩, ?_⟩
  intro n d h r hd er
  obtain ⟨d, rfl⟩ : ∃ e, d = e + 2 := ⟨d - 2, by omega⟩
  have a1 := ei n (d + 1) h r (by omega) er
  have a2 := ej n (d + 1) h r (by omega) er
  constructor
  · rw [c3]
    unfold b3
    simp
    refine a1.1.mono ?_
    rintro _ h1 ⟨rfl, rfl⟩
    try simp
    refine a2.1.mono ?_
    rintro _ h1 ⟨rfl, rfl⟩
    try simp
    rw [c1]
    unfold b1
    simp 
  · rw [c21]
    unfold b21
    simp
    refine a1.2.mono ?_
    rintro _ h1 ⟨rfl, rfl⟩
    try simp
    refine a2.2.mono ?_
    rintro _ h1 ⟨rfl, rfl⟩
    try simp 
theorem ev_sameS {P : List Nat → Prop} {R : List Nat → Prop} (hM : 1 ≤ M) (A : EVS fs M P a) (B : EVS fs M R b) : EVB fs (M + 1) (.tup [.str [115, 97, 109, 101], a, b]) := fun xs rx => by
  obtain ⟨_, ⟨i, rfl, pi⟩, ei⟩ := A xs rx
  obtain ⟨_, ⟨j, rfl, pj⟩, ej⟩ := B xs rx
  refine ⟨_, ⟨i == j, rfl⟩, ?_⟩
  intro n d h r hd er
  obtain ⟨d, rfl⟩ : ∃ e, d = e + 2 := ⟨d - 2, by omega⟩
  have a1 := ei n (d + 1) h r (by omega) er
  have a2 := ej n (d + 1) h r (by omega) er
  constructor
  · rw [c3]
    unfold b3
    simp
    refine a1.1.mono ?_
    rintro _ h1 ⟨rfl, rfl⟩
    try simp
    refine a2.1.mono ?_
    rintro _ h1 ⟨rfl, rfl⟩
    try simp
    rw [c1]
    unfold b1
    simp 
  · rw [c21]
    unfold b21
    simp
    refine a1.2.mono ?_
    rintro _ h1 ⟨rfl, rfl⟩
    try simp
    refine a2.2.mono ?_
    rintro _ h1 ⟨rfl, rfl⟩
    try simp 
theorem ev_and   (hM : 1 ≤ M) (A : EVB fs M a) (B : EVB fs M b) : EVB fs (M + 1) (.tup [.str [97, 110, 100], a, b]) := fun xs rx => by
  obtain ⟨_, ⟨i, rfl⟩, ei⟩ := A xs rx
  obtain ⟨_, ⟨j, rfl⟩, ej⟩ := B xs rx
  refine ⟨_, ⟨i && j, rfl⟩, ?_⟩
  intro n d h r hd er
  obtain ⟨d, rfl⟩ : ∃ e, d = e + 2 := ⟨d - 2, by omega⟩
  have a1 := ei n (d + 1) h r (by omega) er
  have a2 := ej n (d + 1) h r (by omega) er
  constructor
  · rw [c3]
    unfold b3
    simp
    refine a1.1.mono ?_
    rintro _ h1 ⟨rfl, rfl⟩
    try simp
    refine a2.1.mono ?_
    rintro _ h1 ⟨rfl, rfl⟩
    try simp
    rw [c1]
    unfold b1
    simp
    cases i <;> cases j <;> simp
  · rw [c21]
    unfold b21
    simp
    refine a1.2.mono ?_
    rintro _ h1 ⟨rfl, rfl⟩
    try simp
    refine a2.2.mono ?_
    rintro _ h1 ⟨rfl, rfl⟩
    try simp
    cases i <;> cases j <;> simp
theorem ev_or   (hM : 1 ≤ M) (A : EVB fs M a) (B : EVB fs M b) : EVB fs (M + 1) (.tup [.str [111, 114], a, b]) := fun xs rx => by
  obtain ⟨_, ⟨i, rfl⟩, ei⟩ := A xs rx
  obtain ⟨_, ⟨j, rfl⟩, ej⟩ := B xs rx
  refine ⟨_, ⟨i || j, rfl⟩, ?_⟩
  intro n d h r hd er
  obtain ⟨d, rfl⟩ : ∃ e, d = e + 2 := ⟨d - 2, by omega⟩
  have a1 := ei n (d + 1) h r (by omega) er
  have a2 := ej n (d + 1) h r (by omega) er
  constructor
  · rw [c3]
    unfold b3
    simp
    refine a1.1.mono ?_
    rintro _ h1 ⟨rfl, rfl⟩
    try simp
    refine a2.1.mono ?_
    rintro _ h1 ⟨rfl, rfl⟩
    try simp
    rw [c1]
    unfold b1
    simp
    cases i <;> cases j <;> simp
  · rw [c21]
    unfold b21
    simp
    refine a1.2.mono ?_
    rintro _ h1 ⟨rfl, rfl⟩
    try simp
    refine a2.2.mono ?_
    rintro _ h1 ⟨rfl, rfl⟩
    try simp
    cases i <;> cases j <;> simp
theorem ev_join {P : List Nat → Prop} {R : List Nat → Prop} (hM : 1 ≤ M) (A : EVS fs M P a) (B : EVS fs M R b) (sm : ∀ i j, P i → R j → i.length + j.length ≤ 16777216) : EVS fs (M + 1) (fun z => ∃ i j, P i ∧ R j ∧ z = i ++ j) (.tup [.str [106, 111, 105, 110], a, b]) := fun xs rx => by
  obtain ⟨_, ⟨i, rfl, pi⟩, ei⟩ := A xs rx
  obtain ⟨_, ⟨j, rfl, pj⟩, ej⟩ := B xs rx
  have hc := sm i j pi pj
  refine ⟨_, ⟨_, rfl, i, j, pi, pj, rfl⟩, ?_⟩
  intro n d h r hd er
  obtain ⟨d, rfl⟩ : ∃ e, d = e + 2 := ⟨d - 2, by omega⟩
  have a1 := ei n (d + 1) h r (by omega) er
  have a2 := ej n (d + 1) h r (by omega) er
  constructor
  · rw [c3]
    unfold b3
    simp
    refine a1.1.mono ?_
    rintro _ h1 ⟨rfl, rfl⟩
    try simp
    refine a2.1.mono ?_
    rintro _ h1 ⟨rfl, rfl⟩
    try simp
    rw [c1]
    unfold b1
    simp [hc]
  · rw [c21]
    unfold b21
    simp
    refine a1.2.mono ?_
    rintro _ h1 ⟨rfl, rfl⟩
    try simp
    refine a2.2.mono ?_
    rintro _ h1 ⟨rfl, rfl⟩
    try simp [hc]
end
end LW

set_option Elab.async false
set_option linter.all false
set_option maxRecDepth 100000
set_option maxHeartbeats 0
namespace LW
open PySem DN
section
variable {fs : List (List Nat × tt × D)} {M : Nat} {a b c : D}
theorem ev_not (hM : 1 ≤ M) (A : EVB fs M a)  : EVB fs (M + 1) (.tup [.str [110, 111, 116], a]) := fun xs rx => by
  obtain ⟨_, ⟨i, rfl⟩, ei⟩ := A xs rx
  refine ⟨_, ⟨!i, rfl⟩, ?_⟩
  intro n d h r hd er
  obtain ⟨d, rfl⟩ : ∃ e, d = e + 2 := ⟨d - 2, by omega⟩
  have a1 := ei n (d + 1) h r (by omega) er
  constructor
  · rw [c3]
    unfold b3
    simp
    refine a1.1.mono ?_
    rintro _ h1 ⟨rfl, rfl⟩
    try simp
    rw [c2]
    unfold b2
    simp
  · rw [c21]
    unfold b21
    simp
    refine a1.2.mono ?_
    rintro _ h1 ⟨rfl, rfl⟩
    try simp
theorem ev_div {P : Int → Prop} (hM : 1 ≤ M) (A : EVI fs M P a) {k : Int} (k1 : 1 ≤ k) (k9 : k ≤ 9) : EVI fs (M + 1) (fun z => ∃ i, P i ∧ z = i / k) (.tup [.str [100, 105, 118], a, .int k]) := fun xs rx => by
  obtain ⟨_, ⟨i, rfl, pi⟩, ei⟩ := A xs rx
  refine ⟨_, ⟨i / k, rfl, i, pi, rfl⟩, ?_⟩
  intro n d h r hd er
  obtain ⟨d, rfl⟩ : ∃ e, d = e + 2 := ⟨d - 2, by omega⟩
  have a1 := ei n (d + 1) h r (by omega) er
  have hc : k ≠ 0 ∧ k.natAbs < 1073741824 ∧ 0 ≤ k := by omega
  constructor
  · rw [c3]
    unfold b3
    simp
    refine a1.1.mono ?_
    rintro _ h1 ⟨rfl, rfl⟩
    try simp
    rw [c2]
    unfold b2
    simp [hc]
  · rw [c21]
    unfold b21
    simp
    refine a1.2.mono ?_
    rintro _ h1 ⟨rfl, rfl⟩
    try simp [hc]
theorem ev_mod {P : Int → Prop} (hM : 1 ≤ M) (A : EVI fs M P a) {k : Int} (k1 : 1 ≤ k) (k9 : k ≤ 9) : EVI fs (M + 1) (fun z => ∃ i, P i ∧ z = i % k) (.tup [.str [109, 111, 100], a, .int k]) := fun xs rx => by
  obtain ⟨_, ⟨i, rfl, pi⟩, ei⟩ := A xs rx
  refine ⟨_, ⟨i % k, rfl, i, pi, rfl⟩, ?_⟩
  intro n d h r hd er
  obtain ⟨d, rfl⟩ : ∃ e, d = e + 2 := ⟨d - 2, by omega⟩
  have a1 := ei n (d + 1) h r (by omega) er
  have hc : k ≠ 0 ∧ k.natAbs < 1073741824 ∧ 0 ≤ k := by omega
  constructor
  · rw [c3]
    unfold b3
    simp
    refine a1.1.mono ?_
    rintro _ h1 ⟨rfl, rfl⟩
    try simp
    rw [c2]
    unfold b2
    simp [hc]
  · rw [c21]
    unfold b21
    simp
    refine a1.2.mono ?_
    rintro _ h1 ⟨rfl, rfl⟩
    try simp [hc]
theorem ev_cut {P : List Nat → Prop} (hM : 1 ≤ M) (A : EVS fs M P a) {k : Int} (sm : ∀ i, P i → i.length ≤ 16777216) : EVS fs (M + 1) (fun z => ∃ i, P i ∧ z = cutD i none (some k)) (.tup [.str [99, 117, 116], a, .int k]) := fun xs rx => by
  obtain ⟨_, ⟨i, rfl, pi⟩, ei⟩ := A xs rx
  refine ⟨_, ⟨cutD i none (some k), rfl, i, pi, rfl⟩, ?_⟩
  intro n d h r hd er
  obtain ⟨d, rfl⟩ : ∃ e, d = e + 2 := ⟨d - 2, by omega⟩
  have a1 := ei n (d + 1) h r (by omega) er
  have hc := sm i pi
  constructor
  · rw [c3]
    unfold b3
    simp
    refine a1.1.mono ?_
    rintro _ h1 ⟨rfl, rfl⟩
    try simp
    rw [c2]
    unfold b2
    simp [hc]
  · rw [c21]
    unfold b21
    simp
    refine a1.2.mono ?_
    rintro _ h1 ⟨rfl, rfl⟩
    try simp [hc]
theorem ev_pick {P : D → Prop} (hM : 1 ≤ M) (A : EVB fs M a) (B : EVP fs M P b) (C : EVP fs M P c) : EVP fs (M + 1) P (.tup [.str [112, 105, 99, 107], a, b, c]) := fun xs rx => by
  obtain ⟨_, ⟨i, rfl⟩, ei⟩ := A xs rx
  obtain ⟨x, px, ex⟩ := B xs rx
  obtain ⟨y, py, ey⟩ := C xs rx
  refine ⟨if i = true then x else y, ?_, ?_⟩
  · cases i
    · exact py
    · exact px
  intro n d h r hd er
  obtain ⟨d, rfl⟩ : ∃ e, d = e + 1 := ⟨d - 1, by omega⟩
  have a1 := ei n d h r (by omega) er
  have a2 := ex n d h r (by omega) er
  have a3 := ey n d h r (by omega) er
  constructor
  · rw [c3]
    unfold b3
    simp
    refine a1.1.mono ?_
    rintro _ h1 ⟨rfl, rfl⟩
    try simp
    refine a2.1.mono ?_
    rintro _ h1 ⟨rfl, rfl⟩
    try simp
    refine a3.1.mono ?_
    rintro _ h1 ⟨rfl, rfl⟩
    cases i <;> simp
  · rw [c21]
    unfold b21
    simp
    refine a1.2.mono ?_
    rintro _ h1 ⟨rfl, rfl⟩
    try simp
    refine a2.2.mono ?_
    rintro _ h1 ⟨rfl, rfl⟩
    try simp
    refine a3.2.mono ?_
    rintro _ h1 ⟨rfl, rfl⟩
    cases i <;> simp
end
def NodesOK (m : Nat) (e : D) : Prop := ∀ n d h, m ≤ d → OkR (K n d 17 [e] h) fun v h' => h' = h ∧ ∃ k : Int, v = .int k
def partOK (m : Nat) (p : D) : Prop := (∃ ys, p = .tup ys ∧ NodesOK m p) ∨ (∃ i, p = .int i) ∨ (∃ s, p = .str s) ∨ ∃ b, p = .bl b
def I17 (e : D) (m : Nat) (h : Hs) (rest : List D) (σ : DN.Env) (h' : Hs) : Prop := ∃ (k : Int) (u : Option D), h' = h ∧ σ = [some e, some (.int k), u] ∧ ∀ p ∈ rest, partOK m p
theorem nodes_ok {m : Nat} {hd : List Nat} {ps : List D} (q : ∀ p ∈ ps, partOK m p) : NodesOK (m + 1) (.tup (.str hd :: ps)) := by
  intro n d h hd'
  obtain ⟨d, rfl⟩ : ∃ e, d = e + 1 := ⟨d - 1, by omega⟩
  rw [c17]
  unfold b17
  simp
  refine loop_t (I17 (.tup (.str hd :: ps)) m h) ⟨1, none, rfl, rfl, q⟩ ?_ ?_
  · rintro σ h' ⟨k, u, rfl, rfl, _⟩
    simp
  · rintro x rest σ h' ⟨k, u, rfl, rfl, qs⟩
    have qr : ∀ p ∈ rest, partOK m p := fun p hp => qs p (by simp [hp])
    rcases qs x (by simp) with ⟨ys, rfl, nk⟩ | ⟨i, rfl⟩ | ⟨s, rfl⟩ | ⟨b, rfl⟩
    · simp
      split
      · exact ⟨k, _, rfl, rfl, qr⟩
      · refine (nk n d h' (by omega)).mono ?_
        rintro _ h1 ⟨rfl, k2, rfl⟩
        simp
        exact ⟨k + k2, _, rfl, rfl, qr⟩
    all_goals
      simp
      exact ⟨k, _, rfl, rfl, qr⟩
end LW

set_option Elab.async false
set_option linter.all false
set_option maxRecDepth 100000
set_option maxHeartbeats 0
namespace LW
open PySem DN
theorem bd_ge (m : Nat) : 1000000000 ≤ bd m := by
  induction m with
  | zero => show (1000000000 : Int) ≤ 1000000000; omega
  | succ m ih =>
    show 1000000000 ≤ bd m * bd m
    have h1 : 1000000000 * 1 ≤ bd m * bd m := Int.mul_le_mul ih (by omega) (by omega) (by omega)
    omega
theorem bd_2 (m : Nat) : bd m + bd m ≤ bd (m + 1) := by
  show bd m + bd m ≤ bd m * bd m
  have ih := bd_ge m
  have h1 : bd m * 2 ≤ bd m * bd m := Int.mul_le_mul_of_nonneg_left (by omega) (by omega)
  omega
theorem bd_up {m m' : Nat} (l : m ≤ m') : bd m ≤ bd m' := by
  induction m' with
  | zero => have : m = 0 := by omega
            subst this; exact Int.le_refl _
  | succ k ih =>
    by_cases e : m = k + 1
    · subst e; exact Int.le_refl _
    · have := ih (by omega)
      have := bd_2 k
      have := bd_ge k
      omega
theorem bd_mul {x y B : Int} (b : 0 ≤ B) (x1 : -B ≤ x) (x2 : x ≤ B) (y1 : -B ≤ y) (y2 : y ≤ B) : -(B * B) ≤ x * y ∧ x * y ≤ B * B := by
  have h1 : 0 ≤ (B - x) * (B + y) := Int.mul_nonneg (by omega) (by omega)
  have h2 : 0 ≤ (B + x) * (B - y) := Int.mul_nonneg (by omega) (by omega)
  have h3 : 0 ≤ (B - x) * (B - y) := Int.mul_nonneg (by omega) (by omega)
  have h4 : 0 ≤ (B + x) * (B + y) := Int.mul_nonneg (by omega) (by omega)
  simp only [Int.sub_mul, Int.mul_sub, Int.add_mul, Int.mul_add] at h1 h2 h3 h4
  have e1 : y * B = B * y := Int.mul_comm _ _
  have e2 : x * B = B * x := Int.mul_comm _ _
  omega
theorem TV.up {m m' : Nat} {t : tt} {v : D} (l : m ≤ m') (q : TV m t v) : TV m' t v := by
  have hb := bd_up l
  have hp : 2 ^ m ≤ 2 ^ m' := Nat.pow_le_pow_right (by omega) l
  cases t with
  | int =>
    obtain ⟨i, rfl, h1, h2⟩ := q
    exact ⟨i, rfl, by omega, by omega⟩
  | flag => exact q
  | word =>
    obtain ⟨s, rfl, h1⟩ := q
    exact ⟨s, rfl, h1.up (by omega)⟩
  | text =>
    obtain ⟨s, rfl, h1⟩ := q
    exact ⟨s, rfl, h1.up (by omega)⟩
theorem NodesOK.mono {m m' : Nat} {e : D} (q : NodesOK m e) (l : m ≤ m') : NodesOK m' e := fun n d h hd => q n d h (by omega)
structure GE (fs : List (List Nat × tt × D)) (m : Nat) (t : tt) (e : D) : Prop where
  tup : ∃ ys, e = .tup ys
  nodes : NodesOK (m + 1) e
  ev : EVP fs (m + 2) (TV m t) e
theorem sm_mul {m : Nat} (hm : m ≤ 1) (i j : Int) (pi : -bd m ≤ i ∧ i ≤ bd m) (_ : -bd m ≤ j ∧ j ≤ bd m) : (-18446744073709551616 < i ∧ i < 18446744073709551616) ∨ (-18446744073709551616 < j ∧ j < 18446744073709551616) := by
  have := bd_up hm
  have e : bd 1 = 1000000000000000000 := by decide
  omega
theorem sm_join {m : Nat} (hm : m ≤ 4) (i j : List Nat) (pi : SOK (40 * 2 ^ m) i) (pj : SOK (40 * 2 ^ m) j) : i.length + j.length ≤ 16777216 := by
  have h1 := pi.1
  have h2 := pj.1
  have : 2 ^ m ≤ 2 ^ 4 := Nat.pow_le_pow_right (by omega) hm
  omega
theorem sm_cut {m : Nat} (hm : m ≤ 4) (i : List Nat) (pi : SOK (40 * 2 ^ m) i) : i.length ≤ 16777216 := by
  have h1 := pi.1
  have : 2 ^ m ≤ 2 ^ 4 := Nat.pow_le_pow_right (by omega) hm
  omega
section
variable {fs : List (List Nat × tt × D)} {m : Nat} {t : tt} {a b c : D}
theorem GE.part (A : GE fs m t a) : partOK (m + 1) a := by
  obtain ⟨ys, e⟩ := A.tup
  exact .inl ⟨ys, e, A.nodes⟩
theorem GE.up (A : GE fs m t a) {m' : Nat} (l : m ≤ m') : GE fs m' t a := ⟨A.tup, A.nodes.mono (by omega), A.ev.mono (by omega) fun v q => q.up l⟩
theorem GE.int (A : GE fs m .int a) : EVI fs (m + 2) (fun i => -bd m ≤ i ∧ i ≤ bd m) a := A.ev
theorem GE.flag (A : GE fs m .flag a) : EVB fs (m + 2) a := A.ev
theorem GE.text (A : GE fs m .text a) : EVS fs (m + 2) (SOK (40 * 2 ^ m)) a := A.ev
theorem GE.word (A : GE fs m .word a) : EVS fs (m + 2) (SOK (40 * 2 ^ m)) a := A.ev
theorem ge_const {v : D} (q : TV 0 t v) : GE fs 0 t (.tup [.str t.s, v]) := by
  refine ⟨⟨_, rfl⟩, (nodes_ok (m := 0) ?_), (ev_const (P := TV 0 t) ?_ q).mono (by omega) fun v q => q⟩
  · intro p hp
    simp at hp
    subst hp
    cases t with
    | int => obtain ⟨i, rfl, _⟩ := q; exact .inr (.inl ⟨_, rfl⟩)
    | flag => obtain ⟨i, rfl⟩ := q; exact .inr (.inr (.inr ⟨_, rfl⟩))
    | word => obtain ⟨i, rfl, _⟩ := q; exact .inr (.inr (.inl ⟨_, rfl⟩))
    | text => obtain ⟨i, rfl, _⟩ := q; exact .inr (.inr (.inl ⟨_, rfl⟩))
  · cases t <;> simp [tt.s]
theorem ge_field (S : SchOK fs) {k : Nat} {f : List Nat × tt × D} (e : fs[k]? = some f) : GE fs 0 f.2.1 (.tup [.str [102, 105, 101, 108, 100], .str f.1]) := by
  refine ⟨⟨_, rfl⟩, nodes_ok (m := 0) ?_, (ev_field S e).mono (by omega) fun v q => q⟩
  intro p hp
  simp at hp
  subst hp
  exact .inr (.inr (.inl ⟨_, rfl⟩))
theorem ge_pick (A : GE fs m .flag a) (B : GE fs m t b) (C : GE fs m t c) : GE fs (m + 1) t (.tup [.str [112, 105, 99, 107], a, b, c]) := by
  refine ⟨⟨_, rfl⟩, nodes_ok ?_, (ev_pick (by omega) A.flag B.ev C.ev).mono (by omega) fun v q => q.up (by omega)⟩
  intro p hp
  simp at hp
  rcases hp with rfl | rfl | rfl
  · exact A.part
  · exact B.part
  · exact C.part
theorem ge_add (A : GE fs m .int a) (B : GE fs m .int b) : GE fs (m + 1) .int (.tup [.str [97, 100, 100], a, b]) := by
  refine ⟨⟨_, rfl⟩, nodes_ok ?_, (ev_add (by omega) A.int B.int).mono (by omega) ?_⟩
  · intro p hp
    simp at hp
    rcases hp with rfl | rfl
    · exact A.part
    · exact B.part
  · rintro v ⟨z, rfl, i, j, ⟨i1, i2⟩, ⟨j1, j2⟩, rfl⟩
    have b2 := bd_2 m
    have b0 := bd_ge m
    exact ⟨_, rfl, by omega, by omega⟩
theorem ge_sub (A : GE fs m .int a) (B : GE fs m .int b) : GE fs (m + 1) .int (.tup [.str [115, 117, 98], a, b]) := by
  refine ⟨⟨_, rfl⟩, nodes_ok ?_, (ev_sub (by omega) A.int B.int).mono (by omega) ?_⟩
  · intro p hp
    simp at hp
    rcases hp with rfl | rfl
    · exact A.part
    · exact B.part
  · rintro v ⟨z, rfl, i, j, ⟨i1, i2⟩, ⟨j1, j2⟩, rfl⟩
    have b2 := bd_2 m
    have b0 := bd_ge m
    exact ⟨_, rfl, by omega, by omega⟩
theorem ge_min (A : GE fs m .int a) (B : GE fs m .int b) : GE fs (m + 1) .int (.tup [.str [109, 105, 110], a, b]) := by
  refine ⟨⟨_, rfl⟩, nodes_ok ?_, (ev_min (by omega) A.int B.int).mono (by omega) ?_⟩
  · intro p hp
    simp at hp
    rcases hp with rfl | rfl
    · exact A.part
    · exact B.part
  · rintro v ⟨z, rfl, i, j, ⟨i1, i2⟩, ⟨j1, j2⟩, rfl⟩
    have b2 := bd_2 m
    have b0 := bd_ge m
    exact ⟨_, rfl, by split <;> omega, by split <;> omega⟩
theorem ge_max (A : GE fs m .int a) (B : GE fs m .int b) : GE fs (m + 1) .int (.tup [.str [109, 97, 120], a, b]) := by
  refine ⟨⟨_, rfl⟩, nodes_ok ?_, (ev_max (by omega) A.int B.int).mono (by omega) ?_⟩
  · intro p hp
    simp at hp
    rcases hp with rfl | rfl
    · exact A.part
    · exact B.part
  · rintro v ⟨z, rfl, i, j, ⟨i1, i2⟩, ⟨j1, j2⟩, rfl⟩
    have b2 := bd_2 m
    have b0 := bd_ge m
    exact ⟨_, rfl, by split <;> omega, by split <;> omega⟩
theorem ge_mul (hm : m ≤ 1) (A : GE fs m .int a) (B : GE fs m .int b) : GE fs (m + 1) .int (.tup [.str [109, 117, 108], a, b]) := by
  refine ⟨⟨_, rfl⟩, nodes_ok ?_, (ev_mul (by omega) A.int B.int (sm_mul hm)).mono (by omega) ?_⟩
  · intro p hp
    simp at hp
    rcases hp with rfl | rfl
    · exact A.part
    · exact B.part
  · rintro v ⟨z, rfl, i, j, ⟨i1, i2⟩, ⟨j1, j2⟩, rfl⟩
    have b2 := bd_2 m
    have b0 := bd_ge m
    have z := bd_mul (by omega) i1 i2 j1 j2
    exact ⟨_, rfl, z.1, z.2⟩
theorem ge_less (A : GE fs m .int a) (B : GE fs m .int b) : GE fs (m + 1) .flag (.tup [.str [108, 101, 115, 115], a, b]) := by
  refine ⟨⟨_, rfl⟩, nodes_ok ?_, (ev_less (by omega) A.int B.int).mono (by omega) ?_⟩
  · intro p hp
    simp at hp
    rcases hp with rfl | rfl
    · exact A.part
    · exact B.part
  · rintro v ⟨z, rfl⟩
    exact ⟨_, rfl⟩
theorem ge_sameI (A : GE fs m .int a) (B : GE fs m .int b) : GE fs (m + 1) .flag (.tup [.str [115, 97, 109, 101], a, b]) := by
  refine ⟨⟨_, rfl⟩, nodes_ok ?_, (ev_sameI (by omega) A.int B.int).mono (by omega) ?_⟩
  · intro p hp
    simp at hp
    rcases hp with rfl | rfl
    · exact A.part
    · exact B.part
  · rintro v ⟨z, rfl⟩
    exact ⟨_, rfl⟩
theorem ge_sameB (A : GE fs m .flag a) (B : GE fs m .flag b) : GE fs (m + 1) .flag (.tup [.str [115, 97, 109, 101], a, b]) := by
  refine ⟨⟨_, rfl⟩, nodes_ok ?_, (ev_sameB (by omega) A.flag B.flag).mono (by omega) ?_⟩
  · intro p hp
    simp at hp
    rcases hp with rfl | rfl
    · exact A.part
    · exact B.part
  · rintro v ⟨z, rfl⟩
    exact ⟨_, rfl⟩
theorem ge_sameW (A : GE fs m .word a) (B : GE fs m .word b) : GE fs (m + 1) .flag (.tup [.str [115, 97, 109, 101], a, b]) := by
  refine ⟨⟨_, rfl⟩, nodes_ok ?_, (ev_sameS (by omega) A.word B.word).mono (by omega) ?_⟩
  · intro p hp
    simp at hp
    rcases hp with rfl | rfl
    · exact A.part
    · exact B.part
  · rintro v ⟨z, rfl⟩
    exact ⟨_, rfl⟩
theorem ge_sameT (A : GE fs m .text a) (B : GE fs m .text b) : GE fs (m + 1) .flag (.tup [.str [115, 97, 109, 101], a, b]) := by
  refine ⟨⟨_, rfl⟩, nodes_ok ?_, (ev_sameS (by omega) A.text B.text).mono (by omega) ?_⟩
  · intro p hp
    simp at hp
    rcases hp with rfl | rfl
    · exact A.part
    · exact B.part
  · rintro v ⟨z, rfl⟩
    exact ⟨_, rfl⟩
theorem ge_and (A : GE fs m .flag a) (B : GE fs m .flag b) : GE fs (m + 1) .flag (.tup [.str [97, 110, 100], a, b]) := by
  refine ⟨⟨_, rfl⟩, nodes_ok ?_, (ev_and (by omega) A.flag B.flag).mono (by omega) ?_⟩
  · intro p hp
    simp at hp
    rcases hp with rfl | rfl
    · exact A.part
    · exact B.part
  · rintro v ⟨z, rfl⟩
    exact ⟨_, rfl⟩
theorem ge_or (A : GE fs m .flag a) (B : GE fs m .flag b) : GE fs (m + 1) .flag (.tup [.str [111, 114], a, b]) := by
  refine ⟨⟨_, rfl⟩, nodes_ok ?_, (ev_or (by omega) A.flag B.flag).mono (by omega) ?_⟩
  · intro p hp
    simp at hp
    rcases hp with rfl | rfl
    · exact A.part
    · exact B.part
  · rintro v ⟨z, rfl⟩
    exact ⟨_, rfl⟩
theorem ge_join (hm : m ≤ 4) (A : GE fs m .text a) (B : GE fs m .text b) : GE fs (m + 1) .text (.tup [.str [106, 111, 105, 110], a, b]) := by
  refine ⟨⟨_, rfl⟩, nodes_ok ?_, (ev_join (by omega) A.text B.text (sm_join hm)).mono (by omega) ?_⟩
  · intro p hp
    simp at hp
    rcases hp with rfl | rfl
    · exact A.part
    · exact B.part
  · rintro v ⟨z, rfl, i, j, hi, hj, rfl⟩
    exact ⟨_, rfl, (hi.app hj).up (by simp [Nat.pow_succ]; omega)⟩
theorem ge_same (A : GE fs m t a) (B : GE fs m t b) : GE fs (m + 1) .flag (.tup [.str [115, 97, 109, 101], a, b]) := by
  cases t with
  | int => exact ge_sameI A B
  | flag => exact ge_sameB A B
  | word => exact ge_sameW A B
  | text => exact ge_sameT A B
theorem ge_not (A : GE fs m .flag a) : GE fs (m + 1) .flag (.tup [.str [110, 111, 116], a]) := by
  refine ⟨⟨_, rfl⟩, nodes_ok ?_, (ev_not (by omega) A.flag).mono (by omega) ?_⟩
  · intro p hp
    simp at hp
    rcases hp with rfl
    · exact A.part
  · rintro v ⟨z, rfl⟩
    exact ⟨_, rfl⟩
theorem ge_div {k : Int} (k1 : 1 ≤ k) (k9 : k ≤ 9) (A : GE fs m .int a) : GE fs (m + 1) .int (.tup [.str [100, 105, 118], a, .int k]) := by
  refine ⟨⟨_, rfl⟩, nodes_ok ?_, (ev_div (by omega) A.int k1 k9).mono (by omega) ?_⟩
  · intro p hp
    simp at hp
    rcases hp with rfl | rfl
    · exact A.part
    · exact .inr (.inl ⟨_, rfl⟩)
  · rintro v ⟨z, rfl, i, ⟨i1, i2⟩, rfl⟩
    have b2 := bd_2 m
    have b0 := bd_ge m
    have hk : k = 1 ∨ k = 2 ∨ k = 3 ∨ k = 4 ∨ k = 5 ∨ k = 6 ∨ k = 7 ∨ k = 8 ∨ k = 9 := by omega
    rcases hk with rfl | rfl | rfl | rfl | rfl | rfl | rfl | rfl | rfl
    all_goals exact ⟨_, rfl, by omega, by omega⟩
theorem ge_mod {k : Int} (k1 : 1 ≤ k) (k9 : k ≤ 9) (A : GE fs m .int a) : GE fs (m + 1) .int (.tup [.str [109, 111, 100], a, .int k]) := by
  refine ⟨⟨_, rfl⟩, nodes_ok ?_, (ev_mod (by omega) A.int k1 k9).mono (by omega) ?_⟩
  · intro p hp
    simp at hp
    rcases hp with rfl | rfl
    · exact A.part
    · exact .inr (.inl ⟨_, rfl⟩)
  · rintro v ⟨z, rfl, i, ⟨i1, i2⟩, rfl⟩
    have b2 := bd_2 m
    have b0 := bd_ge m
    have hk : k = 1 ∨ k = 2 ∨ k = 3 ∨ k = 4 ∨ k = 5 ∨ k = 6 ∨ k = 7 ∨ k = 8 ∨ k = 9 := by omega
    rcases hk with rfl | rfl | rfl | rfl | rfl | rfl | rfl | rfl | rfl
    all_goals exact ⟨_, rfl, by omega, by omega⟩
theorem ge_cut {k : Int} (hm : m ≤ 4) (A : GE fs m .text a) : GE fs (m + 1) .text (.tup [.str [99, 117, 116], a, .int k]) := by
  refine ⟨⟨_, rfl⟩, nodes_ok ?_, (ev_cut (by omega) A.text (sm_cut hm)).mono (by omega) ?_⟩
  · intro p hp
    simp at hp
    rcases hp with rfl | rfl
    · exact A.part
    · exact .inr (.inl ⟨_, rfl⟩)
  · rintro v ⟨z, rfl, i, hi, rfl⟩
    exact ⟨_, rfl, (hi.cut none (some k)).up (by simp [Nat.pow_succ]; omega)⟩
end
end LW

set_option Elab.async false
set_option linter.all false
set_option maxRecDepth 100000
set_option maxHeartbeats 0
namespace LW
open PySem DN
theorem kind_head {t : tt} {k : D} {h : Hs} {Q : D → Hs → Prop} (q : KindOK t k) : OkR (opIx k (.int 0) h) Q = Q (.str t.s) h := by
  cases t with
  | int => obtain ⟨lo, hi, rfl, _⟩ := q; simp [tt.s]
  | flag => cases q; simp [tt.s]
  | word => obtain ⟨ws, rfl, _⟩ := q; simp [tt.s]
  | text => obtain ⟨m, rfl, _⟩ := q; simp [tt.s]
theorem tts_inj {t u : tt} (e : t.s = u.s) : t = u := by
  cases t <;> cases u <;> first | rfl | (exact absurd e (by decide))
section
variable {n d : Nat} {h : Hs} {fs : List (List Nat × tt × D)}
def I13 (fs : List (List Nat × tt × D)) (t : tt) (h : Hs) (rest acc : List D) (h' : Hs) : Prop := ∃ fs1 fs2, fs = fs1 ++ fs2 ∧ rest = fs2.map fD ∧ h' = h ∧ acc.length ≤ fs1.length ∧ ∀ v ∈ acc, ∃ (k : Nat) (f : List Nat × tt × D), fs[k]? = some f ∧ f.2.1 = t ∧ v = .str f.1
theorem leaf_ok {t : tt} {i : Int} (S : SchOK fs) (h0 : 0 ≤ i) : OkR (K n (d + 1) 13 [SC fs, .str t.s, .int i] h) fun v h' => h' = h ∧ GE fs 0 t v := by
  have l8 := S.le
  rw [c13]
  unfold b13
  simp [SC]
  refine lc_t (I13 fs t h) ⟨[], fs, rfl, rfl, rfl, by simp, by simp⟩ ?_ ?_
  · rintro x xs acc h' ⟨fs1, fs2, e, er, rfl, la, qa⟩
    cases fs2 with
    | nil => cases er
    | cons f fs2 =>
      cases er
      have kf := S.ok f (by rw [e]; simp)
      have ef : fs[fs1.length]? = some f := by rw [e]; simp
      simp [wipeE, cTg, fD, kind_head kf]
      split
      · rename_i hf
        refine ⟨fs1 ++ [f], fs2, by simp [e], rfl, rfl, by simp; omega, ?_⟩
        intro v hv
        simp at hv
        rcases hv with hv | rfl
        · exact qa v hv
        · exact ⟨_, f, ef, tts_inj hf, rfl⟩
      · exact ⟨fs1 ++ [f], fs2, by simp [e], rfl, rfl, by simp; omega, qa⟩
  · rintro ys h' ⟨fs1, fs2, e, er, rfl, la, qa⟩
    have lf : fs1.length ≤ fs.length := by rw [e]; simp
    simp
    refine ⟨by omega, ?_⟩
    have tail : (if t.s = [105, 110, 116] then
        opt (ixat [D.int 0, D.int 1, D.int (-1), D.int 7, D.int (-12), D.int 1000000000, D.int 50] (i / 3 % 7)) fun v =>
          GE fs 0 t (D.tup [D.str [105, 110, 116], v])
      else
        if t.s = [102, 108, 97, 103] then GE fs 0 t (D.tup [D.str [102, 108, 97, 103], D.bl (decide (i / 3 % 2 = 1))])
        else
          if t.s = [119, 111, 114, 100] then
            opt
              (ixat [D.str [110, 101, 119], D.str [111, 108, 100], D.str [108, 111, 115, 116], D.str [122, 122]]
                (i / 3 % 4))
              fun v => GE fs 0 t (D.tup [D.str [119, 111, 114, 100], v])
          else
            opt (ixat [D.str [], D.str [97, 98], D.str [120, 32, 121, 59, 123], D.str [113, 39, 49]] (i / 3 % 4))
              fun v => GE fs 0 t (D.tup [D.str [116, 101, 120, 116], v])) := by
      cases t with
      | int =>
        simp [tt.s]
        refine opt_ix (by omega) (by simp; omega) ?_
        intro v hv
        refine ge_const (t := .int) ?_
        simp at hv
        rcases hv with rfl | rfl | rfl | rfl | rfl | rfl | rfl
        all_goals exact ⟨_, rfl, by decide, by decide⟩
      | flag =>
        simp [tt.s]
        exact ge_const (t := .flag) ⟨_, rfl⟩
      | word =>
        simp [tt.s]
        refine opt_ix (by omega) (by simp; omega) ?_
        intro v hv
        refine ge_const (t := .word) ?_
        simp at hv
        rcases hv with rfl | rfl | rfl | rfl
        all_goals exact ⟨_, rfl, by decide, by decide⟩
      | text =>
        simp [tt.s]
        refine opt_ix (by omega) (by simp; omega) ?_
        intro v hv
        refine ge_const (t := .text) ?_
        simp at hv
        rcases hv with rfl | rfl | rfl | rfl
        all_goals exact ⟨_, rfl, by decide, by decide⟩
    split
    · rename_i hy
      have hy1 : ys ≠ [] := by rintro rfl; simp at hy
      have e2 : 0 ≤ i / 3 % (ys.length : Int) := Int.emod_nonneg _ (by omega)
      have e3 : i / 3 % (ys.length : Int) < ys.length := Int.emod_lt_of_pos _ (by omega)
      split
      · refine ⟨hy1, opt_ix e2 e3 ?_⟩
        intro v hv
        obtain ⟨k, f, ef, et, rfl⟩ := qa v hv
        subst et
        exact ge_field S ef
      · exact tail
    · exact tail
def I14 (fs : List (List Nat × tt × D)) (m : Nat) (t : tt) (p : Nat) (h : Hs) (rest acc : List D) (h' : Hs) : Prop := Dr p h' ∧ Fr p h h' ∧
  ((rest = [.str tt.flag.s, .str t.s, .str t.s] ∧ acc = []) ∨ (∃ a, GE fs m .flag a ∧ rest = [.str t.s, .str t.s] ∧ acc = [a]) ∨ (∃ a b, GE fs m .flag a ∧ GE fs m t b ∧ rest = [.str t.s] ∧ acc = [a, b]) ∨ ∃ a b c, GE fs m .flag a ∧ GE fs m t b ∧ GE fs m t c ∧ rest = [] ∧ acc = [a, b, c])
theorem expr_ok {p : Nat} (S : SchOK fs) : ∀ (m : Nat), m ≤ 2 → ∀ (t : tt) (d : Nat) (h : Hs), m + 2 ≤ d → Dr p h → OkR (K n d 14 [SC fs, .str t.s, .ref p, .int m] h) fun v h' => GE fs m t v ∧ Dr p h' ∧ Fr p h h' := by
  intro m
  induction m with
  | zero =>
    intro _ t d h hd q
    obtain ⟨d, rfl⟩ : ∃ e, d = e + 2 := ⟨d - 2, by omega⟩
    rw [c14]
    unfold b14
    simp
    refine (next_ok q).mono ?_
    rintro _ h1 ⟨i, rfl, i0, q1, f1⟩
    simp
    refine (leaf_ok S (by omega)).mono ?_
    rintro v h2 ⟨rfl, g⟩
    exact ⟨g, q1, f1⟩
  | succ m ih =>
    intro hm t d h hd q
    obtain ⟨d, rfl⟩ : ∃ e, d = e + 2 := ⟨d - 2, by omega⟩
    have im : ((m : Int) + 1 = 0) = False := eq_false (by omega)
    rw [c14]
    unfold b14
    simp
    refine (next_ok q).mono ?_
    rintro _ h1 ⟨i, rfl, i0, ⟨ns, e1, nn⟩, f1⟩
    have q1 : Dr p h1 := ⟨ns, e1, nn⟩
    simp [im, e1]
    have lf : OkR (K n (d + 1) 13 [SC fs, D.str t.s, D.int (i / 4)] h1) fun v h' => GE fs (m + 1) t v ∧ Dr p h' ∧ Fr p h h' := by
      refine (leaf_ok S (by omega)).mono ?_
      rintro v h2 ⟨rfl, g⟩
      exact ⟨g.up (by omega), q1, f1⟩
    have one : ∀ (u : tt) (R : D → Prop), (∀ x, GE fs m u x → R x) → OkR (K n (d + 1) 14 [SC fs, D.str u.s, D.ref p, D.int m] h1) fun x h2 => R x ∧ Dr p h2 ∧ Fr p h h2 := by
      intro u R hR
      refine (ih (by omega) u (d + 1) h1 (by omega) q1).mono ?_
      rintro x h2 ⟨g, q2, f2⟩
      exact ⟨hR x g, q2, f1.trans f2⟩
    have two : ∀ (u : tt) (R : D → D → Prop), (∀ x y, GE fs m u x → GE fs m u y → R x y) → OkR (K n (d + 1) 14 [SC fs, D.str u.s, D.ref p, D.int m] h1) fun x h2 => OkR (K n (d + 1) 14 [SC fs, D.str u.s, D.ref p, D.int m] h2) fun y h3 => R x y ∧ Dr p h3 ∧ Fr p h h3 := by
      intro u R hR
      refine (ih (by omega) u (d + 1) h1 (by omega) q1).mono ?_
      rintro x h2 ⟨g, q2, f2⟩
      refine (ih (by omega) u (d + 1) h2 (by omega) q2).mono ?_
      rintro y h3 ⟨g3, q3, f3⟩
      exact ⟨hR x y g g3, q3, (f1.trans f2).trans f3⟩
    by_cases h4 : i % 4 = 0
    · rw [if_pos h4]
      exact lf
    rw [if_neg h4]
    by_cases h5 : ns = []
    · rw [if_pos h5]
      exact lf
    rw [if_neg h5]
    by_cases h6 : i % 16 = 1
    · rw [if_pos h6]
      refine lc_t (I14 fs m t p h) ⟨q1, f1, .inl ⟨rfl, rfl⟩⟩ ?_ ?_
      · rintro x xs acc h' ⟨q', f', z⟩
        rcases z with ⟨e, rfl⟩ | ⟨a, ga, e, rfl⟩ | ⟨a, b, ga, gb, e, rfl⟩ | ⟨_, _, _, _, _, _, e, _⟩
        · cases e
          simp [wipeE, cTg]
          refine (ih (by omega) .flag (d + 1) h' (by omega) q').mono ?_
          rintro x h2 ⟨g, q2, f2⟩
          exact ⟨q2, f'.trans f2, .inr (.inl ⟨x, g, rfl, rfl⟩)⟩
        · cases e
          simp [wipeE, cTg]
          refine (ih (by omega) t (d + 1) h' (by omega) q').mono ?_
          rintro x h2 ⟨g, q2, f2⟩
          exact ⟨q2, f'.trans f2, .inr (.inr (.inl ⟨a, x, ga, g, rfl, rfl⟩))⟩
        · cases e
          simp [wipeE, cTg]
          refine (ih (by omega) t (d + 1) h' (by omega) q').mono ?_
          rintro x h2 ⟨g, q2, f2⟩
          exact ⟨q2, f'.trans f2, .inr (.inr (.inr ⟨a, b, x, ga, gb, g, rfl, rfl⟩))⟩
        · cases e
      · rintro ys h' ⟨q', f', z⟩
        rcases z with ⟨e, rfl⟩ | ⟨a, ga, e, rfl⟩ | ⟨a, b, ga, gb, e, rfl⟩ | ⟨a, b, c, ga, gb, gc, _, rfl⟩
        · cases e
        · cases e
        · cases e
        · simp
          exact ⟨ge_pick ga gb gc, q', f'⟩
    rw [if_neg h6]
    cases t with
    | int =>
      simp [tt.s]
      split
      · refine opt_ix (by omega) (by simp; omega) ?_
        simp
        exact ⟨one .int _ fun x g => ge_div (by omega) (by omega) g, one .int _ fun x g => ge_mod (by omega) (by omega) g⟩
      · refine opt_ix (by omega) (by simp; omega) ?_
        intro v hv
        simp at hv
        rcases hv with rfl | rfl | rfl | rfl | rfl | rfl
        · exact two .int _ fun x y g g' => ge_add g g'
        · exact two .int _ fun x y g g' => ge_sub g g'
        · exact two .int _ fun x y g g' => ge_mul (by omega) g g'
        · exact two .int _ fun x y g g' => ge_min g g'
        · exact two .int _ fun x y g g' => ge_max g g'
        · exact two .int _ fun x y g g' => ge_add g g'
    | flag =>
      simp [tt.s]
      split
      · exact one .flag _ fun x g => ge_not g
      · refine opt_ix (by omega) (by simp; omega) ?_
        intro v hv
        simp at hv
        rcases hv with rfl | rfl | rfl | rfl
        · simp
          exact two .int _ fun x y g g' => ge_less g g'
        · simp
          refine opt_ix (by omega) (by simp; omega) ?_
          intro v hv
          simp at hv
          rcases hv with rfl | rfl | rfl | rfl
          · exact two .int _ fun x y g g' => ge_same g g'
          · exact two .flag _ fun x y g g' => ge_same g g'
          · exact two .word _ fun x y g g' => ge_same g g'
          · exact two .text _ fun x y g g' => ge_same g g'
        · simp
          exact two .flag _ fun x y g g' => ge_and g g'
        · simp
          exact two .flag _ fun x y g g' => ge_or g g'
    | word =>
      simp [tt.s]
      exact lf
    | text =>
      simp [tt.s]
      split
      · exact one .text _ fun x g => ge_cut (by omega) g
      · exact two .text _ fun x y g g' => ge_join (by omega) g g'
end
end LW

set_option Elab.async false
set_option linter.all false
set_option maxRecDepth 100000
set_option maxHeartbeats 0
namespace LW
open PySem DN
theorem cut_lenS {α : Type} (s : List α) {m : Int} (m0 : 0 ≤ m) (hm : m ≤ 40) : (cutD s none (some m)).length ≤ 40 := by
  unfold cutD sixD
  have e : ¬ m < 0 := by omega
  simp [e]
  omega
def GSet (fs : List (List Nat × tt × D)) (s : D) : Prop := ∃ (k : Nat) (f : List Nat × tt × D) (e : D), fs[k]? = some f ∧ s = .tup [.str [115, 101, 116], .str f.1, e] ∧ NodesOK 8 e ∧ EVP fs 8 (TV 0 f.2.1) e
def GS (fs : List (List Nat × tt × D)) : Nat → D → Prop
  | 0, s => s = D.tup [D.str [115, 107, 105, 112]] ∨ GSet fs s
  | m + 1, s => s = D.tup [D.str [115, 107, 105, 112]] ∨ GSet fs s ∨ ∃ c as bs, s = .tup [.str [105, 102], c, .tup as, .tup bs] ∧ GE fs 2 .flag c ∧ (∀ x ∈ as, GS fs m x) ∧ ∀ x ∈ bs, GS fs m x
theorem GS.skip {fs : List (List Nat × tt × D)} {m : Nat} : GS fs m (D.tup [D.str [115, 107, 105, 112]]) := by
  cases m with
  | zero => exact .inl rfl
  | succ m => exact .inl rfl
theorem GS.set {fs : List (List Nat × tt × D)} {m : Nat} {s : D} (q : GSet fs s) : GS fs m s := by
  cases m with
  | zero => exact .inr q
  | succ m => exact .inr (.inl q)
section
variable {n : Nat} {fs : List (List Nat × tt × D)}
theorem set_ok {p d : Nat} {h : Hs} (S : SchOK fs) (hd : 5 ≤ d) (q : Dr p h) : OkR (K n d 15 [SC fs, .ref p, .int 2] h) fun v h' => GSet fs v ∧ Dr p h' ∧ Fr p h h' := by
  obtain ⟨d, rfl⟩ : ∃ e, d = e + 2 := ⟨d - 2, by omega⟩
  have hl : 0 < fs.length := List.length_pos_iff.mpr S.ne
  rw [c15]
  unfold b15
  simp
  refine (next_ok q).mono ?_
  rintro _ h1 ⟨i, rfl, i0, q1, f1⟩
  have e2 : 0 ≤ i % (fs.length : Int) := Int.emod_nonneg _ (by omega)
  have e3 : i % (fs.length : Int) < fs.length := Int.emod_lt_of_pos _ (by omega)
  simp [SC, S.ne]
  refine opt_ix e2 (by simpa using e3) ?_
  intro v hv
  simp only [List.mem_map] at hv
  obtain ⟨f, hf, rfl⟩ := hv
  obtain ⟨k, ef⟩ := List.getElem?_of_mem hf
  have kf := S.ok f hf
  obtain ⟨nm, t, kd⟩ := f
  have kf : KindOK t kd := kf
  simp [fD, kind_head kf]
  refine (expr_ok S 2 (by omega) t (d + 1) h1 (by omega) q1).mono ?_
  rintro e h2 ⟨g, q2, f2⟩
  cases t with
  | int =>
    obtain ⟨lo, hi, rfl, l1, l2, l3⟩ := kf
    simp [tt.s]
    refine ⟨⟨k, _, _, ef, rfl, ?_, ?_⟩, q2, f1.trans f2⟩
    · refine (nodes_ok (m := 4) ?_).mono (by omega)
      intro p hp
      simp at hp
      rcases hp with rfl | rfl
      · refine .inl ⟨_, rfl, (nodes_ok (m := 3) ?_)⟩
        intro p hp
        simp at hp
        rcases hp with rfl | rfl
        · exact g.part
        · refine .inl ⟨_, rfl, (nodes_ok (m := 2) ?_)⟩
          intro p hp
          simp at hp
          subst hp
          exact .inr (.inl ⟨_, rfl⟩)
      · refine .inl ⟨_, rfl, (nodes_ok (m := 3) ?_)⟩
        intro p hp
        simp at hp
        subst hp
        exact .inr (.inl ⟨_, rfl⟩)
    · have cl : EVI fs 4 (fun z => z = lo) (.tup [.str tt.int.s, .int lo]) := (ev_const (P := fun v => ∃ i, v = .int i ∧ i = lo) (by simp [tt.s]) ⟨_, rfl, rfl⟩).mono (by omega) fun v q => q
      have ch : EVI fs 5 (fun z => z = hi) (.tup [.str tt.int.s, .int hi]) := (ev_const (P := fun v => ∃ i, v = .int i ∧ i = hi) (by simp [tt.s]) ⟨_, rfl, rfl⟩).mono (by omega) fun v q => q
      refine (ev_min (by omega) (ev_max (by omega) g.int cl) ch).mono (by omega) ?_
      rintro v ⟨z, rfl, i, j, ⟨a, b, _, rfl, rfl⟩, rfl, rfl⟩
      exact ⟨_, rfl, by simp [bd]; split <;> split <;> omega, by simp [bd]; split <;> split <;> omega⟩
  | flag =>
    cases kf
    simp [tt.s]
    exact ⟨⟨k, _, _, ef, rfl, g.nodes.mono (by omega), g.ev.mono (by omega) fun v q => q⟩, q2, f1.trans f2⟩
  | text =>
    obtain ⟨m, rfl, m0, m1⟩ := kf
    simp [tt.s]
    refine ⟨⟨k, _, _, ef, rfl, ?_, ?_⟩, q2, f1.trans f2⟩
    · refine (nodes_ok (m := 3) ?_).mono (by omega)
      intro p hp
      simp at hp
      rcases hp with rfl | rfl
      · exact g.part
      · exact .inr (.inl ⟨_, rfl⟩)
    · refine (ev_cut (by omega) g.text (sm_cut (by omega))).mono (by omega) ?_
      rintro v ⟨z, rfl, s, hs, rfl⟩
      exact ⟨_, rfl, cut_lenS s m0 m1, (hs.cut none (some m)).2⟩
  | word =>
    obtain ⟨ws, rfl, ne, l⟩ := kf
    have hl2 : 0 < ws.length := List.length_pos_iff.mpr ne
    simp [tt.s]
    refine (next_ok q2).mono ?_
    rintro _ h3 ⟨i3, rfl, i30, q3, f3⟩
    have e4 : 0 ≤ i3 % (ws.length : Int) := Int.emod_nonneg _ (by omega)
    have e5 : i3 % (ws.length : Int) < ws.length := Int.emod_lt_of_pos _ (by omega)
    simp [ne]
    refine opt_ix e4 (by simpa using e5) ?_
    intro w hw
    simp only [List.mem_map] at hw
    obtain ⟨s, hs, rfl⟩ := hw
    have gw : GE fs 0 .word (.tup [.str tt.word.s, .str s]) := ge_const (t := .word) ⟨s, rfl, l s hs⟩
    refine (next_ok q3).mono ?_
    rintro _ h4 ⟨i4, rfl, i40, q4, f4⟩
    have ff := ((f1.trans f2).trans f3).trans f4
    simp
    split
    · refine (expr_ok S 1 (by omega) .flag (d + 1) h4 (by omega) q4).mono ?_
      rintro e h5 ⟨g5, q5, f5⟩
      have gf := ge_field S ef
      refine ⟨⟨k, _, _, ef, rfl, (ge_pick g5 (gw.up (by omega)) (gf.up (by omega))).nodes.mono (by omega), ?_⟩, q5, ff.trans f5⟩
      exact (ev_pick (M := 3) (P := TV 0 .word) (by omega) g5.flag (gw.ev.mono (by omega) fun v q => q) (gf.ev.mono (by omega) fun v q => q)).mono (by omega) fun v q => q
    · exact ⟨⟨k, _, _, ef, rfl, gw.nodes.mono (by omega), gw.ev.mono (by omega) fun v q => q⟩, q4, ff⟩
end
end LW

set_option Elab.async false
set_option linter.all false
set_option maxRecDepth 100000
set_option maxHeartbeats 0
namespace LW
open PySem DN
def I16 (fs : List (List Nat × tt × D)) (m p : Nat) (h : Hs) (rest : List D) (σ : DN.Env) (h' : Hs) : Prop := ∃ (ss : List D) (u4 u5 u6 u7 : Option D), ss.length + rest.length ≤ 3 ∧ (∀ s ∈ ss, GS fs m s) ∧ Dr p h' ∧ Fr p h h' ∧ h'[h.length]? = some (.lst ss) ∧ σ = [some (SC fs), some (.ref p), some (.int m), some (.ref h.length), u4, u5, u6, u7]
section
variable {n : Nat} {fs : List (List Nat × tt × D)}
theorem rngL_len (i : Int) (k : Nat) : (rngL i k).length = k := by
  induction k generalizing i with
  | zero => rfl
  | succ k ih => show (rngL (i + 1) k).length + 1 = _; rw [ih]
theorem I16.put {m p : Nat} {h h1 h2 : Hs} {rest ss : List D} {s : D} {u4 u5 u6 u7 : Option D} (pl : p < h.length) (l : ss.length + (rest.length + 1) ≤ 3) (g : ∀ s ∈ ss, GS fs m s) (f : Fr p h h1) (e : h1[h.length]? = some (.lst ss)) (f2 : Fr p h1 h2) (q2 : Dr p h2) (gs : GS fs m s) :
    ocase h2[h.length]? (fun xs => xs.length < 16777216 ∧ I16 fs m p h rest [some (SC fs), some (.ref p), some (.int m), some (.ref h.length), u4, u5, u6, u7] (h2.set h.length (.lst (xs ++ [s])))) fun _ => False := by
  have e2 := f2.at_ e (by omega)
  rw [e2]
  show ss.length < 16777216 ∧ _
  refine ⟨by omega, ss ++ [s], u4, u5, u6, u7, by simp; omega, ?_, q2.set (by omega) _, (f.trans f2).set_hi (Nat.le_refl _) _, ?_, rfl⟩
  · intro x hx
    simp at hx
    rcases hx with hx | rfl
    · exact g x hx
    · exact gs
  · rw [List.getElem?_set_self (lt_of_at e2)]
theorem made_ok {p : Nat} (S : SchOK fs) : ∀ (m : Nat), m ≤ 2 → ∀ (d : Nat) (h : Hs), m + 6 ≤ d → Dr p h → OkR (K n d 16 [SC fs, .ref p, .int m] h) fun v h' => (∃ ss, v = .tup ss ∧ ∀ s ∈ ss, GS fs m s) ∧ Dr p h' ∧ Fr p h h' := by
  intro m
  induction m with
  | zero =>
    intro _ d h hd q
    have pl := q.lt
    obtain ⟨d, rfl⟩ : ∃ e, d = e + 2 := ⟨d - 2, by omega⟩
    rw [c16]
    unfold b16
    simp
    refine (next_ok (q.app _)).mono ?_
    rintro _ h1 ⟨i, rfl, i0, q1, f1⟩
    have e1 : h1[h.length]? = some (.lst []) := f1.at_ (by simp) (by omega)
    simp
    refine ⟨by omega, ?_⟩
    refine loop_t (I16 fs 0 p h) ⟨[], _, _, _, _, by simp [rngL_len]; omega, by simp, q1, f1.of_app, e1, rfl⟩ ?_ ?_
    · rintro σ h' ⟨ss, u4, u5, u6, u7, l, g, q', f', e', rfl⟩
      simp at l
      simp [e']
      exact ⟨by omega, g, q', f'⟩
    · rintro x rest σ h' ⟨ss, u4, u5, u6, u7, l, g, q', f', e', rfl⟩
      simp at l
      simp
      refine (next_ok q').mono ?_
      rintro _ h2 ⟨j, rfl, j0, q2, f2⟩
      have e2 := f2.at_ e' (by omega)
      simp [e2]
      split
      · simpa [e2] using I16.put (u4 := some x) (u5 := some (.int j)) (u6 := u6) (u7 := u7) pl l g f' e' f2 q2 GS.skip
      · refine (set_ok S (by omega) q2).mono ?_
        rintro v h3 ⟨gs, q3, f3⟩
        exact I16.put pl l g f' e' (f2.trans f3) q3 (.set gs)
  | succ m ih =>
    intro hm d h hd q
    have pl := q.lt
    obtain ⟨d, rfl⟩ : ∃ e, d = e + 2 := ⟨d - 2, by omega⟩
    have im : (0 < (m : Int) + 1) = True := eq_true (by omega)
    rw [c16]
    unfold b16
    simp [im]
    refine (next_ok (q.app _)).mono ?_
    rintro _ h1 ⟨i, rfl, i0, q1, f1⟩
    have e1 : h1[h.length]? = some (.lst []) := f1.at_ (by simp) (by omega)
    simp
    refine ⟨by omega, ?_⟩
    refine loop_t (I16 fs (m + 1) p h) ⟨[], _, _, _, _, by simp [rngL_len]; omega, by simp, q1, f1.of_app, e1, rfl⟩ ?_ ?_
    · rintro σ h' ⟨ss, u4, u5, u6, u7, l, g, q', f', e', rfl⟩
      simp at l
      simp [e']
      exact ⟨by omega, g, q', f'⟩
    · rintro x rest σ h' ⟨ss, u4, u5, u6, u7, l, g, q', f', e', rfl⟩
      simp at l
      simp
      refine (next_ok q').mono ?_
      rintro _ h2 ⟨j, rfl, j0, q2, f2⟩
      have e2 := f2.at_ e' (by omega)
      simp [e2, im]
      split
      · refine (expr_ok S 2 (by omega) .flag (d + 1) h2 (by omega) q2).mono ?_
        rintro c h3 ⟨gc, q3, f3⟩
        refine (ih (by omega) (d + 1) h3 (by omega) q3).mono ?_
        rintro _ h4 ⟨⟨as, rfl, ga⟩, q4, f4⟩
        have f24 := (f2.trans f3).trans f4
        have e4 := f24.at_ e' (by omega)
        simp [e4]
        refine (ih (by omega) (d + 1) h4 (by omega) q4).mono ?_
        rintro _ h5 ⟨⟨bs, rfl, gb⟩, q5, f5⟩
        exact I16.put pl l g f' e' (f24.trans f5) q5 (.inr (.inr ⟨c, as, bs, rfl, gc, ga, gb⟩))
      · split
        · simpa [e2] using I16.put (u4 := some x) (u5 := some (.int j)) (u6 := u6) (u7 := u7) pl l g f' e' f2 q2 GS.skip
        · refine (set_ok S (by omega) q2).mono ?_
          rintro v h3 ⟨gs, q3, f3⟩
          exact I16.put pl l g f' e' (f2.trans f3) q3 (.set gs)
end
end LW

set_option Elab.async false
set_option linter.all false
set_option maxRecDepth 100000
set_option maxHeartbeats 0
namespace LW
open PySem DN
def I18 (P : D) (m : Nat) (fs : List (List Nat × tt × D)) (h : Hs) (rest : List D) (σ : DN.Env) (h' : Hs) : Prop := ∃ (k : Int) (u : Option D), h' = h ∧ σ = [some P, some (.int k), u] ∧ ∀ s ∈ rest, GS fs m s
section
variable {n : Nat} {fs : List (List Nat × tt × D)}
theorem size_ok : ∀ (m : Nat) (ss : List D) (d : Nat) (h : Hs), m + 9 ≤ d → (∀ s ∈ ss, GS fs m s) → OkR (K n d 18 [.tup ss] h) fun v h' => h' = h ∧ ∃ k : Int, v = .int k := by
  intro m
  induction m with
  | zero =>
    intro ss d h hd g
    obtain ⟨d, rfl⟩ : ∃ e, d = e + 1 := ⟨d - 1, by omega⟩
    rw [c18]
    unfold b18
    simp
    refine loop_t (I18 (.tup ss) 0 fs h) ⟨0, none, rfl, rfl, g⟩ ?_ ?_
    · rintro σ h' ⟨k, u, rfl, rfl, _⟩
      simp
    · rintro x rest σ h' ⟨k, u, rfl, rfl, g⟩
      have gr : ∀ s ∈ rest, GS fs 0 s := fun s hs => g s (by simp [hs])
      rcases g x (by simp) with rfl | ⟨j, f, e, _, rfl, ne, _⟩
      · simp
        exact ⟨k + 1, _, rfl, rfl, gr⟩
      · simp
        refine (ne n d h' (by omega)).mono ?_
        rintro _ h1 ⟨rfl, k2, rfl⟩
        simp
        exact ⟨k + 1 + k2, _, rfl, rfl, gr⟩
  | succ m ih =>
    intro ss d h hd g
    obtain ⟨d, rfl⟩ : ∃ e, d = e + 1 := ⟨d - 1, by omega⟩
    rw [c18]
    unfold b18
    simp
    refine loop_t (I18 (.tup ss) (m + 1) fs h) ⟨0, none, rfl, rfl, g⟩ ?_ ?_
    · rintro σ h' ⟨k, u, rfl, rfl, _⟩
      simp
    · rintro x rest σ h' ⟨k, u, rfl, rfl, g⟩
      have gr : ∀ s ∈ rest, GS fs (m + 1) s := fun s hs => g s (by simp [hs])
      rcases g x (by simp) with rfl | ⟨j, f, e, _, rfl, ne, _⟩ | ⟨c, as, bs, rfl, gc, ga, gb⟩
      · simp
        exact ⟨k + 1, _, rfl, rfl, gr⟩
      · simp
        refine (ne n d h' (by omega)).mono ?_
        rintro _ h1 ⟨rfl, k2, rfl⟩
        simp
        exact ⟨k + 1 + k2, _, rfl, rfl, gr⟩
      · simp
        refine (gc.nodes n d h' (by omega)).mono ?_
        rintro _ h1 ⟨rfl, k2, rfl⟩
        try simp
        refine (ih as d h1 (by omega) ga).mono ?_
        rintro _ h2 ⟨rfl, k3, rfl⟩
        simp
        refine (ih bs d h2 (by omega) gb).mono ?_
        rintro _ h3 ⟨rfl, k4, rfl⟩
        simp
        exact ⟨_, _, rfl, rfl, gr⟩
def I19 (fs : List (List Nat × tt × D)) (p : Nat) (h h4 : Hs) (rest : List D) (σ : DN.Env) (h' : Hs) : Prop := ∃ (ss : List D) (u : Option D), h' = h4 ∧ σ = [some (SC fs), some (.ref p), some (.int 2), some (.tup ss), u] ∧ ∀ s ∈ ss, GS fs 2 s
theorem program_ok {p d : Nat} {h : Hs} (S : SchOK fs) (hd : 15 ≤ d) (q : Dr p h) : OkR (K n d 19 [SC fs, .ref p, .int 2] h) fun v h' => (∃ ss, v = .tup ss ∧ ∀ s ∈ ss, GS fs 2 s) ∧ Dr p h' ∧ Fr p h h' := by
  obtain ⟨d, rfl⟩ : ∃ e, d = e + 1 := ⟨d - 1, by omega⟩
  rw [c19]
  unfold b19
  simp
  refine (made_ok S 2 (by omega) d h (by omega) q).mono ?_
  rintro _ h1 ⟨⟨ss, rfl, g⟩, q1, f1⟩
  try simp
  refine loop_t (I19 fs p h h1) ⟨ss, none, rfl, rfl, g⟩ ?_ ?_
  · rintro σ h' ⟨ss, u, rfl, rfl, g⟩
    simp
    refine (size_ok 2 ss d h' (by omega) g).mono ?_
    rintro _ h3 ⟨rfl, k, rfl⟩
    simp
    split
    · refine ⟨?_, q1, f1⟩
      exact GS.skip
    · exact ⟨g, q1, f1⟩
  · rintro x rest σ h' ⟨ss, u, rfl, rfl, g⟩
    simp
    refine (size_ok 2 ss d h' (by omega) g).mono ?_
    rintro _ h3 ⟨rfl, k, rfl⟩
    simp
    split
    · split
      · exact ⟨_, _, rfl, rfl, fun s hs => g s (cut_mem hs)⟩
      · exact ⟨ss, _, rfl, rfl, g⟩
    · exact ⟨ss, _, rfl, rfl, g⟩
end
end LW

set_option Elab.async false
set_option linter.all false
set_option maxRecDepth 100000
set_option maxHeartbeats 0
namespace LW
open PySem DN
/-- an expression's value -/
def EVAL (fs : List (List Nat × tt × D)) (M : Nat) (e : D) (xs : List D) (v : D) : Prop := ∀ n d h r, M ≤ d → h[r]? = some (.lst xs) → OkR (K n d 3 [SC fs, e, .ref r] h) (fun v' h' => h' = h ∧ v' = v) ∧ OkR (K n d 21 [SC fs, e, .ref r] h) (fun v' h' => h' = h ∧ v' = v)
/-- what stands for the record -/
def isRec (h : Hs) (rc : D) (xs : List D) : Prop := rc = .tup xs ∨ ∃ r, rc = .ref r ∧ h[r]? = some (.lst xs)
def RUNC (fs : List (List Nat × tt × D)) (M : Nat) (ss xs ys : List D) : Prop := (∀ n d h r, M ≤ d → h[r]? = some (.lst xs) → OkR (K n d 4 [SC fs, .tup ss, .ref r] h) fun v h' => v = .non ∧ h' = h.set r (.lst ys)) ∧
  ∀ n d h rc, M ≤ d → isRec h rc xs → OkR (K n d 22 [SC fs, .tup ss, rc] h) fun v h' => h' = h ∧ v = .tup ys
def PS (fs : List (List Nat × tt × D)) (M : Nat) (s : D) (xs ys : List D) : Prop := (s = D.tup [D.str [115, 107, 105, 112]] ∧ ys = xs) ∨ (∃ (k : Nat) (f : List Nat × tt × D) (e v : D), fs[k]? = some f ∧ s = .tup [.str [115, 101, 116], .str f.1, e] ∧ EVAL fs M e xs v ∧ ys = xs.set k v) ∨
  ∃ c as bs b, s = .tup [.str [105, 102], c, .tup as, .tup bs] ∧ EVAL fs M c xs (.bl b) ∧ RUNC fs M (if b = true then as else bs) xs ys
def Runs (fs : List (List Nat × tt × D)) (M : Nat) : List D → List D → List D → Prop
  | [], xs, ys => ys = xs
  | s :: ss, xs, ys => ∃ zs, PS fs M s xs zs ∧ RecOK fs zs ∧ Runs fs M ss zs ys
section
variable {fs : List (List Nat × tt × D)} {M : Nat}
theorem ixD_nat {k n : Nat} (l : k < n) : ixD n (k : Int) = some k := by
  unfold ixD
  rw [if_pos (by omega), if_pos (by omega)]
  simp
def I4 (fs : List (List Nat × tt × D)) (M : Nat) (blk : D) (h : Hs) (r : Nat) (ys : List D) (rest : List D) (σ : DN.Env) (h' : Hs) : Prop := ∃ (zs : List D) (u : Option D), h' = h.set r (.lst zs) ∧ RecOK fs zs ∧ Runs fs M rest zs ys ∧ σ = [some (SC fs), some blk, some (.ref r), u]
theorem set_self {h : Hs} {r : Nat} {o : O} (e : h[r]? = some o) : h.set r o = h := by
  apply List.ext_getElem?
  intro i
  by_cases hi : r = i
  · subst hi
    rw [List.getElem?_set_self (lt_of_at e), e]
  · rw [List.getElem?_set_ne hi]
theorem runc4 (S : SchOK fs) {ss xs ys : List D} (rx : RecOK fs xs) (q : Runs fs M ss xs ys) (hM : 1 ≤ M) : ∀ n d h r, M + 1 ≤ d → h[r]? = some (.lst xs) → OkR (K n d 4 [SC fs, .tup ss, .ref r] h) fun v h' => v = .non ∧ h' = h.set r (.lst ys) := by
  intro n d h r hd er
  obtain ⟨d, rfl⟩ : ∃ e, d = e + 2 := ⟨d - 2, by omega⟩
  rw [c4]
  unfold b4
  simp
  refine loop_t (I4 fs M (.tup ss) h r ys) ⟨xs, none, (set_self er).symm, rx, q, rfl⟩ ?_ ?_
  · rintro σ h' ⟨zs, u, rfl, rz, q, rfl⟩
    have q : ys = zs := q
    subst q
    simp
  · rintro s rest σ h' ⟨zs, u, rfl, rz, ⟨ws, p, rw_, q⟩, rfl⟩
    have ez : (h.set r (.lst zs))[r]? = some (.lst zs) := List.getElem?_set_self (lt_of_at er)
    rcases p with ⟨rfl, rfl⟩ | ⟨k, f, e, v, ef, rfl, ev, rfl⟩ | ⟨c, as, bs, b, rfl, ev, rn⟩
    · simp
      exact ⟨ws, _, rfl, rw_, q, rfl⟩
    · have lk := lt_of_at' ef
      simp
      refine (ev n (d + 1) _ r (by omega) ez).1.mono ?_
      rintro v h1 ⟨rfl, rfl⟩
      try simp
      refine (index_ok S ef).mono ?_
      rintro _ h2 ⟨rfl, rfl⟩
      simp [ez, ixD_nat (show k < zs.length by rw [rz.1]; exact lk)]
      exact ⟨zs.set k v, _, rfl, rw_, q, rfl⟩
    · simp
      refine (ev n (d + 1) _ r (by omega) ez).1.mono ?_
      rintro _ h1 ⟨rfl, rfl⟩
      have rn1 := rn.1 n (d + 1) _ r (by omega) ez
      cases b with
      | true =>
        simp
        refine rn1.mono ?_
        rintro _ h2 ⟨rfl, rfl⟩
        simp
        exact ⟨ws, _, rfl, rw_, q, rfl⟩
      | false =>
        simp
        refine rn1.mono ?_
        rintro _ h2 ⟨rfl, rfl⟩
        simp
        exact ⟨ws, _, rfl, rw_, q, rfl⟩
def I22 (fs : List (List Nat × tt × D)) (M : Nat) (blk rc : D) (h : Hs) (ys : List D) (rest : List D) (σ : DN.Env) (h' : Hs) : Prop := ∃ (zs : List D) (q : Nat) (u4 u5 : Option D), (∃ g, h' = h ++ g) ∧ h.length ≤ q ∧ h'[q]? = some (.lst zs) ∧ RecOK fs zs ∧ Runs fs M rest zs ys ∧ σ = [some (SC fs), some blk, some rc, some (.ref q), u4, u5]
theorem blw_rec (S : SchOK fs) {zs : List D} (rz : RecOK fs zs) (k : Nat) : D.blws k zs = true := by
  have z : ∀ v ∈ zs, D.blw k v = true := by
    intro v hv
    obtain ⟨j, ej⟩ := List.getElem?_of_mem hv
    have lj := lt_of_at' ej
    obtain ⟨f, ef⟩ : ∃ f, fs[j]? = some f := ⟨_, List.getElem?_eq_getElem (by rw [← rz.1]; exact lj)⟩
    have tv := rz.2 j f v ef ej
    obtain ⟨nm, t, kd⟩ := f
    cases t with
    | int => obtain ⟨i, rfl, _⟩ := tv; rfl
    | flag => obtain ⟨i, rfl⟩ := tv; rfl
    | word => obtain ⟨i, rfl, _⟩ := tv; rfl
    | text => obtain ⟨i, rfl, _⟩ := tv; rfl
  clear rz
  induction zs with
  | nil => rfl
  | cons x zs ih =>
    show (D.blw k x && D.blws k zs) = true
    rw [z x (by simp), ih fun v hv => z v (by simp [hv])]
    rfl
theorem frz_tup (S : SchOK fs) {zs : List D} (rz : RecOK fs zs) {k : Nat} {h' h : Hs} {Q : D → Hs → Prop} (q : Q (.tup zs) h) : OkR (frz k h' h (.tup zs)) Q := by
  show OkR (if D.blws k zs = true then _ else _) Q
  rw [if_pos (blw_rec S rz k)]
  exact q
theorem app_set {h g : Hs} {q : Nat} {o : O} (l : h.length ≤ q) : (h ++ g).set q o = h ++ g.set (q - h.length) o := by
  rw [List.set_append_right _ _ l]
theorem runc22 (S : SchOK fs) {ss xs ys : List D} (rx : RecOK fs xs) (q : Runs fs M ss xs ys) (hM : 1 ≤ M) : ∀ n d h rc, M + 1 ≤ d → isRec h rc xs → OkR (K n d 22 [SC fs, .tup ss, rc] h) fun v h' => h' = h ∧ v = .tup ys := by
  intro n d h rc hd er
  have l8 := S.le
  obtain ⟨d, rfl⟩ : ∃ e, d = e + 2 := ⟨d - 2, by omega⟩
  refine c22 ?_
  unfold b22
  have hx : OkR (bList true [rc] h) fun x h1 => x = .ref h.length ∧ h1 = h ++ [.lst xs] := by
    rcases er with rfl | ⟨r, rfl, er⟩
    · simp [rx.1]
      omega
    · simp [er, rx.1]
      omega
  simp
  refine hx.mono ?_
  rintro _ h1 ⟨rfl, rfl⟩
  try simp
  refine loop_t (I22 fs M (.tup ss) rc h ys) ⟨xs, h.length, none, none, ⟨_, rfl⟩, Nat.le_refl _, by simp, rx, q, rfl⟩ ?_ ?_
  · rintro σ h' ⟨zs, p, u4, u5, ⟨g, rfl⟩, lp, ez, rz, q, rfl⟩
    have q : ys = zs := q
    subst q
    simp [ez, rz.1]
    exact ⟨by omega, frz_tup S rz ⟨rfl, rfl⟩⟩
  · rintro s rest σ h' ⟨zs, p, u4, u5, ⟨g, rfl⟩, lp, ez, rz, ⟨ws, pp, rw_, q⟩, rfl⟩
    rcases pp with ⟨rfl, rfl⟩ | ⟨k, f, e, v, ef, rfl, ev, rfl⟩ | ⟨c, as, bs, b, rfl, ev, rn⟩
    · simp
      exact ⟨ws, p, _, _, ⟨g, rfl⟩, lp, ez, rw_, q, rfl⟩
    · have lk := lt_of_at' ef
      simp
      refine (ev n (d + 1) _ p (by omega) ez).2.mono ?_
      rintro v h1 ⟨rfl, rfl⟩
      try simp
      refine (at_ok S ef).mono ?_
      rintro _ h2 ⟨rfl, rfl⟩
      simp [ez, ixD_nat (show k < zs.length by rw [rz.1]; exact lk)]
      refine ⟨zs.set k v, p, _, _, ⟨_, app_set lp⟩, lp, ?_, rw_, q, rfl⟩
      exact List.getElem?_set_self (lt_of_at ez)
    · simp
      refine (ev n (d + 1) _ p (by omega) ez).2.mono ?_
      rintro _ h1 ⟨rfl, rfl⟩
      have rn1 := rn.2 n (d + 1) _ (.ref p) (by omega) (.inr ⟨p, rfl, ez⟩)
      have lw : ws.length ≤ 16777216 := by rw [rw_.1]; omega
      cases b with
      | true =>
        simp
        refine rn1.mono ?_
        rintro _ h2 ⟨rfl, rfl⟩
        simp [lw]
        exact ⟨ws, h.length + g.length, _, _, ⟨g ++ [.lst ws], by simp⟩, by omega, by rw [List.getElem?_append_right (by omega)]; simp, rw_, q, rfl⟩
      | false =>
        simp
        refine rn1.mono ?_
        rintro _ h2 ⟨rfl, rfl⟩
        simp [lw]
        exact ⟨ws, h.length + g.length, _, _, ⟨g ++ [.lst ws], by simp⟩, by omega, by rw [List.getElem?_append_right (by omega)]; simp, rw_, q, rfl⟩
end
end LW

set_option Elab.async false
set_option linter.all false
set_option maxRecDepth 100000
set_option maxHeartbeats 0
namespace LW
open PySem DN
section
variable {fs : List (List Nat × tt × D)}
theorem ev_of {M : Nat} {P : D → Prop} {e : D} {xs : List D} (A : EVP fs M P e) (rx : RecOK fs xs) {M' : Nat} (l : M ≤ M') : ∃ v, P v ∧ EVAL fs M' e xs v := by
  obtain ⟨v, p, q⟩ := A xs rx
  exact ⟨v, p, fun n d h r hd er => q n d h r (by omega) er⟩
theorem RecOK.set {xs : List D} (rx : RecOK fs xs) {k : Nat} {f : List Nat × tt × D} (ef : fs[k]? = some f) {v : D} (tv : TV 0 f.2.1 v) : RecOK fs (xs.set k v) := by
  refine ⟨by simp [rx.1], fun j g w eg ew => ?_⟩
  by_cases hj : k = j
  · subst hj
    rw [ef] at eg
    cases eg
    rw [List.getElem?_set_self (by rw [rx.1]; exact lt_of_at' ef)] at ew
    cases ew
    exact tv
  · rw [List.getElem?_set_ne hj] at ew
    exact rx.2 j g w eg ew
/-- a block has a course -/
theorem runs_ex {P : D → Prop} {M : Nat} (st : ∀ s, P s → ∀ xs, RecOK fs xs → ∃ ys, PS fs M s xs ys ∧ RecOK fs ys) : ∀ (ss : List D), (∀ s ∈ ss, P s) → ∀ xs, RecOK fs xs → ∃ ys, Runs fs M ss xs ys ∧ RecOK fs ys
  | [], _, xs, rx => ⟨xs, rfl, rx⟩
  | s :: ss, g, xs, rx => by
    obtain ⟨zs, p, rz⟩ := st s (g s (by simp)) xs rx
    obtain ⟨ys, q, ry⟩ := runs_ex st ss (fun s hs => g s (by simp [hs])) zs rz
    exact ⟨ys, ⟨zs, p, rz, q⟩, ry⟩
theorem set_ps {s : D} (q : GSet fs s) {M : Nat} (hM : 8 ≤ M) {xs : List D} (rx : RecOK fs xs) : ∃ ys, PS fs M s xs ys ∧ RecOK fs ys := by
  obtain ⟨k, f, e, ef, rfl, _, ev⟩ := q
  obtain ⟨v, tv, q⟩ := ev_of ev rx hM
  exact ⟨xs.set k v, .inr (.inl ⟨k, f, e, v, ef, rfl, q, rfl⟩), rx.set ef tv⟩
theorem run_ok (S : SchOK fs) : ∀ (m : Nat) (ss : List D), (∀ s ∈ ss, GS fs m s) → ∀ xs, RecOK fs xs → ∃ ys, RUNC fs (m + 9) ss xs ys ∧ RecOK fs ys := by
  intro m
  induction m with
  | zero =>
    intro ss g xs rx
    obtain ⟨ys, q, ry⟩ := runs_ex (P := GS fs 0) (M := 8) (fun s hs xs rx => by
      rcases hs with rfl | hs
      · exact ⟨xs, .inl ⟨rfl, rfl⟩, rx⟩
      · exact set_ps hs (by omega) rx) ss g xs rx
    exact ⟨ys, ⟨runc4 S rx q (by omega), runc22 S rx q (by omega)⟩, ry⟩
  | succ m ih =>
    intro ss g xs rx
    obtain ⟨ys, q, ry⟩ := runs_ex (P := GS fs (m + 1)) (M := m + 9) (fun s hs xs rx => by
      rcases hs with rfl | hs | ⟨c, as, bs, rfl, gc, ga, gb⟩
      · exact ⟨xs, .inl ⟨rfl, rfl⟩, rx⟩
      · exact set_ps hs (by omega) rx
      · obtain ⟨_, ⟨b, rfl⟩, ev⟩ := ev_of gc.ev rx (show 4 ≤ m + 9 by omega)
        cases b with
        | true =>
          obtain ⟨ys, rn, ry⟩ := ih as ga xs rx
          exact ⟨ys, .inr (.inr ⟨c, as, bs, true, rfl, ev, rn⟩), ry⟩
        | false =>
          obtain ⟨ys, rn, ry⟩ := ih bs gb xs rx
          exact ⟨ys, .inr (.inr ⟨c, as, bs, false, rfl, ev, rn⟩), ry⟩) ss g xs rx
    exact ⟨ys, ⟨runc4 S rx q (by omega), runc22 S rx q (by omega)⟩, ry⟩
theorem evaluate_ok (S : SchOK fs) {ss xs ys : List D} {n d : Nat} {h : Hs} (rx : RecOK fs xs) (ry : RecOK fs ys) (rn : RUNC fs 11 ss xs ys) (hd : 12 ≤ d) : OkR (K n d 5 [SC fs, .tup ss, .tup xs] h) fun v h' => h' = h ∧ v = .tup ys := by
  have l8 := S.le
  obtain ⟨d, rfl⟩ : ∃ e, d = e + 1 := ⟨d - 1, by omega⟩
  refine c5 ?_
  unfold b5
  simp [rx.1]
  refine ⟨by omega, ?_⟩
  refine (rn.1 n d _ h.length (by omega) (by simp)).mono ?_
  rintro _ h2 ⟨rfl, rfl⟩
  simp [ry.1]
  exact ⟨by omega, frz_tup S ry ⟨rfl, rfl⟩⟩
theorem dat_rec (S : SchOK fs) {zs : List D} (rz : RecOK fs zs) (m : Nat) : D.dats m zs = true := by
  have z : ∀ v ∈ zs, D.dat m v = true := by
    intro v hv
    obtain ⟨j, ej⟩ := List.getElem?_of_mem hv
    have lj := lt_of_at' ej
    obtain ⟨f, ef⟩ : ∃ f, fs[j]? = some f := ⟨_, List.getElem?_eq_getElem (by rw [← rz.1]; exact lj)⟩
    have tv := rz.2 j f v ef ej
    obtain ⟨nm, t, kd⟩ := f
    cases t with
    | int => obtain ⟨i, rfl, _⟩ := tv; cases m <;> rfl
    | flag => obtain ⟨i, rfl⟩ := tv; cases m <;> rfl
    | word => obtain ⟨i, rfl, q⟩ := tv; cases m <;> exact q.2
    | text => obtain ⟨i, rfl, q⟩ := tv; cases m <;> exact q.2
  clear rz
  induction zs with
  | nil => cases m <;> rfl
  | cons x zs ih =>
    show (D.dat m x && D.dats m zs) = true
    rw [z x (by simp), ih fun v hv => z v (by simp [hv])]
    rfl
theorem eqv_rec (S : SchOK fs) {zs : List D} (rz : RecOK fs zs) : D.eqvs zs zs = true := by
  have z : ∀ v ∈ zs, D.eqv v v = true := by
    intro v hv
    obtain ⟨j, ej⟩ := List.getElem?_of_mem hv
    have lj := lt_of_at' ej
    obtain ⟨f, ef⟩ : ∃ f, fs[j]? = some f := ⟨_, List.getElem?_eq_getElem (by rw [← rz.1]; exact lj)⟩
    have tv := rz.2 j f v ef ej
    obtain ⟨nm, t, kd⟩ := f
    cases t with
    | int => obtain ⟨i, rfl, _⟩ := tv; show (i == i) = true; simp
    | flag => obtain ⟨i, rfl⟩ := tv; show (i == i) = true; simp
    | word => obtain ⟨i, rfl, q⟩ := tv; show (i == i) = true; simp
    | text => obtain ⟨i, rfl, q⟩ := tv; show (i == i) = true; simp
  clear rz
  induction zs with
  | nil => rfl
  | cons x zs ih =>
    show (D.eqv x x && D.eqvs zs zs) = true
    rw [z x (by simp), ih fun v hv => z v (by simp [hv])]
    rfl
def I23 (ys : List D) (h : Hs) (rest : List D) (σ : DN.Env) (h' : Hs) : Prop := ∃ (j r : Nat) (u : Option D), rest = rngL j r ∧ j + r = ys.length ∧ h' = h ∧ σ = [some (.tup ys), some (.tup ys), u]
theorem exact_ok (S : SchOK fs) {ys : List D} {n d : Nat} {h : Hs} (ry : RecOK fs ys) : OkR (K n (d + 1) 23 [.tup ys, .tup ys] h) fun v h' => h' = h ∧ v = .bl true := by
  have l8 := S.le
  have l9 := ry.1
  rw [c23]
  unfold b23
  have e : cmpD .eq (.tup ys) (.tup ys) h = some true := by
    show (if D.dats 63 ys && D.dats 63 ys then some (D.eqvs ys ys) else none) = _
    rw [dat_rec S ry, eqv_rec S ry]
    rfl
  simp [e]
  refine ⟨by omega, ?_⟩
  refine loop_t (I23 ys h) ⟨0, ys.length, none, rfl, by omega, rfl, rfl⟩ ?_ ?_
  · rintro σ h' ⟨j, r, u, er, l, rfl, rfl⟩
    simp
  · rintro x rest σ h' ⟨j, r, u, er, l, rfl, rfl⟩
    cases r with
    | zero => cases er
    | succ r =>
      cases er
      obtain ⟨v, ev⟩ : ∃ v, ys[j]? = some v := ⟨_, List.getElem?_eq_getElem (by omega)⟩
      obtain ⟨f, ef⟩ : ∃ f, fs[j]? = some f := ⟨_, List.getElem?_eq_getElem (by omega)⟩
      have tv := ry.2 j f v ef ev
      have ix : ixat ys (j : Int) = some v := ixat_nat ev rfl
      obtain ⟨b, hb⟩ : ∃ b, ∀ h, isTy h v .bool = some b := by
        obtain ⟨nm, t, kd⟩ := f
        cases t with
        | int => obtain ⟨i, rfl, _⟩ := tv; exact ⟨_, fun h => rfl⟩
        | flag => obtain ⟨i, rfl⟩ := tv; exact ⟨_, fun h => rfl⟩
        | word => obtain ⟨i, rfl, _⟩ := tv; exact ⟨_, fun h => rfl⟩
        | text => obtain ⟨i, rfl, _⟩ := tv; exact ⟨_, fun h => rfl⟩
      simp [ix, hb]
      exact ⟨j + 1, r, _, by simp, by omega, rfl, rfl⟩
def I24 (sc : D) (fs : List (List Nat × tt × D)) (p : Nat) (ss : List D) (rest : List D) (σ : DN.Env) (h' : Hs) : Prop := ∃ (xs : List D) (u : Option D), Dr p h' ∧ RecOK fs xs ∧ σ = [some sc, some (.ref p), some (SC fs), some (.tup xs), some (.tup ss), u]
theorem law_ok {ns : List Int} {n d : Nat} (hl : ns.length ≤ 63) (hd : 20 ≤ d) : OkR (K n d 24 [.sl (ns.map .int)] []) fun v _ => v = .bl true := by
  obtain ⟨d, rfl⟩ : ∃ e, d = e + 2 := ⟨d - 2, by omega⟩
  rw [c24]
  unfold b24
  try simp
  refine (draws_ok hl).mono ?_
  rintro _ h1 ⟨p, rfl, q1⟩
  try simp
  obtain ⟨d, rfl⟩ : ∃ e, d = e + 1 := ⟨d - 1, by omega⟩
  refine (schema_ok q1).mono ?_
  rintro _ h2 ⟨fs, rfl, S, q2, _⟩
  try simp
  refine (record_ok S q2).mono ?_
  rintro _ h3 ⟨xs, rfl, rx, q3, _⟩
  try simp
  refine (program_ok S (by omega) q3).mono ?_
  rintro _ h4 ⟨⟨ss, rfl, g⟩, q4, _⟩
  try simp
  refine loop_t (I24 (.sl (ns.map .int)) fs p ss) ⟨xs, none, q4, rx, rfl⟩ ?_ ?_
  · rintro σ h' ⟨xs, u, q, rx, rfl⟩
    try simp
  · rintro x rest σ h' ⟨xs, u, q, rx, rfl⟩
    obtain ⟨ys, rn, ry⟩ := run_ok S 2 ss g xs rx
    try simp
    refine (evaluate_ok S rx ry rn (by omega)).mono ?_
    rintro _ h5 ⟨rfl, rfl⟩
    try simp
    refine (rn.2 n (d + 2) _ (.tup xs) (by omega) (.inl rfl)).mono ?_
    rintro _ h6 ⟨rfl, rfl⟩
    try simp
    refine (exact_ok S ry).mono ?_
    rintro _ h7 ⟨rfl, rfl⟩
    try simp
    refine (record_ok S q).mono ?_
    rintro _ h8 ⟨xs', rfl, rx', q', _⟩
    exact ⟨xs', _, q', rx', rfl⟩
end
end LW

set_option Elab.async false
set_option linter.all false
set_option maxRecDepth 100000
set_option maxHeartbeats 0
namespace Hd
open PySem PySem.Spec PyProof.Rows L2
def top (i : Nat) : Stmt := PySem.Challenge.pw_sinktree_k04_evaluate.main.body.getD i (.Pass ⟨0, 0, 0, 0⟩)
def d0 : He.DefD := ⟨("field_index", none), "field_index", "field_index", defArgs (top 1), defBody (top 1), defScope (top 1), [], []⟩
def d1 : He.DefD := ⟨("combine", none), "combine", "combine", defArgs (top 3), defBody (top 3), defScope (top 3), [], []⟩
def d2 : He.DefD := ⟨("alter", none), "alter", "alter", defArgs (top 4), defBody (top 4), defScope (top 4), [], []⟩
def d3 : He.DefD := ⟨("value_of", none), "value_of", "value_of", defArgs (top 5), defBody (top 5), defScope (top 5), [], []⟩
def d4 : He.DefD := ⟨("run_block", none), "run_block", "run_block", defArgs (top 6), defBody (top 6), defScope (top 6), [], []⟩
def d5 : He.DefD := ⟨("evaluate", none), "evaluate", "evaluate", defArgs (top 7), defBody (top 7), defScope (top 7), [], []⟩
def d6 : He.DefD := ⟨("_law_cell", none), "_law_cell", "_law_cell", defArgs (top 9), defBody (top 9), defScope (top 9), [], []⟩
def d7 : He.DefD := ⟨("_law_draws", none), "_law_draws", "_law_draws", defArgs (top 10), defBody (top 10), defScope (top 10), [], []⟩
def d8 : He.DefD := ⟨("_law_next", none), "_law_next", "_law_next", defArgs (top 11), defBody (top 11), defScope (top 11), [], []⟩
def d9 : He.DefD := ⟨("_law_kind", none), "_law_kind", "_law_kind", defArgs (top 12), defBody (top 12), defScope (top 12), [], []⟩
def d10 : He.DefD := ⟨("_law_schema", none), "_law_schema", "_law_schema", defArgs (top 13), defBody (top 13), defScope (top 13), [], []⟩
def d11 : He.DefD := ⟨("_law_value", none), "_law_value", "_law_value", defArgs (top 14), defBody (top 14), defScope (top 14), [], []⟩
def d12 : He.DefD := ⟨("_law_record", none), "_law_record", "_law_record", defArgs (top 15), defBody (top 15), defScope (top 15), [], []⟩
def d13 : He.DefD := ⟨("_law_leaf", none), "_law_leaf", "_law_leaf", defArgs (top 16), defBody (top 16), defScope (top 16), [], []⟩
def d14 : He.DefD := ⟨("_law_expression", none), "_law_expression", "_law_expression", defArgs (top 17), defBody (top 17), defScope (top 17), [], []⟩
def d15 : He.DefD := ⟨("_law_set", none), "_law_set", "_law_set", defArgs (top 18), defBody (top 18), defScope (top 18), [], []⟩
def d16 : He.DefD := ⟨("_law_made", none), "_law_made", "_law_made", defArgs (top 19), defBody (top 19), defScope (top 19), [], []⟩
def d17 : He.DefD := ⟨("_law_nodes", none), "_law_nodes", "_law_nodes", defArgs (top 20), defBody (top 20), defScope (top 20), [], []⟩
def d18 : He.DefD := ⟨("_law_size", none), "_law_size", "_law_size", defArgs (top 21), defBody (top 21), defScope (top 21), [], []⟩
def d19 : He.DefD := ⟨("_law_program", none), "_law_program", "_law_program", defArgs (top 22), defBody (top 22), defScope (top 22), [], []⟩
def d20 : He.DefD := ⟨("_law_at", none), "_law_at", "_law_at", defArgs (top 23), defBody (top 23), defScope (top 23), [], []⟩
def d21 : He.DefD := ⟨("_law_eval", none), "_law_eval", "_law_eval", defArgs (top 24), defBody (top 24), defScope (top 24), [], []⟩
def d22 : He.DefD := ⟨("_law_run", none), "_law_run", "_law_run", defArgs (top 25), defBody (top 25), defScope (top 25), [], []⟩
def d23 : He.DefD := ⟨("_law_exact", none), "_law_exact", "_law_exact", defArgs (top 26), defBody (top 26), defScope (top 26), [], []⟩
def d24 : He.DefD := ⟨("law", none), "law", "law", defArgs (top 27), defBody (top 27), defScope (top 27), [], []⟩
def fn0 : List He.DefD := [d0, d1, d2, d3, d4, d5, d6, d7, d8, d9, d10, d11, d12, d13, d14, d15, d16, d17, d18, d19, d20, d21, d22, d23, d24]
def fn : List He.DefD := fn0
def fa0 : List He.Fa := [.glo "field_index", .glo "combine", .glo "alter", .glo "value_of", .glo "run_block", .glo "evaluate", .glo "_law_cell", .glo "_law_draws", .glo "_law_next", .glo "_law_kind", .glo "_law_schema", .glo "_law_value", .glo "_law_record", .glo "_law_leaf", .glo "_law_expression", .glo "_law_set", .glo "_law_made", .glo "_law_nodes", .glo "_law_size", .glo "_law_program", .glo "_law_at", .glo "_law_eval", .glo "_law_run", .glo "_law_exact", .glo "law", .free "abs", .free "bool", .free "int", .free "isinstance", .free "len"]
def fa1 : List He.Fa := [.free "list", .free "max", .free "min", .free "range", .free "tuple"]
def fa : List He.Fa := fa0 ++ fa1
def loose0 : List PySem.Str := ["__name__", "field_index", "combine", "alter", "value_of", "run_block", "evaluate", "_law_cell", "_law_draws", "_law_next", "_law_kind", "_law_schema", "_law_value", "_law_record", "_law_leaf", "_law_expression", "_law_set", "_law_made", "_law_nodes", "_law_size", "_law_program", "_law_at", "_law_eval", "_law_run", "_law_exact"]
def loose : List PySem.Str := loose0
abbrev R : PySem.W.OpenRow := PySem.W.OpenLaw.row PySem.Challenge.rw_sinktree_k04_evaluate
abbrev hk : PySem.W.Hook := He.hookD 4 fa fn
def ob (s : PySem.W.SharedT) : He.AlD := He.obsDG 4 fa fn (HandSHeadRun.getT s)
theorem ob_eq (s : PySem.W.SharedT) : ob s = hk.obs s.abs := He.obsDG_eq (HandSHeadRun.getT_eq s)
theorem run (w : World) : HandSHeadRun.RunEq R (PySem.W.view R.prog [27]) hk ob 20000 loose w := by
  intro os
  kernel_rfl
end Hd

set_option Elab.async false
set_option linter.all false
set_option maxRecDepth 100000
set_option maxHeartbeats 0
open PySem PySem.W PySem.Calls PyProof.Rows
theorem PySem.Challenge.cw_sinktree_k04_evaluate_holds : PySem.Challenge.rw_sinktree_k04_evaluate.Holds := by
  w_on; o_law
  refine HandSHeadRun.head_any (r := OpenLaw.row PySem.Challenge.rw_sinktree_k04_evaluate) (q := view (OpenLaw.row PySem.Challenge.rw_sinktree_k04_evaluate).prog [27]) (H := Hd.hk) (ob := Hd.ob) (M := 20000) (loose := Hd.loose) (d := HandSHeadRun.topDef (OpenLaw.row PySem.Challenge.rw_sinktree_k04_evaluate).prog 27) (kwd := []) Hd.ob_eq
    (by kernel_rfl) (fun s => by kernel_rfl) Hd.run (by kernel_rfl) (by kernel_rfl) (by kernel_rfl) (by rfl) (by first | assumption | decide +kernel) (by decide +kernel) ⟨rfl, rfl, rfl, rfl, rfl, by decide +kernel⟩ ?hw ?hc
  case hw => w_witness2
  case hc =>
    exact DN.LawT.holds (L := LW.L) (l := PySem.Challenge.rw_sinktree_k04_evaluate) (n := 63) (k := 100) (il := 24) (x := "_law_script") (rl := LW.r24) (fa := Hd.fa) (fn := Hd.fn) rfl (by decide) (by kernel_rfl) ⟨rfl, by decide, by decide⟩ (by kernel_rfl) rfl rfl rfl LW.ok (by kernel_rfl) (by
      intro r hr
      have hr' : r ∈ LW.rows := hr
      unfold LW.rows at hr'
      simp only [List.mem_cons, List.not_mem_nil, or_false] at hr'
      rcases hr' with rfl | rfl | rfl | rfl | rfl | rfl | rfl | rfl | rfl | rfl | rfl | rfl | rfl | rfl | rfl | rfl | rfl | rfl | rfl | rfl | rfl | rfl | rfl | rfl | rfl
      · exact List.mem_of_getElem? (i := 0) (by kernel_rfl)
      · exact List.mem_of_getElem? (i := 1) (by kernel_rfl)
      · exact List.mem_of_getElem? (i := 2) (by kernel_rfl)
      · exact List.mem_of_getElem? (i := 3) (by kernel_rfl)
      · exact List.mem_of_getElem? (i := 4) (by kernel_rfl)
      · exact List.mem_of_getElem? (i := 5) (by kernel_rfl)
      · exact List.mem_of_getElem? (i := 6) (by kernel_rfl)
      · exact List.mem_of_getElem? (i := 7) (by kernel_rfl)
      · exact List.mem_of_getElem? (i := 8) (by kernel_rfl)
      · exact List.mem_of_getElem? (i := 9) (by kernel_rfl)
      · exact List.mem_of_getElem? (i := 10) (by kernel_rfl)
      · exact List.mem_of_getElem? (i := 11) (by kernel_rfl)
      · exact List.mem_of_getElem? (i := 12) (by kernel_rfl)
      · exact List.mem_of_getElem? (i := 13) (by kernel_rfl)
      · exact List.mem_of_getElem? (i := 14) (by kernel_rfl)
      · exact List.mem_of_getElem? (i := 15) (by kernel_rfl)
      · exact List.mem_of_getElem? (i := 16) (by kernel_rfl)
      · exact List.mem_of_getElem? (i := 17) (by kernel_rfl)
      · exact List.mem_of_getElem? (i := 18) (by kernel_rfl)
      · exact List.mem_of_getElem? (i := 19) (by kernel_rfl)
      · exact List.mem_of_getElem? (i := 20) (by kernel_rfl)
      · exact List.mem_of_getElem? (i := 21) (by kernel_rfl)
      · exact List.mem_of_getElem? (i := 22) (by kernel_rfl)
      · exact List.mem_of_getElem? (i := 23) (by kernel_rfl)
      · exact List.mem_of_getElem? (i := 24) (by kernel_rfl)) (by
      intro x hx
      have hx' : x ∈ [("abs" : PySem.Str), ("bool" : PySem.Str), ("int" : PySem.Str), ("isinstance" : PySem.Str), ("len" : PySem.Str), ("list" : PySem.Str), ("max" : PySem.Str), ("min" : PySem.Str), ("range" : PySem.Str), ("tuple" : PySem.Str)] := hx
      simp only [List.mem_cons, List.not_mem_nil, or_false] at hx'
      rcases hx' with rfl | rfl | rfl | rfl | rfl | rfl | rfl | rfl | rfl | rfl
      · exact List.mem_of_getElem? (i := 25) (by kernel_rfl)
      · exact List.mem_of_getElem? (i := 26) (by kernel_rfl)
      · exact List.mem_of_getElem? (i := 27) (by kernel_rfl)
      · exact List.mem_of_getElem? (i := 28) (by kernel_rfl)
      · exact List.mem_of_getElem? (i := 29) (by kernel_rfl)
      · exact List.mem_of_getElem? (i := 30) (by kernel_rfl)
      · exact List.mem_of_getElem? (i := 31) (by kernel_rfl)
      · exact List.mem_of_getElem? (i := 32) (by kernel_rfl)
      · exact List.mem_of_getElem? (i := 33) (by kernel_rfl)
      · exact List.mem_of_getElem? (i := 34) (by kernel_rfl)) (fun K mg base => LW.glob_ok K mg base) fun ns hl => by
        obtain ⟨v, h, e, q⟩ := (LW.law_ok (n := 0) (d := 100) hl (by omega)).ex
        subst q
        exact ⟨0, h, e⟩

