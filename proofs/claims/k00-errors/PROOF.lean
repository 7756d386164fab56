import PyProof.Rows.All
import Wide.All
import OpenK.AllK
import Wide.FinOn
import HandS.ForMost
import HandS.Exc
import HandS.ExcOwn
import HandS.ExcInit
import HandS.TupAny
import HandS.TupMul
import HandS.Flow
import HandS.Style
import HandS.Defaults
import HandS.IsInst
import HandS.Comp
import HandS.GenList
import HandS.AnyAll
import KE.KExcSuper
import HandS.HeadHook1
import HandS.WordsExc
import HandS.HeadWalk
import HandS.Text
import HandS.StrMore
import HandS.RaiseMore
import HandS.StrSplit
import HandS.ReplaceLit
import HandS.List
import HandS.FStr
import PyProof.EqAt
import PyProof.EqKinds
import PyProof.TupleCall
import PyProof.Rows.SetFrom
import HandS.Set
import HandS.SetFor
import HandS.Strs
import HandS.SetKeys
import KE.KExcIs
import HandS.ExcField
import HandS.ExcIs
import HandS.ExcValue
import HandS.TryMany
import HandS.HeadHook2
import HandS.HeadHook3
import HandS.HeadHook4
import KE.KStateDown
import Lean
import HandS.Head0
import HandS.Head1
import HandS.Head2
import HandS.HeadEnd
import HandS.EndTab
import HandS.NestedK
import HandS.Base
import HandS.Call
import HandS.Ends
import HandS.More
import HandS.Words
import PySem.Challenge.RW_sinktree_k00_errors
import HandS.Codes
import HandS.ReplaceList
set_option Elab.async false
set_option linter.all false
set_option maxRecDepth 100000
/-! D0: plain values, a plain heap, and the meaning of the constructs as functions on them. -/
namespace DN
open PySem

/-- plain values: tuples by value; fl, fd: a list, a dict that nobody changes any more; sl: the script; ref: an object of the plain heap; fn: a def; xc: a caught exception -/
inductive D where
  | non | bl (b : Bool) | int (i : Int) | str (s : List Nat) | tup (xs : List D) | fl (xs : List D) | sl (xs : List D) | fd (kvs : List (D × D)) | ref (n : Nat) | fn (f : Nat) | xc (c : Nat) (fs : List (Nat × D))
  deriving Inhabited
/-- objects that change -/
inductive O where
  | lst (xs : List D) | dct (kvs : List (D × D)) | ins (c : Nat) (fs : List (Nat × D))
  deriving Inhabited
abbrev Hs := List O
abbrev Env := List (Option D)
/-- an end: a value, an exception, or none (not known) -/
inductive R (α : Type) where
  | ok (a : α) (h : Hs) | xc (c : Nat) (fs : List (Nat × D)) (h : Hs) | no
def R.bind {α β : Type} (r : R α) (f : α → Hs → R β) : R β := match r with
  | .ok a h => f a h
  | .xc c fs h => .xc c fs h
  | .no => .no
@[simp] theorem bind_ok {α β : Type} (a : α) (h : Hs) (f : α → Hs → R β) : (R.ok a h).bind f = f a h := rfl
@[simp] theorem bind_xc {α β : Type} (c : Nat) (fs : List (Nat × D)) (h : Hs) (f : α → Hs → R β) : (R.xc c fs h : R α).bind f = .xc c fs h := rfl
@[simp] theorem bind_no {α β : Type} (f : α → Hs → R β) : (R.no : R α).bind f = .no := rfl
theorem bind_ite {α β : Type} (c : Prop) [Decidable c] (a b : R α) (f : α → Hs → R β) : (if c then a else b).bind f = if c then a.bind f else b.bind f := by split <;> rfl
theorem bind_assoc {α β γ : Type} (r : R α) (f : α → Hs → R β) (g : β → Hs → R γ) : (r.bind f).bind g = r.bind fun a h => (f a h).bind g := by cases r <;> rfl

/-- the greatest size of a sequence -/
def SZ : Nat := 16777216
abbrev M (α : Type) := Env → Hs → R α

/-! ### equality of data -/
mutual
def D.eqv : D → D → Bool
  | .non, .non => true
  | .bl a, .bl b => a == b
  | .bl a, .int j => (if a then 1 else 0) == j
  | .int i, .bl b => i == (if b then 1 else 0)
  | .int i, .int j => i == j
  | .str x, .str y => x == y
  | .tup xs, .tup ys => D.eqvs xs ys
  | .fl xs, .fl ys => D.eqvs xs ys
  | _, _ => false
def D.eqvs : List D → List D → Bool
  | [], [] => true
  | x :: xs, y :: ys => D.eqv x y && D.eqvs xs ys
  | _, _ => false
end
-- data of at most n storeys: None, flags, ints, texts, tuples, lists
mutual
def D.dat : Nat → D → Bool
  | _, .non => true
  | _, .bl _ => true
  | _, .int _ => true
  | _, .str s => s.all (· < 1114112)
  | 0, _ => false
  | n + 1, .tup xs => D.dats n xs
  | n + 1, .fl xs => D.dats n xs
  | _, _ => false
def D.dats : Nat → List D → Bool
  | _, [] => true
  | n, x :: xs => D.dat n x && D.dats n xs
end
-- no object of place k or more is in it
mutual
def D.blw (k : Nat) : D → Bool
  | .tup xs => D.blws k xs
  | .fl xs => D.blws k xs
  | .sl xs => D.blws k xs
  | .fd kvs => D.blwp k kvs
  | .ref n => decide (n < k)
  | .xc _ _ => true
  | _ => true
def D.blws (k : Nat) : List D → Bool
  | [] => true
  | x :: xs => D.blw k x && D.blws k xs
def D.blwp (k : Nat) : List (D × D) → Bool
  | [] => true
  | (x, y) :: xs => D.blw k x && D.blw k y && D.blwp k xs
end

/-! ### views -/
def lstOf (h : Hs) : D → Option (List D)
  | .fl xs => some xs
  | .sl xs => some xs
  | .ref n => match h[n]? with
    | some (.lst xs) => some xs
    | _ => none
  | _ => none
/-- a list, not the script -/
def lsuOf (h : Hs) : D → Option (List D)
  | .fl xs => some xs
  | .ref n => match h[n]? with
    | some (.lst xs) => some xs
    | _ => none
  | _ => none
def seqOf (h : Hs) : D → Option (List D)
  | .tup xs => some xs
  | d => lstOf h d
def dctOf (h : Hs) : D → Option (List (D × D))
  | .fd kvs => some kvs
  | .ref n => match h[n]? with
    | some (.dct kvs) => some kvs
    | _ => none
  | _ => none
/-- a list of the heap as data -/
def datOf (h : Hs) : D → D
  | .ref n => match h[n]? with
    | some (.lst xs) => .fl xs
    | _ => .ref n
  | d => d
/-- a new list: on the heap or not -/
def mkL (hp : Bool) (xs : List D) (h : Hs) : R D := if xs.length ≤ SZ then (if hp then .ok (.ref h.length) (h ++ [.lst xs]) else .ok (.fl xs) h) else .no
def mkD (hp : Bool) (kvs : List (D × D)) (h : Hs) : R D := if kvs.length ≤ SZ then (if hp then .ok (.ref h.length) (h ++ [.dct kvs]) else .ok (.fd kvs) h) else .no
def mkT (xs : List D) (h : Hs) : R D := if xs.length ≤ SZ then .ok (.tup xs) h else .no
def mkS (s : List Nat) (h : Hs) : R D := if s.length ≤ SZ then .ok (.str s) h else .no

def truth (h : Hs) : D → Option Bool
  | .non => some false
  | .bl b => some b
  | .int i => some (i != 0)
  | .str s => if s.length ≤ SZ then some (s.length != 0) else none
  | .tup xs => some (!xs.isEmpty)
  | .fl xs => some (!xs.isEmpty)
  | .sl xs => some (!xs.isEmpty)
  | .fd kvs => some (!kvs.isEmpty)
  | .ref n => match h[n]? with
    | some (.lst xs) => some (!xs.isEmpty)
    | some (.dct kvs) => some (!kvs.isEmpty)
    | _ => none
  | _ => none

/-! ### places, slices -/
def ixD (n : Nat) (i : Int) : Option Nat := if 0 ≤ i then (if i < n then some i.toNat else none) else if -(n : Int) ≤ i then some (i + n).toNat else none
/-- where a slice's end stands -/
def sixD (n d : Nat) : Option Int → Nat
  | none => d
  | some v => if v < 0 then (v + (n : Int)).toNat else min v.toNat n
def cutD {α : Type} (xs : List α) (lo hi : Option Int) : List α := (xs.drop (sixD xs.length 0 lo)).take (sixD xs.length xs.length hi - sixD xs.length 0 lo)

/-! ### keys of dicts -/
def isKey : D → Bool
  | .int _ => true
  | .str _ => true
  | _ => false
def keyEq : D → D → Bool
  | .int i, .int j => i == j
  | .str s, .str t => s == t
  | _, _ => false
def dget : List (D × D) → D → Option D
  | [], _ => none
  | (k, v) :: r, x => if keyEq k x then some v else dget r x
def dput (kvs : List (D × D)) (x v : D) : List (D × D) := if kvs.any (fun p => keyEq p.1 x) then kvs.map (fun p => if keyEq p.1 x then (p.1, v) else p) else kvs ++ [(x, v)]
def ddrop (kvs : List (D × D)) (x : D) : List (D × D) := kvs.filter fun p => !keyEq p.1 x

/-! ### operators on values -/
def opAdd (hp : Bool) (x y : D) (h : Hs) : R D := match x, y with
  | .int a, .int b => .ok (.int (a + b)) h
  | .str a, .str b => if a.length + b.length ≤ SZ then .ok (.str (a ++ b)) h else .no
  | .tup a, .tup b => if a.length + b.length ≤ SZ then .ok (.tup (a ++ b)) h else .no
  | a, b => match lsuOf h a, lsuOf h b with
    | some xs, some ys => if xs.length + ys.length ≤ SZ then mkL hp (xs ++ ys) h else .no
    | _, _ => .no
def opSub (x y : D) (h : Hs) : R D := match x, y with
  | .int a, .int b => .ok (.int (a - b)) h
  | _, _ => .no
def opMul (hp : Bool) (x y : D) (h : Hs) : R D := match x, y with
  | .int a, .int b => if (-(2 ^ 64) < a ∧ a < 2 ^ 64) ∨ (-(2 ^ 64) < b ∧ b < 2 ^ 64) then .ok (.int (a * b)) h else .no
  | .str a, .int k => if 1 ≤ k ∧ k ≤ 1000000 ∧ a.length ≤ 16 then .ok (.str (List.replicate k.toNat a).flatten) h else .no
  | .tup a, .int k => if 0 < a.length ∧ k = 1 then .ok (.tup a) h else if 0 < a.length ∧ k = 0 then mkT [] h else if 0 < a.length ∧ a.length ≤ 1000 ∧ 2 ≤ k ∧ k ≤ 1000 then mkT (List.replicate k.toNat a).flatten h else .no
  | a, .int k => match lsuOf h a with
    | some xs => if -(2 ^ 63) ≤ k ∧ k < 2 ^ 63 ∧ xs.length * k.toNat ≤ SZ then mkL hp (List.replicate k.toNat xs).flatten h else .no
    | none => .no
  | _, _ => .no
def opFdiv (x y : D) (h : Hs) : R D := match x, y with
  | .int a, .int b => if b ≠ 0 ∧ b.natAbs < 1073741824 then .ok (.int (a.fdiv b)) h else .no
  | _, _ => .no
def opMod (x y : D) (h : Hs) : R D := match x, y with
  | .int a, .int b => if b ≠ 0 then .ok (.int (a.fmod b)) h else .no
  | _, _ => .no
def opPow (x y : D) (h : Hs) : R D := match x, y with
  | .int a, .int b => if 0 ≤ b ∧ b ≤ 1000000 ∧ a.natAbs < 2 ^ 64 then .ok (.int (a ^ b.toNat)) h else .no
  | _, _ => .no
/-- flat things: no object -/
def flatD : D → Bool
  | .non => true
  | .bl _ => true
  | .int _ => true
  | .str _ => true
  | _ => false
inductive Cop where
  | eq | ne | lt | le | gt | ge | isx | isnot | inn | notin
def inD (h : Hs) (x y : D) : Option Bool := match x, y with
  | .str [c], .str z => some (decide (c ∈ z))
  | x, y => match seqOf h y with
    | some ys => if flatD x && ys.all flatD then some (ys.any fun z => D.eqv z x) else none
    | none => match dctOf h y with
      | some kvs => if isKey x then some ((dget kvs x).isSome) else none
      | none => none
def eqD (h : Hs) (x y : D) : Option Bool := match x, y with
  | .str a, .str b => some (a == b)
  | x, y => if D.dat 64 (datOf h x) && D.dat 64 (datOf h y) then some (D.eqv (datOf h x) (datOf h y)) else none
def isD (x y : D) : Option Bool := match y, x with
  | .non, .non => some true
  | .non, _ => some false
  | .bl b, .bl c => some (c == b)
  | .bl _, _ => some false
  | _, _ => none
def cmpD (o : Cop) (x y : D) (h : Hs) : Option Bool := match o with
  | .eq => eqD h x y
  | .ne => (eqD h x y).map (!·)
  | .inn => inD h x y
  | .notin => (inD h x y).map (!·)
  | .isx => isD x y
  | .isnot => (isD x y).map (!·)
  | .lt => match x, y with
    | .int a, .int b => some (decide (a < b))
    | .str a, .str b => some (decide (a < b))
    | _, _ => none
  | .le => match x, y with
    | .int a, .int b => some (decide (a ≤ b))
    | .str a, .str b => some (decide (a ≤ b))
    | _, _ => none
  | .gt => match x, y with
    | .int a, .int b => some (decide (b < a))
    | .str a, .str b => some (decide (b < a))
    | _, _ => none
  | .ge => match x, y with
    | .int a, .int b => some (decide (b ≤ a))
    | .str a, .str b => some (decide (b ≤ a))
    | _, _ => none
def opCmp (o : Cop) (x y : D) (h : Hs) : R D := match cmpD o x y h with
  | some b => .ok (.bl b) h
  | none => .no

/-! ### expressions -/
def mLit (d : D) : M D := fun _ h => .ok d h
def mVar (i : Nat) : M D := fun σ h => match σ[i]? with
  | some (some d) => .ok d h
  | _ => .no
def mOp (f : D → D → Hs → R D) (a b : M D) : M D := fun σ h => (a σ h).bind fun x h1 => (b σ h1).bind fun y h2 => f x y h2
def mNeg (a : M D) : M D := fun σ h => (a σ h).bind fun x h1 => match x with
  | .int i => .ok (.int (-i)) h1
  | _ => .no
/-- a o b o' c: b is asked once -/
def mChain (o o' : Cop) (a b c : M D) : M D := fun σ h => (a σ h).bind fun x h1 => (b σ h1).bind fun y h2 => match cmpD o x y h2 with
  | some true => (c σ h2).bind fun z h3 => opCmp o' y z h3
  | some false => .ok (.bl false) h2
  | none => .no
/-- and, or, not as values: of flags but for the last -/
def mAnd (a b : M D) : M D := fun σ h => (a σ h).bind fun x h1 => match x with
  | .bl true => b σ h1
  | .bl false => .ok (.bl false) h1
  | _ => .no
def mOr (a b : M D) : M D := fun σ h => (a σ h).bind fun x h1 => match x with
  | .bl true => .ok (.bl true) h1
  | .bl false => b σ h1
  | _ => .no
def mNot (a : M D) : M D := fun σ h => (a σ h).bind fun x h1 => match x with
  | .bl b => .ok (.bl (!b)) h1
  | _ => .no
/-- not x as a value, of any truth -/
def mNotT (t : M D) : M D := fun σ h => (t σ h).bind fun x h1 => match truth h1 x with
  | some b => .ok (.bl (!b)) h1
  | none => .no
/-- tests -/
def tVal (a : M D) : M Bool := fun σ h => (a σ h).bind fun x h1 => match truth h1 x with
  | some b => .ok b h1
  | none => .no
def tAnd (a b : M Bool) : M Bool := fun σ h => (a σ h).bind fun x h1 => if x = true then b σ h1 else .ok false h1
def tOr (a b : M Bool) : M Bool := fun σ h => (a σ h).bind fun x h1 => if x = true then .ok true h1 else b σ h1
def tNot (a : M Bool) : M Bool := fun σ h => (a σ h).bind fun x h1 => .ok (!x) h1
def mIfe (t : M Bool) (a b : M D) : M D := fun σ h => (t σ h).bind fun x h1 => if x = true then a σ h1 else b σ h1
/-- a row of expressions, from the left -/
def mNil : M (List D) := fun _ h => .ok [] h
def mCons (a : M D) (r : M (List D)) : M (List D) := fun σ h => (a σ h).bind fun x h1 => (r σ h1).bind fun xs h2 => .ok (x :: xs) h2
/-- a function of the values of a row -/
def mApp (f : List D → Hs → R D) (as : M (List D)) : M D := fun σ h => (as σ h).bind f
def mTup (as : M (List D)) : M D := mApp mkT as
def mLst (hp : Bool) (as : M (List D)) : M D := mApp (mkL hp) as
def opIx (x y : D) (h : Hs) : R D := match x, y with
  | .str s, .int i => if s.length ≤ SZ then (match (ixD s.length i).bind fun j => s[j]? with
    | some c => .ok (.str [c]) h
    | none => .no) else .no
  | x, y => match seqOf h x with
    | some xs => (match y with
      | .int i => (match (ixD xs.length i).bind fun j => xs[j]? with
        | some v => .ok v h
        | none => .no)
      | _ => .no)
    | none => (match dctOf h x with
      | some kvs => if isKey y then (match dget kvs y with
        | some v => .ok v h
        | none => .no) else .no
      | none => .no)
/-- the ends of a slice -/
def mPart (a : Option (M D)) : M (Option Int) := match a with
  | none => fun _ h => .ok none h
  | some a => fun σ h => (a σ h).bind fun x h1 => match x with
    | .int i => .ok (some i) h1
    | _ => .no
def opSlc (hp : Bool) (x : D) (lo hi : Option Int) (h : Hs) : R D := match x with
  | .str s => if s.length ≤ SZ then .ok (.str (cutD s lo hi)) h else .no
  | .tup xs => .ok (.tup (cutD xs lo hi)) h
  | x => match lstOf h x with
    | some xs => mkL hp (cutD xs lo hi) h
    | none => .no
def mSlc (hp : Bool) (a : M D) (lo hi : Option (M D)) : M D := fun σ h => (a σ h).bind fun x h1 => (mPart lo σ h1).bind fun l h2 => (mPart hi σ h2).bind fun u h3 => opSlc hp x l u h3

/-! ### statements -/
inductive Out where
  | nx (σ : Env) (h : Hs) | rt (d : D) (h : Hs) | bk (σ : Env) (h : Hs) | ct (σ : Env) (h : Hs) | xc (c : Nat) (fs : List (Nat × D)) (σ : Env) (h : Hs) | no
abbrev B := Env → Hs → Out
/-- a value, then a statement's rest -/
def R.out {α : Type} (r : R α) (σ : Env) (f : α → Hs → Out) : Out := match r with
  | .ok a h => f a h
  | .xc c fs h => .xc c fs σ h
  | .no => .no
@[simp] theorem out_ok {α : Type} (a : α) (h : Hs) (σ : Env) (f : α → Hs → Out) : (R.ok a h).out σ f = f a h := rfl
@[simp] theorem out_xc {α : Type} (c : Nat) (fs : List (Nat × D)) (h : Hs) (σ : Env) (f : α → Hs → Out) : (R.xc c fs h : R α).out σ f = .xc c fs σ h := rfl
@[simp] theorem out_no {α : Type} (σ : Env) (f : α → Hs → Out) : (R.no : R α).out σ f = .no := rfl
def Out.andThen (o : Out) (f : B) : Out := match o with
  | .nx σ h => f σ h
  | o => o
@[simp] theorem then_nx (σ : Env) (h : Hs) (f : B) : (Out.nx σ h).andThen f = f σ h := rfl
@[simp] theorem then_rt (d : D) (h : Hs) (f : B) : (Out.rt d h).andThen f = .rt d h := rfl
@[simp] theorem then_bk (σ : Env) (h : Hs) (f : B) : (Out.bk σ h).andThen f = .bk σ h := rfl
@[simp] theorem then_ct (σ : Env) (h : Hs) (f : B) : (Out.ct σ h).andThen f = .ct σ h := rfl
@[simp] theorem then_xc (c : Nat) (fs : List (Nat × D)) (σ : Env) (h : Hs) (f : B) : (Out.xc c fs σ h).andThen f = .xc c fs σ h := rfl
@[simp] theorem then_no (f : B) : (Out.no).andThen f = .no := rfl
def sPass : B := fun σ h => .nx σ h
def sSeq (a b : B) : B := fun σ h => (a σ h).andThen b
def sEx (a : M D) : B := fun σ h => (a σ h).out σ fun _ h1 => .nx σ h1
def sRet (a : M D) : B := fun σ h => (a σ h).out σ fun d h1 => .rt d h1
/-- a, b = x, y -/
def sPar (i j : Nat) (as : M (List D)) : B := fun σ h => (as σ h).out σ fun ds h1 => match ds with
  | [u, v] => .nx ((σ.set i (some u)).set j (some v)) h1
  | _ => .no
/-- raise of a class without fields -/
def sRaise (c : Nat) : B := fun σ h => .xc c [] σ h
/-- raise C(..), a class with fields -/
def sRaiseX (c : Nat) (ks : List Nat) (as : M (List D)) : B := fun σ h => (as σ h).out σ fun ds h1 => if ds.length = ks.length then .xc c (ks.zip ds).reverse σ h1 else .no
/-- except clauses: the class, the slot of its name, the suite -/
abbrev HdE := Nat × Option Nat × (Nat → List (Nat × D) → B)
def hEnd (sl : Option Nat) (o : Out) : Out := match o with
  | .nx σ h => .nx (match sl with | none => σ | some i => σ.set i none) h
  | .bk σ h => .bk (match sl with | none => σ | some i => σ.set i none) h
  | .ct σ h => .ct (match sl with | none => σ | some i => σ.set i none) h
  | .rt d h => .rt d h
  | _ => .no
def hGo (mt : Nat → Nat → Option Bool) (c : Nat) (fs : List (Nat × D)) : List HdE → B
  | [] => fun σ h => .xc c fs σ h
  | (k, sl, s) :: r => fun σ h => match mt c k with
    | some true => (match sl with
      | none => hEnd none (s c fs σ h)
      | some i => if i < σ.length then hEnd (some i) (s c fs (σ.set i none) h) else .no)
    | some false => hGo mt c fs r σ h
    | none => .no
def sTry (mt : Nat → Nat → Option Bool) (b : B) (hs : List HdE) : B := fun σ h => match b σ h with
  | .xc c fs σ1 h1 => hGo mt c fs hs σ1 h1
  | o => o
def sBrk : B := fun σ h => .bk σ h
def sCnt : B := fun σ h => .ct σ h
def sIf (t : M Bool) (a b : B) : B := fun σ h => (t σ h).out σ fun x h1 => if x = true then a σ h1 else b σ h1
/-- a target: what a value does to the slots and the heap -/
abbrev Tg := D → Env → Hs → R Env
def gVar (i : Nat) : Tg := fun d σ h => .ok (σ.set i (some d)) h
def gTup (gs : List Tg) : Tg := fun d σ h => match d with
  | .tup xs => if xs.length = gs.length then go gs xs σ h else .no
  | _ => .no
where go : List Tg → List D → Env → Hs → R Env
  | [], _, σ, h => .ok σ h
  | g :: gs, x :: xs, σ, h => (g x σ h).bind fun σ1 h1 => go gs xs σ1 h1
  | _ :: _, [], _, _ => .no
def opSet (x y v : D) (h : Hs) : Option Hs := match x with
  | .ref n => match h[n]?, y with
    | some (.lst xs), .int i => (match ixD xs.length i with
      | some j => some (h.set n (.lst (xs.set j v)))
      | none => none)
    | some (.dct kvs), y => if isKey y && decide (kvs.length < SZ) then some (h.set n (.dct (dput kvs y v))) else none
    | _, _ => none
  | _ => none
def gSub (a i : M D) : Tg := fun v σ h => (a σ h).bind fun x h1 => (i σ h1).bind fun y h2 => match opSet x y v h2 with
  | some h3 => .ok σ h3
  | none => .no
/-- behind a target's store; a target that raises is not served -/
def R.gout (r : R Env) (f : Env → Hs → Out) : Out := match r with
  | .ok a h => f a h
  | _ => .no
@[simp] theorem gout_ok (a : Env) (h : Hs) (f : Env → Hs → Out) : (R.ok a h).gout f = f a h := rfl
def sAsg (a : M D) (g : Tg) : B := fun σ h => (a σ h).out σ fun x h1 => (g x σ h1).gout .nx
def opIAdd (x y : D) (h : Hs) : R D := match x, y with
  | .int a, .int b => .ok (.int (a + b)) h
  | .str a, .str b => if a.length + b.length ≤ SZ then .ok (.str (a ++ b)) h else .no
  | _, _ => .no
/-- x += e -/
def sAug (i : Nat) (f : D → D → Hs → R D) (a : M D) : B := fun σ h => match σ[i]? with
  | some (some x) => (a σ h).out σ fun y h1 => (f x y h1).out σ fun z h2 => .nx (σ.set i (some z)) h2
  | _ => .no
-- what a for walks: its values, and the thing (a list of the heap must stand still)
open Classical in
noncomputable def loopGo (chk : Hs → Prop) (g : Tg) (b : B) : List D → Env → Hs → Out
  | [], σ, h => if chk h then .nx σ h else .no
  | x :: xs, σ, h => if chk h then (g x σ h).gout fun σ1 h1 => (match b σ1 h1 with
    | .nx σ2 h2 => loopGo chk g b xs σ2 h2
    | .ct σ2 h2 => loopGo chk g b xs σ2 h2
    | .bk σ2 h2 => .nx σ2 h2
    | o => o) else .no
/-- a walk: the items, and what is looked at ahead of each turn -/
abbrev It := M (List D × (Hs → Prop))
def chkTrue : Hs → Prop := fun _ => True
def itOf (h : Hs) (d : D) : R (List D × (Hs → Prop)) := match d with
  | .tup xs => .ok (xs, chkTrue) h
  | .fl xs => .ok (xs, chkTrue) h
  | .sl xs => .ok (xs, chkTrue) h
  | .str s => .ok (s.map fun c => .str [c], chkTrue) h
  | .ref n => match h[n]? with
    | some (.lst xs) => .ok (xs, fun h' => h'[n]? = some (.lst xs)) h
    | _ => .no
  | _ => .no
def iVal (a : M D) : It := fun σ h => (a σ h).bind fun d h1 => itOf h1 d
def rngL (i : Int) : Nat → List D
  | 0 => []
  | n + 1 => .int i :: rngL (i + 1) n
def iRng1 (a : M D) : It := fun σ h => (a σ h).bind fun x h1 => match x with
  | .int j => if -(2 ^ 62) ≤ j ∧ j < 2 ^ 62 then .ok (rngL 0 j.toNat, chkTrue) h1 else .no
  | _ => .no
def iRng2 (a b : M D) : It := fun σ h => (a σ h).bind fun x h1 => (b σ h1).bind fun y h2 => match x, y with
  | .int i, .int j => if (-(2 ^ 62) ≤ i ∧ i < 2 ^ 62) ∧ -(2 ^ 62) ≤ j ∧ j < 2 ^ 62 then .ok (rngL i (j - i).toNat, chkTrue) h2 else .no
  | _, _ => .no
noncomputable def sFor (g : Tg) (it : It) (b : B) : B := fun σ h => (it σ h).out σ fun p h1 => loopGo p.2 g b p.1 σ h1
def whileGo (t : M Bool) (b : B) : Nat → Env → Hs → Out
  | 0, _, _ => .no
  | n + 1, σ, h => (t σ h).out σ fun x h1 => if x = true then (match b σ h1 with
    | .nx σ2 h2 => whileGo t b n σ2 h2
    | .ct σ2 h2 => whileGo t b n σ2 h2
    | .bk σ2 h2 => .nx σ2 h2
    | o => o) else .nx σ h1
def sWhile (n : Nat) (t : M Bool) (b : B) : B := whileGo t b n
end DN

set_option Elab.async false
set_option linter.all false
set_option maxRecDepth 100000
/-! C0: calls and built-ins as functions on plain values. -/
namespace DN
open PySem

/-! ### defs -/
abbrev Calls := Nat → List D → Hs → R D
/-- one def: how many parameters, how many slots, whether it leaves no trace, its body -/
structure FnE where
  ar : Nat
  sl : Nat
  pure : Bool
  body : Nat → Calls → B
def finB : Out → R D
  | .nx _ h => .ok .non h
  | .rt d h => .ok d h
  | .xc c fs _ h => .xc c fs h
  | _ => .no
/-- what a traceless def hands back: nothing of what it made is an object any more -/
def frz (k : Nat) (h' h : Hs) : D → R D
  | .ref n => if n < k then .ok (.ref n) h else (match h'[n]? with
    | some (.lst xs) => if D.blws k xs then .ok (.fl xs) h else .no
    | some (.dct kvs) => if D.blwp k kvs then .ok (.fd kvs) h else .no
    | _ => .no)
  | d => if D.blw k d then .ok d h else .no
open Classical in
noncomputable def purify (h : Hs) : R D → R D
  | .ok d h' => if ∃ g, h' = h ++ g then frz h.length h' h d else .no
  | .xc c fs h' => if (∃ g, h' = h ++ g) ∧ D.blws h.length (fs.map (·.2)) = true then .xc c fs h else .no
  | .no => .no
def startE (sl : Nat) (ds : List D) : Env := ds.map some ++ List.replicate (sl - ds.length) none
noncomputable def FnE.run (f : FnE) (n : Nat) (C : Calls) (ds : List D) (h : Hs) : R D :=
  if ds.length = f.ar then (if f.pure then purify h (finB (f.body n C (startE f.sl ds) h)) else finB (f.body n C (startE f.sl ds) h)) else .no
/-- the defs of a text, to a depth -/
noncomputable def callG (tab : Nat → Option FnE) (n : Nat) : Nat → Calls
  | 0 => fun _ _ _ => .no
  | d + 1 => fun f ds h => match tab f with
    | some fe => fe.run n (callG tab n d) ds h
    | none => .no
@[irreducible] noncomputable def callF (tab : Nat → Option FnE) (n d : Nat) : Calls := callG tab n d
theorem callF_0 (tab : Nat → Option FnE) (n f : Nat) (ds : List D) (h : Hs) : callF tab n 0 f ds h = .no := by
  unfold callF
  rfl
theorem callF_s {tab : Nat → Option FnE} {n d f : Nat} {fe : FnE} (e : tab f = some fe) (ds : List D) (h : Hs) : callF tab n (d + 1) f ds h = fe.run n (callF tab n d) ds h := by
  unfold callF
  show (match tab f with | some fe => fe.run n (callG tab n d) ds h | none => .no) = _
  rw [e]
def mCall (C : Calls) (f : Nat) (as : M (List D)) : M D := mApp (C f) as
/-- a local name that holds a def -/
def mCallV (C : Calls) (i : Nat) (as : M (List D)) : M D := fun σ h => match σ[i]? with
  | some (some (.fn f)) => mApp (C f) as σ h
  | _ => .no

/-! ### built-ins -/
def bLen (ds : List D) (h : Hs) : R D := match ds with
  | [.str s] => if s.length ≤ SZ then .ok (.int s.length) h else .no
  | [d] => (match seqOf h d with
    | some xs => .ok (.int xs.length) h
    | none => match dctOf h d with
      | some kvs => .ok (.int kvs.length) h
      | none => .no)
  | _ => .no
def bAbs (ds : List D) (h : Hs) : R D := match ds with
  | [.int i] => .ok (.int (if i < 0 then -i else i)) h
  | _ => .no
def bInt (ds : List D) (h : Hs) : R D := match ds with
  | [.int i] => .ok (.int i) h
  | [.bl b] => .ok (.int (if b then 1 else 0)) h
  | _ => .no
def bMin2 (ds : List D) (h : Hs) : R D := match ds with
  | [.int i, .int j] => .ok (.int (if j < i then j else i)) h
  | _ => .no
def bMax2 (ds : List D) (h : Hs) : R D := match ds with
  | [.int i, .int j] => .ok (.int (if j > i then j else i)) h
  | _ => .no
def bList (hp : Bool) (ds : List D) (h : Hs) : R D := match ds with
  | [d] => (match seqOf h d with
    | some xs => mkL hp xs h
    | none => .no)
  | _ => .no
def bTuple (ds : List D) (h : Hs) : R D := match ds with
  | [.tup xs] => .ok (.tup xs) h
  | [d] => (match lstOf h d with
    | some xs => mkT xs h
    | none => .no)
  | _ => .no
def bOrd (ds : List D) (h : Hs) : R D := match ds with
  | [.str [c]] => .ok (.int c) h
  | _ => .no
inductive Ty where
  | int | bool | str | tuple | list | dict
  deriving DecidableEq
/-- isinstance -/
def isTy (h : Hs) : D → Ty → Option Bool
  | .non, _ => some false
  | .bl _, t => some (t == .bool || t == .int)
  | .int _, t => some (t == .int)
  | .str _, t => some (t == .str)
  | .tup _, t => some (t == .tuple)
  | .fl _, t => some (t == .list)
  | .sl _, t => some (t == .list)
  | .fd _, t => some (t == .dict)
  | .ref n, t => match h[n]? with
    | some (.lst _) => some (t == .list)
    | some (.dct _) => some (t == .dict)
    | _ => none
  | _, _ => none
def bIsi (t : Ty) (ds : List D) (h : Hs) : R D := match ds with
  | [d] => (match isTy h d t with
    | some b => .ok (.bl b) h
    | none => .no)
  | _ => .no
/-! ### methods of lists -/
def eAppend (x : D) (ds : List D) (h : Hs) : R D := match x, ds with
  | .ref n, [d] => (match h[n]? with
    | some (.lst xs) => if xs.length < SZ then .ok .non (h.set n (.lst (xs ++ [d]))) else .no
    | _ => .no)
  | _, _ => .no
def eExtend (x : D) (ds : List D) (h : Hs) : R D := match x, ds with
  | .ref n, [d] => (match h[n]?, lsuOf h d with
    | some (.lst xs), some ys => if xs.length + ys.length ≤ SZ then .ok .non (h.set n (.lst (xs ++ ys))) else .no
    | _, _ => .no)
  | _, _ => .no
def ePop (x : D) (ds : List D) (h : Hs) : R D := match x, ds with
  | .ref n, [] => (match h[n]? with
    | some (.lst xs) => (match xs[xs.length - 1]? with
      | some y => .ok y (h.set n (.lst xs.dropLast))
      | none => .no)
    | _ => .no)
  | .ref n, [.int 0] => (match h[n]? with
    | some (.lst (y :: xs)) => .ok y (h.set n (.lst xs))
    | _ => .no)
  | _, _ => .no
def mMth (f : D → List D → Hs → R D) (o : M D) (as : M (List D)) : M D := fun σ h => (o σ h).bind fun x h1 => (as σ h1).bind fun ds h2 => f x ds h2

def mIsi (t : Ty) (m : M D) : M D := fun σ h => (m σ h).bind fun x h1 => match isTy h1 x t with
  | some b => .ok (.bl b) h1
  | none => .no
def isT (T : String) (h : Hs) (x : D) : Bool := match T with
  | "list" => (lstOf h x).isSome
  | "dict" => (dctOf h x).isSome
  | "str" => match x with
    | .str _ => true
    | _ => false
  | _ => false
/-- o.m(..): the receiver's type is looked at first -/
def mBM (T : String) (f : D → List D → Hs → R D) (o : M D) (as : M (List D)) : M D := fun σ h => (o σ h).bind fun x h1 => if isT T h1 x then (as σ h1).bind fun ds h2 => f x ds h2 else .no
/-- a call's arguments are as many as the def asks: told by the meaning -/
def mCallN (C : Calls) (ar f : Nat) (as : M (List D)) : M D := mApp (fun ds h => if ds.length = ar then C f ds h else .no) as
/-! ### comprehensions of one clause; what is made raises nothing -/
def wipeE (σ : Env) : List Nat → Env
  | [] => σ
  | v :: vs => (wipeE σ vs).set v none
/-- the targets of a comprehension: one name, a tuple of names -/
def cTg : List Nat → Tg
  | [i] => gVar i
  | is => gTup (is.map gVar)
open Classical in
noncomputable def lcGo (chk : Hs → Prop) (own : List Nat) (g : Tg) (t : M Bool) (e : M D) : List D → Env → Hs → R (List D)
  | [], _, h => if chk h then .ok [] h else .no
  | x :: xs, σ, h => if chk h then (match g x (wipeE σ own) h with
    | .ok σ1 h1 => (match t σ1 h1 with
      | .ok true h2 => (match e σ1 h2 with
        | .ok y h3 => (match lcGo chk own g t e xs σ h3 with
          | .ok ys h4 => .ok (y :: ys) h4
          | _ => .no)
        | _ => .no)
      | .ok false h2 => lcGo chk own g t e xs σ h2
      | _ => .no)
    | _ => .no) else .no
def tYesM : M Bool := fun _ h => .ok true h
noncomputable def mLc (hp : Bool) (own : List Nat) (is : List Nat) (it : It) (t : M Bool) (e : M D) : M D := fun σ h => (it σ h).bind fun p h1 => match lcGo p.2 own (cTg is) t e p.1 σ h1 with
  | .ok ys h2 => mkL hp ys h2
  | _ => .no
end DN

set_option Elab.async false
set_option linter.all false
set_option maxRecDepth 100000
/-! D1: plain values and heaps against the layer's values and heaps; what a construct's meaning asks. -/
namespace DN
open PySem PySem.Spec L2
open PyProof.Rows hiding St

/-- the names of one law: the written part, attributes, defs, classes -/
structure Nm where
  K : PySem.W.Frag
  attr : Nat → Str
  fa : Nat → Addr
  ca : Nat → Addr
  xs : Option (Nat × Addr)
  kp : Addr → Option (List (Str × V))
  tb : List Addr
/-- no exception is held -/
def Nm.Cold (N : Nm) : Prop := N.xs = none ∧ ∀ a, N.kp a = none
/-- a world: where the plain heap's objects stand; what never changes; what a construct holds for itself (a comprehension's list) -/
structure Wd where
  io : List Addr
  im : Hp
  pv : Hp
structure Wd.le (w w' : Wd) : Prop where
  io : ∃ more, w'.io = w.io ++ more
  im : ∀ a o, w.im a = some o → w'.im a = some o
  pv : ∀ a o, w.pv a = some o → w'.pv a = some o
theorem Wd.le.refl (w : Wd) : w.le w := ⟨⟨[], by simp⟩, fun _ _ h => h, fun _ _ h => h⟩
theorem Wd.le.trans {a b c : Wd} (x : a.le b) (y : b.le c) : a.le c := by
  obtain ⟨⟨m, e⟩, h, h'⟩ := x
  obtain ⟨⟨n, f⟩, g, g'⟩ := y
  exact ⟨⟨m ++ n, by rw [f, e, List.append_assoc]⟩, fun a o q => g a o (h a o q), fun a o q => g' a o (h' a o q)⟩
theorem Wd.le.at_ {w w' : Wd} (x : w.le w') {n : Nat} {a : Addr} (h : w.io[n]? = some a) : w'.io[n]? = some a := by
  obtain ⟨⟨m, e⟩, _⟩ := x
  rw [e, List.getElem?_append_left (List.getElem?_eq_some_iff.mp h).1]
  exact h

/-- nothing is held -/
def Wd.np (w : Wd) : Wd := ⟨w.io, w.im, fun _ => none⟩
theorem Wd.np_le {w w' : Wd} (x : w.le w') : w.np.le w' := ⟨x.io, x.im, fun _ _ h => by cases h⟩
theorem Wd.np_up {w w' : Wd} (x : w.le w') : w.np.le w'.np := ⟨x.io, x.im, fun _ _ h => by cases h⟩

def toS (s : List Nat) : Str := ⟨s.toArray⟩
theorem toS_list (s : List Nat) : (toS s).cps.toList = s := rfl
theorem toS_length (s : List Nat) : (toS s).length = s.length := by simp [Str.length, toS]
theorem toS_of (x : Str) : toS x.cps.toList = x := by
  obtain ⟨a⟩ := x
  simp [toS]
theorem toS_inj {s t : List Nat} (h : toS s = toS t) : s = t := by
  have := congrArg (fun x : Str => x.cps.toList) h
  exact this

def KeyRep : D → Key → Prop
  | .int i, k => k = Sum.inl i
  | .str s, k => k = Sum.inr (toS s)
  | _, _ => False
/-- an unchanging tuple, list: tracked, or of the written part -/
def TupAt (N : Nm) (w : Wd) (a : Addr) (vs : List V) : Prop := w.im a = some (.tup vs) ∨ SqT N.K (fun _ => none) a vs
def LstAt (w : Wd) (a : Addr) (vs : List V) : Prop := w.im a = some (.lst vs)
def ScrAt (N : Nm) (w : Wd) (a : Addr) (vs : List V) : Prop := (∃ o, w.im a = some (.frz o (.lst vs))) ∨ LstAt w a vs ∨ SqL N.K (fun _ => none) a vs
theorem TupAt.up {N : Nm} {w w' : Wd} {a : Addr} {vs : List V} (x : w.le w') (r : TupAt N w a vs) : TupAt N w' a vs := r.imp (x.im a _) id
theorem LstAt.up {w w' : Wd} {a : Addr} {vs : List V} (x : w.le w') (r : LstAt w a vs) : LstAt w' a vs := x.im a _ r
theorem ScrAt.up {N : Nm} {w w' : Wd} {a : Addr} {vs : List V} (x : w.le w') (r : ScrAt N w a vs) : ScrAt N w' a vs := r.imp (fun ⟨o, h⟩ => ⟨o, x.im a _ h⟩) (Or.imp (x.im a _) id)
/-- an exception's fields: ints and texts -/
def fldV (at_ : Nat → Str) : List (Nat × D) → Option (List (Str × V))
  | [] => some []
  | (k, d) :: r => (match d, fldV at_ r with
    | .int i, some l => some ((at_ k, .int i) :: l)
    | .str s, some l => some ((at_ k, .str (toS s)) :: l)
    | _, _ => none)
mutual
def Rep (N : Nm) (w : Wd) : D → V → Prop
  | .non, v => v = .non
  | .bl b, v => v = .bl b
  | .int i, v => v = .int i
  | .str s, v => v = .str (toS s)
  | .tup xs, v => ∃ a vs, v = .ref a ∧ TupAt N w a vs ∧ Reps N w xs vs
  | .fl xs, v => ∃ a vs, v = .ref a ∧ LstAt w a vs ∧ Reps N w xs vs
  | .sl xs, v => ∃ a vs, v = .ref a ∧ ScrAt N w a vs ∧ Reps N w xs vs
  | .fd kvs, v => ∃ a ks, v = .ref a ∧ w.im a = some (.dK ks) ∧ Repd N w kvs ks
  | .ref n, v => ∃ a, w.io[n]? = some a ∧ v = .ref a
  | .fn f, v => v = .ref (N.fa f)
  | .xc c fs, v => ∃ a dd, v = .ref a ∧ w.im a = some (exo a (N.ca c) dd) ∧ ((fs = [] ∧ dd = none) ∨ ∃ ad fv, dd = some ad ∧ w.im ad = some (exd ad fv) ∧ fldV N.attr fs = some fv)
def Reps (N : Nm) (w : Wd) : List D → List V → Prop
  | [], vs => vs = []
  | x :: xs, vs => ∃ v r, vs = v :: r ∧ Rep N w x v ∧ Reps N w xs r
def Repd (N : Nm) (w : Wd) : List (D × D) → List (Key × V) → Prop
  | [], vs => vs = []
  | (k, x) :: xs, vs => ∃ q v r, vs = (q, v) :: r ∧ KeyRep k q ∧ Rep N w x v ∧ Repd N w xs r
end
def Repf (N : Nm) (w : Wd) : List (Nat × D) → List (Str × V) → Prop
  | [], vs => vs = []
  | (k, x) :: xs, vs => ∃ v r, vs = (N.attr k, v) :: r ∧ Rep N w x v ∧ Repf N w xs r

section
variable {N : Nm} {w w' : Wd}
mutual
theorem Rep.up (x : w.le w') : ∀ (d : D) (v : V), Rep N w d v → Rep N w' d v
  | .non, _, h => h
  | .bl _, _, h => h
  | .int _, _, h => h
  | .str _, _, h => h
  | .tup xs, _, h => by
    obtain ⟨a, vs, e, s, r⟩ := h
    exact ⟨a, vs, e, s.up x, Reps.up x xs vs r⟩
  | .fl xs, _, h => by
    obtain ⟨a, vs, e, s, r⟩ := h
    exact ⟨a, vs, e, s.up x, Reps.up x xs vs r⟩
  | .sl xs, _, h => by
    obtain ⟨a, vs, e, s, r⟩ := h
    exact ⟨a, vs, e, s.up x, Reps.up x xs vs r⟩
  | .fd kvs, _, h => by
    obtain ⟨a, vs, e, s, r⟩ := h
    exact ⟨a, vs, e, x.im a _ s, Repd.up x kvs vs r⟩
  | .ref _, _, h => by
    obtain ⟨a, e, r⟩ := h
    exact ⟨a, x.at_ e, r⟩
  | .fn _, _, h => h
  | .xc _ _, _, h => by
    obtain ⟨a, dd, e, h1, h2⟩ := h
    exact ⟨a, dd, e, x.im a _ h1, h2.imp id fun ⟨ad, fv, q1, q2, q3⟩ => ⟨ad, fv, q1, x.im ad _ q2, q3⟩⟩
theorem Reps.up (x : w.le w') : ∀ (ds : List D) (vs : List V), Reps N w ds vs → Reps N w' ds vs
  | [], _, h => h
  | d :: ds, _, h => by
    obtain ⟨v, r, e, h1, h2⟩ := h
    exact ⟨v, r, e, Rep.up x d v h1, Reps.up x ds r h2⟩
theorem Repd.up (x : w.le w') : ∀ (ds : List (D × D)) (vs : List (Key × V)), Repd N w ds vs → Repd N w' ds vs
  | [], _, h => h
  | (k, d) :: ds, _, h => by
    obtain ⟨q, v, r, e, hk, h1, h2⟩ := h
    exact ⟨q, v, r, e, hk, Rep.up x d v h1, Repd.up x ds r h2⟩
end
theorem Repf.up (x : w.le w') : ∀ (ds : List (Nat × D)) (vs : List (Str × V)), Repf N w ds vs → Repf N w' ds vs
  | [], _, h => h
  | (k, d) :: ds, _, h => by
    obtain ⟨v, r, e, h1, h2⟩ := h
    exact ⟨v, r, e, Rep.up x d v h1, Repf.up x ds r h2⟩
end

section
variable {N : Nm} {w : Wd}
mutual
theorem Rep.np : ∀ (d : D) (v : V), Rep N w d v → Rep N w.np d v
  | .non, _, h => h
  | .bl _, _, h => h
  | .int _, _, h => h
  | .str _, _, h => h
  | .tup xs, _, h => by
    obtain ⟨a, vs, e, s, r⟩ := h
    exact ⟨a, vs, e, s, Reps.np xs vs r⟩
  | .fl xs, _, h => by
    obtain ⟨a, vs, e, s, r⟩ := h
    exact ⟨a, vs, e, s, Reps.np xs vs r⟩
  | .sl xs, _, h => by
    obtain ⟨a, vs, e, s, r⟩ := h
    exact ⟨a, vs, e, s, Reps.np xs vs r⟩
  | .fd kvs, _, h => by
    obtain ⟨a, vs, e, s, r⟩ := h
    exact ⟨a, vs, e, s, Repd.np kvs vs r⟩
  | .ref _, _, h => by
    obtain ⟨a, e, r⟩ := h
    exact ⟨a, e, r⟩
  | .fn _, _, h => h
  | .xc _ _, _, h => h
theorem Reps.np : ∀ (ds : List D) (vs : List V), Reps N w ds vs → Reps N w.np ds vs
  | [], _, h => h
  | d :: ds, _, h => by
    obtain ⟨v, r, e, h1, h2⟩ := h
    exact ⟨v, r, e, Rep.np d v h1, Reps.np ds r h2⟩
theorem Repd.np : ∀ (ds : List (D × D)) (vs : List (Key × V)), Repd N w ds vs → Repd N w.np ds vs
  | [], _, h => h
  | (k, d) :: ds, _, h => by
    obtain ⟨q, v, r, e, hk, h1, h2⟩ := h
    exact ⟨q, v, r, e, hk, Rep.np d v h1, Repd.np ds r h2⟩
end
end

/-- an object of the plain heap stands so -/
def ObRep (N : Nm) (w : Wd) : O → Option HO → Prop
  | .lst xs, o => ∃ vs, o = some (.lst vs) ∧ Reps N w xs vs
  | .dct kvs, o => ∃ ks, o = some (.dK ks) ∧ Repd N w kvs ks
  | .ins c fs, o => ∃ dx fv, o = some (.ins (N.ca c) dx fv) ∧ Repf N w fs fv
theorem ObRep.up {N : Nm} {w w' : Wd} (x : w.le w') : ∀ (o : O) (u : Option HO), ObRep N w o u → ObRep N w' o u
  | .lst xs, _, ⟨vs, e, r⟩ => ⟨vs, e, Reps.up x xs vs r⟩
  | .dct xs, _, ⟨vs, e, r⟩ => ⟨vs, e, Repd.up x xs vs r⟩
  | .ins _ fs, _, ⟨dx, fv, e, r⟩ => ⟨dx, fv, e, Repf.up x fs fv r⟩
/-- the plain heap h stands for the layer's heap H -/
structure RelH (N : Nm) (w : Wd) (h : Hs) (H : Hp) : Prop where
  imm : ∀ a o, w.im a = some o → H a = some o
  prv : ∀ a o, w.pv a = some o → H a = some o ∧ w.im a = none ∧ a ∉ w.io
  len : w.io.length = h.length
  nod : w.io.Nodup
  sep : ∀ a ∈ w.io, w.im a = none
  obj : ∀ (n : Nat) (a : Addr) (o : O), w.io[n]? = some a → h[n]? = some o → ObRep N w o (H a)
  kep : ∀ a fv, N.kp a = some fv → H a = some (.xd fv)
  tab : ∀ P ∈ N.tb, (w.im P = none ∧ w.pv P = none) ∧ ∃ ps : Array Value, H P = some (.tbl ps) ∧ TriplesOk ps.toList
/-- the slots -/
structure RelE (N : Nm) (w : Wd) (ρ : Env) (σ : St) : Prop where
  len : ρ.length = σ.length
  slots : ∀ (i : Nat) (d : D), ρ[i]? = some (some d) → ∃ v, σ[i]? = some (some v) ∧ Rep N w d v
  x : ∀ i a, N.xs = some (i, a) → σ[i]? = some (some (.ref a))
theorem RelE.up {N : Nm} {w w' : Wd} {ρ : Env} {σ : St} (x : w.le w') (r : RelE N w ρ σ) : RelE N w' ρ σ := ⟨r.1, fun i d e => by
  obtain ⟨v, h1, h2⟩ := r.2 i d e
  exact ⟨v, h1, Rep.up x d v h2⟩, r.x⟩
theorem RelE.set {N : Nm} {w : Wd} {ρ : Env} {σ : St} {i : Nat} {d : D} {v : V} (hx : N.xs = none) (r : RelE N w ρ σ) (q : Rep N w d v) : RelE N w (ρ.set i (some d)) (σ.set i (some v)) := ⟨by rw [List.length_set, List.length_set, r.1], fun j e h => by
  by_cases hj : i = j
  · subst hj
    have hl : i < ρ.length := by
      have := (List.getElem?_eq_some_iff.mp h).1
      rwa [List.length_set] at this
    rw [List.getElem?_set_self hl] at h
    cases h
    exact ⟨v, List.getElem?_set_self (by rw [← r.1]; exact hl), q⟩
  · rw [List.getElem?_set_ne hj] at h
    obtain ⟨u, h1, h2⟩ := r.2 j e h
    exact ⟨u, by rw [List.getElem?_set_ne hj]; exact h1, h2⟩, fun j a e => by rw [hx] at e; cases e⟩
/-- a caught exception's fields stand in its own dict -/
def XRep (N : Nm) (w : Wd) (c : Nat) (fs : List (Nat × D)) (cls : Value) (d : Option Addr) (H : Hp) : Prop :=
  cls = .ref (N.ca c) ∧ match fs with
    | [] => d = none
    | fs => ∃ a fv, d = some a ∧ H a = some (.xd fv) ∧ Repf N w fs fv

/-! ### what is asked -/
def Post {α β : Type} (N : Nm) (Rl : Wd → α → β → Prop) (W : WX) (w : Wd) (σ : St) (Q : β → Hp → Prop) : R α → Prop
  | .ok d h' => ∀ w' H' v, w.le w' → RelH N w' h' H' → Rl w' d v → Q v H'
  | .xc c fs h' => ∀ w' H' cls dd, w.le w' → RelH N w' h' H' → XRep N w' c fs cls dd H' → W cls dd σ H'
  | .no => False
theorem Post.up {α β : Type} {N : Nm} {Rl : Wd → α → β → Prop} {W : WX} {w w' : Wd} {σ : St} {Q : β → Hp → Prop} (x : w.le w') : ∀ {r : R α}, Post N Rl W w σ Q r → Post N Rl W w' σ Q r
  | .ok _ _, p => fun w2 H' v l => p w2 H' v (x.trans l)
  | .xc _ _ _, p => fun w2 H' c d l => p w2 H' c d (x.trans l)
  | .no, p => p
theorem Post.mono {α β : Type} {N : Nm} {Rl : Wd → α → β → Prop} {W : WX} {w : Wd} {σ : St} {Q Q' : β → Hp → Prop} (hq : ∀ v H, Q v H → Q' v H) : ∀ {r : R α}, Post N Rl W w σ Q r → Post N Rl W w σ Q' r
  | .ok _ _, p => fun w2 H' v l r1 r2 => hq _ _ (p w2 H' v l r1 r2)
  | .xc _ _ _, p => p
  | .no, p => p
/-- what a meaning m asks -/
def TDg {α β : Type} (N : Nm) (Rl : Wd → α → β → Prop) (m : M α) (W : WX) : St → Hp → (β → Hp → Prop) → Prop := fun σ H Q =>
  ∃ w ρ h, RelH N w h H ∧ RelE N w ρ σ ∧ Post N Rl W w σ Q (m ρ h)
abbrev TD (N : Nm) (m : M D) (W : WX) : TE := TDg N (Rep N) m W
abbrev TDs (N : Nm) (m : M (List D)) (W : WX) : TA := TDg N (Reps N) m W
abbrev TDt (N : Nm) (m : M Bool) (W : WX) : TT := TDg N (fun _ a b => a = b) m W
/-- a first part, then the rest -/
theorem td_bind {α β γ δ : Type} {N : Nm} {Rl : Wd → α → β → Prop} {Rl2 : Wd → γ → δ → Prop} {m : M α} {f : α → Hs → R γ} {W : WX} {w : Wd} {ρ : Env} {h : Hs} {H : Hp} {σ : St} {Q : δ → Hp → Prop} (r1 : RelH N w h H) (r2 : RelE N w ρ σ)
    (p : Post N Rl2 W w σ Q ((m ρ h).bind f)) : TDg N Rl m W σ H (fun v H1 => ∃ w1 h1 x, w.le w1 ∧ RelH N w1 h1 H1 ∧ RelE N w1 ρ σ ∧ Rl w1 x v ∧ Post N Rl2 W w1 σ Q (f x h1)) := by
  refine ⟨w, ρ, h, r1, r2, ?_⟩
  cases e : m ρ h with
  | ok x h1 =>
    rw [e] at p
    exact fun w1 H1 v l q1 q2 => ⟨w1, h1, x, l, q1, r2.up l, q2, Post.up l p⟩
  | xc c fs h1 =>
    rw [e] at p
    exact p
  | no =>
    rw [e] at p
    exact p
/-- weaker wishes -/
theorem TDg.imp {α β : Type} {N : Nm} {Rl : Wd → α → β → Prop} {m : M α} {W : WX} {σ : St} {H : Hp} {Q Q' : β → Hp → Prop} (t : TDg N Rl m W σ H Q) (h : ∀ v H, Q v H → Q' v H) : TDg N Rl m W σ H Q' := by
  obtain ⟨w, ρ, hh, r1, r2, p⟩ := t
  exact ⟨w, ρ, hh, r1, r2, Post.mono h p⟩
/-- what is asked of a statement -/
def PostS (N : Nm) (W : WX) (w : Wd) (Dn : Ends) : Out → Prop
  | .nx ρ' h' => ∀ w' σ' H', w.le w' → RelH N w' h' H' → RelE N w' ρ' σ' → Dn.nx σ' H'
  | .bk ρ' h' => ∀ w' σ' H', w.le w' → RelH N w' h' H' → RelE N w' ρ' σ' → Dn.bk σ' H'
  | .ct ρ' h' => ∀ w' σ' H', w.le w' → RelH N w' h' H' → RelE N w' ρ' σ' → Dn.ct σ' H'
  | .rt d h' => ∀ w' H' v, w.le w' → RelH N w' h' H' → Rep N w' d v → Dn.rt v H'
  | .xc c fs ρ' h' => ∀ w' σ' H' cls dd, w.le w' → RelH N w' h' H' → RelE N w' ρ' σ' → XRep N w' c fs cls dd H' → W cls dd σ' H'
  | .no => False
theorem PostS.up {N : Nm} {W : WX} {w w' : Wd} {Dn : Ends} (x : w.le w') : ∀ {r : Out}, PostS N W w Dn r → PostS N W w' Dn r
  | .nx _ _, p => fun w2 s H' l => p w2 s H' (x.trans l)
  | .bk _ _, p => fun w2 s H' l => p w2 s H' (x.trans l)
  | .ct _ _, p => fun w2 s H' l => p w2 s H' (x.trans l)
  | .rt _ _, p => fun w2 H' v l => p w2 H' v (x.trans l)
  | .xc _ _ _ _, p => fun w2 s H' c d l => p w2 s H' c d (x.trans l)
  | .no, p => p
def TDS (N : Nm) (b : B) (W : WX) : TS := fun Dn σ H => ∃ w ρ h, RelH N w h H ∧ RelE N w ρ σ ∧ PostS N W w Dn (b ρ h)
theorem td_out {α β : Type} {N : Nm} {Rl : Wd → α → β → Prop} {m : M α} {f : α → Hs → Out} {W : WX} {w : Wd} {ρ : Env} {h : Hs} {H : Hp} {σ : St} {Dn : Ends} (r1 : RelH N w h H) (r2 : RelE N w ρ σ)
    (p : PostS N W w Dn ((m ρ h).out ρ f)) : TDg N Rl m W σ H (fun v H1 => ∃ w1 h1 x, w.le w1 ∧ RelH N w1 h1 H1 ∧ RelE N w1 ρ σ ∧ Rl w1 x v ∧ PostS N W w1 Dn (f x h1)) := by
  refine ⟨w, ρ, h, r1, r2, ?_⟩
  cases e : m ρ h with
  | ok x h1 =>
    rw [e] at p
    exact fun w1 H1 v l q1 q2 => ⟨w1, h1, x, l, q1, r2.up l, q2, PostS.up l p⟩
  | xc c fs h1 =>
    rw [e] at p
    exact fun w1 H1 cls dd l q1 q2 => p w1 σ H1 cls dd l q1 (r2.up l) q2
  | no =>
    rw [e] at p
    exact p

/-! ### reading the heap -/
theorem sqT_none {K : PySem.W.Frag} {H : Hp} {a : Addr} {vs : List V} (h : SqT K (fun _ => none) a vs) : SqT K H a vs := by
  rcases h with (h | ⟨o, h⟩) | h
  · cases h
  · cases h
  · exact .inr h
theorem sqL_none {K : PySem.W.Frag} {H : Hp} {a : Addr} {vs : List V} (h : SqL K (fun _ => none) a vs) : SqL K H a vs := by
  rcases h with (h | ⟨o, h⟩) | h
  · cases h
  · cases h
  · exact .inr h
section
variable {N : Nm} {w : Wd} {h : Hs} {H : Hp}
theorem RelH.sqT (r : RelH N w h H) {a : Addr} {vs : List V} (s : TupAt N w a vs) : SqT N.K H a vs := by
  rcases s with s | s
  · exact .inl (.inl (r.imm _ _ s))
  · exact sqT_none s
theorem RelH.sqL (r : RelH N w h H) {a : Addr} {vs : List V} (s : LstAt w a vs) : H a = some (.lst vs) := r.imm _ _ s
theorem RelH.scr (r : RelH N w h H) {a : Addr} {vs : List V} (s : ScrAt N w a vs) : SqL N.K H a vs := by
  rcases s with ⟨o, s⟩ | s | s
  · exact .inl (.inr ⟨o, r.imm _ _ s⟩)
  · exact .inl (.inl (r.imm _ _ s))
  · exact sqL_none s
/-- an object of the plain heap -/
theorem RelH.at_ (r : RelH N w h H) {n : Nat} {o : O} (e : h[n]? = some o) : ∃ a, w.io[n]? = some a ∧ ObRep N w o (H a) := by
  have hn : n < w.io.length := by rw [r.len]; exact (List.getElem?_eq_some_iff.mp e).1
  exact ⟨w.io[n], List.getElem?_eq_getElem hn, r.obj n _ o (List.getElem?_eq_getElem hn) e⟩
/-- a list: frozen, or of the heap -/
theorem RelH.lsu (r : RelH N w h H) {d : D} {v : V} {xs : List D} (q : Rep N w d v) (e : lsuOf h d = some xs) : ∃ a vs, v = .ref a ∧ H a = some (.lst vs) ∧ Reps N w xs vs := by
  unfold lsuOf at e
  split at e
  · obtain ⟨a, vs, e1, e2, e3⟩ := q
    cases e
    exact ⟨a, vs, e1, r.sqL e2, e3⟩
  · rename_i n
    obtain ⟨a, e1, e2⟩ := q
    split at e
    · rename_i ys e3
      cases e
      obtain ⟨b, e4, vs, e5, e6⟩ := r.at_ e3
      rw [e1] at e4
      cases e4
      exact ⟨a, vs, e2, e5, e6⟩
    · cases e
  · cases e
theorem RelH.lst (r : RelH N w h H) {d : D} {v : V} {xs : List D} (q : Rep N w d v) (e : lstOf h d = some xs) : ∃ a vs, v = .ref a ∧ SqL N.K H a vs ∧ Reps N w xs vs := by
  unfold lstOf at e
  split at e
  · obtain ⟨a, vs, e1, e2, e3⟩ := q
    cases e
    exact ⟨a, vs, e1, .of (r.sqL e2), e3⟩
  · obtain ⟨a, vs, e1, e2, e3⟩ := q
    cases e
    exact ⟨a, vs, e1, r.scr e2, e3⟩
  · rename_i n
    obtain ⟨a, e1, e2⟩ := q
    split at e
    · rename_i ys e3
      cases e
      obtain ⟨b, e4, vs, e5, e6⟩ := r.at_ e3
      rw [e1] at e4
      cases e4
      exact ⟨a, vs, e2, .of e5, e6⟩
    · cases e
  · cases e
/-- a tuple or a list -/
theorem RelH.seq (r : RelH N w h H) {d : D} {v : V} {xs : List D} (q : Rep N w d v) (e : seqOf h d = some xs) : ∃ a vs, v = .ref a ∧ (SqL N.K H a vs ∨ SqT N.K H a vs) ∧ Reps N w xs vs := by
  unfold seqOf at e
  split at e
  · obtain ⟨a, vs, e1, e2, e3⟩ := q
    cases e
    exact ⟨a, vs, e1, .inr (r.sqT e2), e3⟩
  · obtain ⟨a, vs, e1, e2, e3⟩ := r.lst q e
    exact ⟨a, vs, e1, .inl e2, e3⟩
end
theorem Reps.length {N : Nm} {w : Wd} : ∀ {xs : List D} {vs : List V}, Reps N w xs vs → vs.length = xs.length
  | [], _, h => by
    have h : _ = [] := h
    rw [h] <;> rfl
  | x :: xs, _, h => by
    obtain ⟨v, r, e, _, q⟩ := h
    rw [e, List.length_cons, List.length_cons, Reps.length q]
theorem Reps.get {N : Nm} {w : Wd} : ∀ {xs : List D} {vs : List V} {i : Nat} {x : D}, Reps N w xs vs → xs[i]? = some x → ∃ v, vs[i]? = some v ∧ Rep N w x v
  | [], _, _, _, _, e => by simp at e
  | y :: xs, _, 0, x, h, e => by
    obtain ⟨v, r, rfl, q, _⟩ := h
    simp at e
    subst e
    exact ⟨v, rfl, q⟩
  | y :: xs, _, i + 1, x, h, e => by
    obtain ⟨v, r, rfl, _, q⟩ := h
    obtain ⟨u, h1, h2⟩ := Reps.get (i := i) q (by simpa using e)
    exact ⟨u, by simpa using h1, h2⟩
theorem Reps.append {N : Nm} {w : Wd} : ∀ {xs ys : List D} {vs us : List V}, Reps N w xs vs → Reps N w ys us → Reps N w (xs ++ ys) (vs ++ us)
  | [], _, _, _, h, q => by
    have h : _ = [] := h
    subst h
    exact q
  | x :: xs, _, _, _, h, q => by
    obtain ⟨v, r, rfl, h1, h2⟩ := h
    exact ⟨v, _, rfl, h1, Reps.append h2 q⟩
theorem Reps.drop {N : Nm} {w : Wd} : ∀ {xs : List D} {vs : List V} (n : Nat), Reps N w xs vs → Reps N w (xs.drop n) (vs.drop n)
  | _, _, 0, h => h
  | [], _, n + 1, h => by
    have h : _ = [] := h
    subst h
    exact rfl
  | x :: xs, _, n + 1, h => by
    obtain ⟨v, r, rfl, h1, h2⟩ := h
    exact Reps.drop n h2
theorem Reps.take {N : Nm} {w : Wd} : ∀ {xs : List D} {vs : List V} (n : Nat), Reps N w xs vs → Reps N w (xs.take n) (vs.take n)
  | xs, vs, 0, h => by
    rw [List.take_zero, List.take_zero]
    exact rfl
  | [], _, n + 1, h => by
    have h : _ = [] := h
    subst h
    exact rfl
  | x :: xs, _, n + 1, h => by
    obtain ⟨v, r, rfl, h1, h2⟩ := h
    exact ⟨v, _, rfl, h1, Reps.take n h2⟩
theorem Reps.set {N : Nm} {w : Wd} : ∀ {xs : List D} {vs : List V} {x : D} {v : V} (n : Nat), Reps N w xs vs → Rep N w x v → Reps N w (xs.set n x) (vs.set n v)
  | [], _, _, _, n, h, _ => by
    have h : _ = [] := h
    subst h
    exact rfl
  | y :: xs, _, x, v, 0, h, q => by
    obtain ⟨u, r, rfl, h1, h2⟩ := h
    exact ⟨v, _, rfl, q, h2⟩
  | y :: xs, _, x, v, n + 1, h, q => by
    obtain ⟨u, r, rfl, h1, h2⟩ := h
    exact ⟨u, _, rfl, h1, Reps.set n h2 q⟩

/-! ### changing the heap -/
section
variable {N : Nm} {w : Wd} {h : Hs} {H : Hp}
/-- a new unchanging object -/
theorem RelH.newIm (r : RelH N w h H) {p : Addr} {u : HO} (hp : H p = none) : ∃ w', w.le w' ∧ w'.im p = some u ∧ RelH N w' h (upd H p u) := by
  have h1 : ∀ a, w.im a ≠ none → a ≠ p := fun a ha e => by
    subst e
    cases q : w.im a with
    | none => exact ha q
    | some o =>
      have z := r.imm a o q
      rw [hp] at z
      cases z
  have h2 : ∀ n o a, w.io[n]? = some a → h[n]? = some o → a ≠ p := fun n o a e1 e2 e => by
    subst e
    have z := r.obj n a o e1 e2
    rw [hp] at z
    cases o with
    | lst xs => obtain ⟨_, e, _⟩ := z; cases e
    | dct xs => obtain ⟨_, e, _⟩ := z; cases e
    | ins c xs => obtain ⟨_, _, e, _⟩ := z; cases e
  have h3 : p ∉ w.io := fun hm => by
    obtain ⟨n, hn, e⟩ := List.getElem_of_mem hm
    have e2 : w.io[n]? = some p := by rw [List.getElem?_eq_getElem hn, e]
    have hn2 : n < h.length := by rw [← r.len]; exact hn
    exact h2 n h[n] p e2 (List.getElem?_eq_getElem hn2) rfl
  have le : w.le ⟨w.io, upd w.im p u, w.pv⟩ := ⟨⟨[], by simp⟩, fun a o e => by show upd w.im p u a = some o; rw [upd_ne (h1 a (by rw [e]; simp))]; exact e, fun _ _ e => e⟩
  refine ⟨⟨w.io, upd w.im p u, w.pv⟩, le, upd_same, ?_⟩
  refine ⟨fun a o e => ?_, fun a o e => ?_, r.len, r.nod, fun a ha => ?_, fun n a o e1 e2 => ?_, fun a fv e => by
      have z := r.kep a fv e
      rw [upd_ne (fun y => by rw [y, hp] at z; cases z)]
      exact z, fun P hP => by
      obtain ⟨⟨z1, z2⟩, ps, z, t⟩ := r.tab P hP
      have ne : P ≠ p := fun y => by rw [y, hp] at z; cases z
      exact ⟨⟨by show upd w.im p u P = none; rw [upd_ne ne]; exact z1, z2⟩, ps, by rw [upd_ne ne]; exact z, t⟩⟩
  · by_cases hap : a = p
    · subst hap
      have e : upd w.im a u a = some o := e
      rw [upd_same] at e
      rw [upd_same]
      exact e
    · have e : upd w.im p u a = some o := e
      rw [upd_ne hap] at e
      rw [upd_ne hap]
      exact r.imm a o e
  · obtain ⟨z1, z2, z3⟩ := r.prv a o e
    have hap : a ≠ p := fun z => by
      subst z
      rw [hp] at z1
      cases z1
    refine ⟨by rw [upd_ne hap]; exact z1, ?_, z3⟩
    show upd w.im p u a = none
    rw [upd_ne hap]
    exact z2
  · have ha : a ∈ w.io := ha
    have hne : a ≠ p := fun e => h3 (by rw [← e]; exact ha)
    show upd w.im p u a = none
    rw [upd_ne hne]
    exact r.sep a ha
  · rw [upd_ne (h2 n o a e1 e2)]
    exact ObRep.up le o _ (r.obj n a o e1 e2)
/-- a new object of the plain heap -/
theorem RelH.newOb (r : RelH N w h H) {p : Addr} {u : HO} {o : O} (hp : H p = none) (q : ObRep N w o (some u)) : ∃ w', w.le w' ∧ w'.io[h.length]? = some p ∧ RelH N w' (h ++ [o]) (upd H p u) := by
  have h1 : w.im p = none := by
    cases q : w.im p with
    | none => rfl
    | some o =>
      have z := r.imm p o q
      rw [hp] at z
      cases z
  have h2 : ∀ n o a, w.io[n]? = some a → h[n]? = some o → a ≠ p := fun n o a e1 e2 e => by
    subst e
    have z := r.obj n a o e1 e2
    rw [hp] at z
    cases o with
    | lst xs => obtain ⟨_, e, _⟩ := z; cases e
    | dct xs => obtain ⟨_, e, _⟩ := z; cases e
    | ins c xs => obtain ⟨_, _, e, _⟩ := z; cases e
  have h3 : p ∉ w.io := fun hm => by
    obtain ⟨n, hn, e⟩ := List.getElem_of_mem hm
    have e2 : w.io[n]? = some p := by rw [List.getElem?_eq_getElem hn, e]
    have hn2 : n < h.length := by rw [← r.len]; exact hn
    exact h2 n h[n] p e2 (List.getElem?_eq_getElem hn2) rfl
  have le : w.le ⟨w.io ++ [p], w.im, w.pv⟩ := ⟨⟨[p], rfl⟩, fun _ _ e => e, fun _ _ e => e⟩
  refine ⟨⟨w.io ++ [p], w.im, w.pv⟩, le, ?_, fun a o e => ?_, fun a o e => ?_, ?_, ?_, fun a ha => ?_, fun n a o' e1 e2 => ?_, fun a fv e => by
      have z := r.kep a fv e
      rw [upd_ne (fun y => by rw [y, hp] at z; cases z)]
      exact z, fun P hP => by
      obtain ⟨z1, ps, z, t⟩ := r.tab P hP
      exact ⟨z1, ps, by rw [upd_ne (fun y => by rw [y, hp] at z; cases z)]; exact z, t⟩⟩
  · rw [← r.len]
    exact List.getElem?_concat_length
  · have hap : a ≠ p := fun z => by
      subst z
      have e : w.im a = some o := e
      rw [h1] at e
      cases e
    rw [upd_ne hap]
    exact r.imm a o e
  · obtain ⟨z1, z2, z3⟩ := r.prv a o e
    have hap : a ≠ p := fun z => by
      subst z
      rw [hp] at z1
      cases z1
    refine ⟨by rw [upd_ne hap]; exact z1, z2, fun hm => ?_⟩
    rcases List.mem_append.mp hm with hm | hm
    · exact z3 hm
    · exact hap (by simpa using hm)
  · show (w.io ++ [p]).length = (h ++ [o]).length
    rw [List.length_append, List.length_append, r.len]
    rfl
  · show (w.io ++ [p]).Nodup
    rw [List.nodup_append]
    exact ⟨r.nod, by simp, fun a ha b hb => by
      have hb : b = p := by simpa using hb
      subst hb
      exact fun e => h3 (by rw [← e]; exact ha)⟩
  · rcases List.mem_append.mp ha with ha | ha
    · exact r.sep a ha
    · have ha : a = p := by simpa using ha
      subst ha
      exact h1
  · have e1 : (w.io ++ [p])[n]? = some a := e1
    by_cases hn : n < w.io.length
    · rw [List.getElem?_append_left hn] at e1
      rw [List.getElem?_append_left (by rw [← r.len]; exact hn)] at e2
      rw [upd_ne (h2 n o' a e1 e2)]
      exact ObRep.up le o' _ (r.obj n a o' e1 e2)
    · have hn2 : n = w.io.length := by
        have := (List.getElem?_eq_some_iff.mp e1).1
        rw [List.length_append] at this
        simp at this
        omega
      subst hn2
      rw [List.getElem?_concat_length] at e1
      cases e1
      rw [r.len, List.getElem?_concat_length] at e2
      cases e2
      rw [upd_same]
      exact ObRep.up le _ _ q
theorem kep_io (r : RelH N w h H) {n : Nat} {a : Addr} {fv : List (Str × V)} (e : w.io[n]? = some a) : H a ≠ some (.xd fv) := by
  have hn : n < h.length := by rw [← r.len]; exact (List.getElem?_eq_some_iff.mp e).1
  have z := r.obj n a h[n] e (List.getElem?_eq_getElem hn)
  intro y
  rw [y] at z
  cases q : h[n] with
  | lst xs => rw [q] at z; obtain ⟨_, e, _⟩ := z; cases e
  | dct xs => rw [q] at z; obtain ⟨_, e, _⟩ := z; cases e
  | ins c xs => rw [q] at z; obtain ⟨_, _, e, _⟩ := z; cases e
theorem tab_io (r : RelH N w h H) {n : Nat} {a : Addr} {ps : Array Value} (e : w.io[n]? = some a) : H a ≠ some (.tbl ps) := by
  have hn : n < h.length := by rw [← r.len]; exact (List.getElem?_eq_some_iff.mp e).1
  have z := r.obj n a h[n] e (List.getElem?_eq_getElem hn)
  intro y
  rw [y] at z
  cases q : h[n] with
  | lst xs => rw [q] at z; obtain ⟨_, e, _⟩ := z; cases e
  | dct xs => rw [q] at z; obtain ⟨_, e, _⟩ := z; cases e
  | ins c xs => rw [q] at z; obtain ⟨_, _, e, _⟩ := z; cases e
/-- an object is changed -/
theorem RelH.put (r : RelH N w h H) {n : Nat} {a : Addr} {u : HO} {o : O} (e : w.io[n]? = some a) (q : ObRep N w o (some u)) : RelH N w (h.set n o) (upd H a u) := by
  have ha : a ∈ w.io := List.mem_of_getElem? e
  have h1 := r.sep a ha
  refine ⟨fun b v z => ?_, fun b v z => ?_, by rw [List.length_set]; exact r.len, r.nod, r.sep, fun m b o' e1 e2 => ?_, fun b fv z0 => by
      have z := r.kep b fv z0
      rw [upd_ne (fun y => by
        subst y
        exact absurd z (kep_io r e))]
      exact z, fun P hP => by
      obtain ⟨z1, ps, z, t⟩ := r.tab P hP
      exact ⟨z1, ps, by rw [upd_ne (fun y => by rw [y] at z; exact absurd z (tab_io r e))]; exact z, t⟩⟩
  · have hb : b ≠ a := fun y => by
      subst y
      rw [h1] at z
      cases z
    rw [upd_ne hb]
    exact r.imm b v z
  · obtain ⟨z1, z2, z3⟩ := r.prv b v z
    have hb : b ≠ a := fun y => by
      subst y
      exact z3 ha
    exact ⟨by rw [upd_ne hb]; exact z1, z2, z3⟩
  · by_cases hm : n = m
    · subst hm
      rw [e] at e1
      cases e1
      rw [List.getElem?_set_self (by rw [← r.len]; exact (List.getElem?_eq_some_iff.mp e).1)] at e2
      cases e2
      rw [upd_same]
      exact q
    · rw [List.getElem?_set_ne hm] at e2
      have hb : b ≠ a := fun y => by
        subst y
        obtain ⟨l1, q1⟩ := List.getElem?_eq_some_iff.mp e
        obtain ⟨l2, q2⟩ := List.getElem?_eq_some_iff.mp e1
        exact hm ((List.getElem_inj r.nod).mp (q1.trans q2.symm))
      rw [upd_ne hb]
      exact r.obj m b o' e1 e2
end
end DN

set_option Elab.async false
set_option linter.all false
set_option maxRecDepth 100000
set_option maxHeartbeats 4000000
namespace DN
open PySem PySem.Spec
open L2 hiding It
open PyProof.Rows hiding St
theorem tuple_mul1 (l : Addr) (items : Array Value) (n : Nat) (dd : Option Addr) (sl : Array (Option Value)) (x : Int) (u : Tok) (c0 : (decide (x < -(2 ^ 63)) || decide (x ≥ 2 ^ 63)) = false) (c1 : (items.isEmpty || x == 1) = true) :
    Meets (Builtin.«tuple.__mul__» ⟨[.ref l, .int x u], []⟩) (fun _ R s => s.heap.get? l = some { cls := .type "tuple", dict := dd, data := .seq items n, slots := sl } ∧ R (.ok (.ret (.ref l))) s) :=
  .of_wp fun prog w A R s h => by
    obtain ⟨hp, g, d, tk, os⟩ := s
    obtain ⟨hl, h⟩ := h
    have f1 := AutoSeq1.idx_int
    wp_walk using wpAny_loadPart' hl
    repeat (first
      | (refine wpAny_ite_false (decide_eq_false (by rw [c0]; exact Bool.false_ne_true)) ?_; wp_walk using wpAny_loadPart' hl)
      | (refine wpAny_ite_true (decide_eq_true c1) ?_; wp_walk using wpAny_loadPart' hl))
    exact ⟨_, rfl, h⟩
theorem tuple_mul0 (l : Addr) (items : Array Value) (n : Nat) (dd : Option Addr) (sl : Array (Option Value)) (x : Int) (u : Tok) (c0 : (decide (x < -(2 ^ 63)) || decide (x ≥ 2 ^ 63)) = false) (c1 : (items.isEmpty || x == 1) = false) (c2 : (decide (x ≤ 0) || items.isEmpty) = true) :
    Meets (Builtin.«tuple.__mul__» ⟨[.ref l, .int x u], []⟩) (fun _ R s => s.heap.get? l = some { cls := .type "tuple", dict := dd, data := .seq items n, slots := sl } ∧
      R (.ok (.ret (Value.ref s.heap.objs.size))) { s with heap := s.heap.push { cls := Value.type "tuple", data := Data.seq #[] }, toks := s.toks }) :=
  .of_wp fun prog w A R s h => by
    obtain ⟨hp, g, d, tk, os⟩ := s
    obtain ⟨hl, h⟩ := h
    have f1 := AutoSeq1.idx_int
    wp_walk using wpAny_loadPart' hl
    repeat (first
      | (refine wpAny_ite_false (decide_eq_false (by rw [c0]; exact Bool.false_ne_true)) ?_; wp_walk using wpAny_loadPart' hl)
      | (refine wpAny_ite_false (decide_eq_false (by rw [c1]; exact Bool.false_ne_true)) ?_; wp_walk using wpAny_loadPart' hl)
      | (refine wpAny_ite_true (decide_eq_true c2) ?_; wp_walk using wpAny_loadPart' hl))
    exact ⟨_, rfl, h⟩
def rRep01 (K : PySem.W.Frag) : R2 := fun x y H Q => ∃ l xs, x = .ref l ∧ SqT K H l xs ∧ xs ≠ [] ∧ ((y = .int 1 ∧ Q (.ref l) H) ∨ (y = .int 0 ∧ ∀ p, H p = none → Q (.ref p) (upd H p (.tup []))))
theorem op_rep01 {X : Cx} : OpR X (binaryOp .Mult) (rRep01 X.K) := by
  intro pins s σ H x y v u Q I rx ry h
  obtain ⟨l, xs, rfl, hT, hne, q⟩ := h
  cases rx
  obtain ⟨its, r, ⟨⟨cls, dd, data, sl⟩, ho, hc, n, hd⟩, hs⟩ := I.tuple hT
  simp only at hc hd
  subst hc hd
  have hle : its.length = xs.length := r.length.symm
  have hn : its ≠ [] := fun e => hne (by
    rw [e] at hle
    exact List.eq_nil_of_length_eq_zero hle.symm)
  have hi : its.toArray.isEmpty = false := by
    cases its with
    | nil => exact absurd rfl hn
    | cons a b => rfl
  rcases q with ⟨rfl, q⟩ | ⟨rfl, q⟩
  · obtain ⟨t, rfl⟩ := ry
    refine wpAny_binaryOp_repeat_ref (T := "tuple") (U := "int") (by decide) ⟨_, ho, rfl⟩ (fun s' => typeIs_int s' 1 t) noFill_tuple_mul F.fills_int_mul F.slot_int_rmul repeat_tuple F.slot_int_index.lookup
      (call_meets F.slot_int_rmul (typeIs_int s 1 t) F.entry_int_rmul (F.args_int_rmul_2 _ _) (int_rmul_tuple 1 t l its.toArray n dd sl)
        ⟨ho, rfl, ⟨_, ho, rfl⟩, call_meets F.slot_tuple_mul ⟨_, ho, rfl⟩ F.entry_tuple_mul (F.args_tuple_mul_2 _ _) (tuple_mul1 l its.toArray n dd sl 1 t (by decide) (by rw [Bool.or_eq_true]; exact .inr rfl)) ⟨ho, ?_⟩⟩)
    exact ⟨.ref l, H, I, rfl, q⟩
  · obtain ⟨t, rfl⟩ := ry
    refine wpAny_binaryOp_repeat_ref (T := "tuple") (U := "int") (by decide) ⟨_, ho, rfl⟩ (fun s' => typeIs_int s' 0 t) noFill_tuple_mul F.fills_int_mul F.slot_int_rmul repeat_tuple F.slot_int_index.lookup
      (call_meets F.slot_int_rmul (typeIs_int s 0 t) F.entry_int_rmul (F.args_int_rmul_2 _ _) (int_rmul_tuple 0 t l its.toArray n dd sl)
        ⟨ho, rfl, ⟨_, ho, rfl⟩, call_meets F.slot_tuple_mul ⟨_, ho, rfl⟩ F.entry_tuple_mul (F.args_tuple_mul_2 _ _) (tuple_mul0 l its.toArray n dd sl 0 t (by decide) (by rw [hi]; rfl) rfl) ⟨ho, ?_⟩⟩)
    refine ⟨.ref s.heap.objs.size, _, I.laid (t' := s.toks) (o := .tup []) (fun b ob q => Heap.get?_push_of_some _ q) (Nat.le_refl _) ?_, rfl, q _ (I.hok.fresh (Nat.le_refl _))⟩
    exact ⟨by simp, [], .nil, IsTup.new _ _⟩
end DN

set_option Elab.async false
set_option linter.all false
set_option maxRecDepth 100000
/-! D2: the expressions' meanings are kept by the machine. -/
namespace DN
open PySem PySem.Spec L2
open PyProof.Rows hiding St

theorem pe_imp {X : Cx} {e : Expr} {t t' : TE} (h : PE X e t) (k : ∀ σ H Q, t' σ H Q → t σ H Q) : PE X e t' := ⟨fun pins s σ H Q I q => h.run pins s σ H Q I (k σ H Q q)⟩
theorem pt_imp {X : Cx} {e : Expr} {t t' : TT} (h : PT X e t) (k : ∀ σ H Q, t' σ H Q → t σ H Q) : PT X e t' := ⟨fun pins s σ H Q I q => h.run pins s σ H Q I (k σ H Q q)⟩
theorem pa_imp {X : Cx} {e : List Expr} {t t' : TA} (h : PA X e t) (k : ∀ σ H Q, t' σ H Q → t σ H Q) : PA X e t' := ⟨fun pos pins s σ H Q I q => h.run pos pins s σ H Q I (k σ H Q q)⟩
theorem ps_imp {X : Cx} {e : Stmt} {t t' : TS} (h : PS X e t) (k : ∀ Dn σ H, t' Dn σ H → t Dn σ H) : PS X e t' := ⟨fun pins s σ H Dn I q => h.run pins s σ H Dn I (k Dn σ H q)⟩
theorem pss_imp {X : Cx} {e : List Stmt} {t t' : TS} (h : PSs X e t) (k : ∀ Dn σ H, t' Dn σ H → t Dn σ H) : PSs X e t' := ⟨fun pins s σ H Dn I q => h.run pins s σ H Dn I (k Dn σ H q)⟩

theorem SZ_eq : SZ = sizeLine := by rw [sizeLine_eq]; rfl

section
variable {N : Nm} {W : WX} {w : Wd} {h : Hs} {H : Hp} {σ : St} {Q : VK}
theorem post_val {d : D} {v : V} (p : Post N (Rep N) W w σ Q (.ok d h)) (r : RelH N w h H) (q : Rep N w d v) : Q v H := p w H v (Wd.le.refl w) r q
theorem post_mkT {xs : List D} {vs : List V} (r : RelH N w h H) (q : Reps N w xs vs) (p : Post N (Rep N) W w σ Q (mkT xs h)) : vs.length ≤ sizeLine ∧ ∀ a, H a = none → Q (.ref a) (upd H a (.tup vs)) := by
  unfold mkT at p
  split at p
  · rename_i hz
    refine ⟨by rw [q.length, ← SZ_eq]; exact hz, fun a ha => ?_⟩
    obtain ⟨w', l, e, r'⟩ := r.newIm (u := .tup vs) ha
    exact p w' _ _ l r' ⟨a, vs, rfl, .inl e, Reps.up l _ _ q⟩
  · exact p.elim
theorem post_mkL {hp : Bool} {xs : List D} {vs : List V} (r : RelH N w h H) (q : Reps N w xs vs) (p : Post N (Rep N) W w σ Q (mkL hp xs h)) : vs.length ≤ sizeLine ∧ ∀ a, H a = none → Q (.ref a) (upd H a (.lst vs)) := by
  unfold mkL at p
  split at p
  · rename_i hz
    refine ⟨by rw [q.length, ← SZ_eq]; exact hz, fun a ha => ?_⟩
    split at p
    · obtain ⟨w', l, e, r'⟩ := r.newOb (u := .lst vs) (o := .lst xs) ha ⟨vs, rfl, q⟩
      exact p w' _ _ l r' ⟨a, e, rfl⟩
    · obtain ⟨w', l, e, r'⟩ := r.newIm (u := .lst vs) ha
      exact p w' _ _ l r' ⟨a, vs, rfl, e, Reps.up l _ _ q⟩
  · exact p.elim
end

/-! ### operators -/
def OpS (N : Nm) (r : R2) (g : D → D → Hs → R D) : Prop := ∀ (W : WX) (w : Wd) (h : Hs) (H : Hp) (σ : St) (x y : D) (v u : V) (Q : VK), RelH N w h H → Rep N w x v → Rep N w y u → Post N (Rep N) W w σ Q (g x y h) → r v u H Q
section
variable {X : Cx} {N : Nm} {W : WX} {ma mb mc : M D} {e a b c : Expr} {pos : Pos}
theorem td_op {r : R2} {g : D → D → Hs → R D} (hs : OpS N r g) (σ : St) (H : Hp) (Q : VK) (t : TD N (mOp g ma mb) W σ H Q) : tOp r (TD N ma W) (TD N mb W) σ H Q := by
  obtain ⟨w, ρ, h, r1, r2, p⟩ := t
  refine TDg.imp (td_bind (m := ma) r1 r2 p) fun v H1 ⟨w1, h1, x, l1, q1, q2, q3, p1⟩ => ?_
  refine TDg.imp (td_bind (m := mb) q1 q2 p1) fun u H2 ⟨w2, h2, y, l2, q4, q5, q6, p2⟩ => ?_
  exact hs W w2 h2 H2 σ x y v u Q q4 (Rep.up l2 _ _ q3) q6 p2
theorem snd_bin {op : Operator} {r : R2} {g : D → D → Hs → R D} (ho : OpR X (binaryOp op) r) (hs : OpS N r g) (ha : PE X a (TD N ma W)) (hb : PE X b (TD N mb W)) : PE X (.BinOp a op b pos) (TD N (mOp g ma mb) W) :=
  pe_imp (pe_op ho ha hb) (td_op hs)
theorem snd_cmp {op : CmpOp} {r : R2} {g : D → D → Hs → R D} (ho : OpR X (compareOp op) r) (hs : OpS N r g) (ha : PE X a (TD N ma W)) (hb : PE X b (TD N mb W)) (hm : behindInMarks op b = false) : PE X (.Compare a [op] [b] pos) (TD N (mOp g ma mb) W) :=
  pe_imp (pe_cmpR ho ha hb hm) (td_op hs)
/-! literals, names -/
theorem snd_lit {v : V} {d : D} (hv : ∀ w, Rep N w d v) (he : PE X e (tC v)) : PE X e (TD N (mLit d) W) := pe_imp he fun σ H Q t => by
  obtain ⟨w, ρ, h, r1, r2, p⟩ := t
  exact post_val p r1 (hv w)
theorem snd_var {i : Nat} (he : PE X e (tVar i)) : PE X e (TD N (mVar i) W) := pe_imp he fun σ H Q t => by
  obtain ⟨w, ρ, h, r1, r2, p⟩ := t
  unfold mVar at p
  split at p
  · rename_i d hd
    obtain ⟨v, h1, h2⟩ := r2.2 i d hd
    exact ⟨v, h1, post_val p r1 h2⟩
  · exact p.elim
theorem snd_neg (ha : PE X a (TD N ma W)) : PE X (.UnaryOp .USub a pos) (TD N (mNeg ma) W) := pe_imp (pe_un un_neg ha) fun σ H Q t => by
  obtain ⟨w, ρ, h, r1, r2, p⟩ := t
  refine TDg.imp (td_bind (m := ma) r1 r2 p) fun v H1 ⟨w1, h1, x, l1, q1, q2, q3, p1⟩ => ?_
  cases x with
  | int i => exact ⟨i, q3, post_val p1 q1 rfl⟩
  | _ => exact p1.elim
end
/-! ### add and its like -/
def rAddA (K : PySem.W.Frag) : R2 := fun x y H Q => rI0 (fun i j => .int (i + j)) x y H Q ∨ (∃ i j, x = .str i ∧ y = .str j ∧ i.length + j.length ≤ sizeLine ∧ Q (.str (i ++ j)) H) ∨ rCatA K x y H Q ∨ rCat x y H Q
theorem op_addA {X : Cx} : OpR X (binaryOp .Add) (rAddA X.K) := op_add.or (op_add_str.or (op_catA.or op_cat))
theorem toS_append (a b : List Nat) : toS a ++ toS b = toS (a ++ b) := by
  show (⟨a.toArray ++ b.toArray⟩ : Str) = ⟨(a ++ b).toArray⟩
  rw [List.append_toArray]
theorem ops_add {N : Nm} (hp : Bool) : OpS N (rAddA N.K) (opAdd hp) := by
  intro W w h H σ x y v u Q r qx qy p
  unfold opAdd at p
  split at p
  · obtain rfl := qx
    obtain rfl := qy
    exact .inl ⟨_, _, rfl, rfl, post_val p r rfl⟩
  · obtain rfl := qx
    obtain rfl := qy
    split at p
    · rename_i hz
      refine .inr (.inl ⟨_, _, rfl, rfl, by rw [toS_length, toS_length, ← SZ_eq]; exact hz, ?_⟩)
      rw [toS_append]
      exact post_val p r rfl
    · exact p.elim
  · rename_i xs ys
    obtain ⟨a, vs, rfl, ta, ra⟩ := qx
    obtain ⟨b, us, rfl, tb, rb⟩ := qy
    split at p
    · rename_i hz
      have hz2 : vs.length + us.length ≤ sizeLine := by rw [ra.length, rb.length, ← SZ_eq]; exact hz
      refine .inr (.inr (.inl ⟨a, b, vs, us, rfl, rfl, r.sqT ta, r.sqT tb, hz2, fun e => ?_, fun _ e => ?_, fun _ _ q hq => ?_⟩))
      · subst e
        refine post_val p r ⟨b, us, rfl, tb, ?_⟩
        have := Reps.append ra rb
        simpa using this
      · subst e
        refine post_val p r ⟨a, vs, rfl, ta, ?_⟩
        have := Reps.append ra rb
        simpa using this
      · have p2 : Post N (Rep N) W w σ Q (mkT (xs ++ ys) h) := by
          unfold mkT
          rw [List.length_append, if_pos hz]
          exact p
        exact (post_mkT r (Reps.append ra rb) p2).2 q hq
    · exact p.elim
  · split at p
    · rename_i xs ys e1 e2
      obtain ⟨a, vs, rfl, ta, ra⟩ := r.lsu qx e1
      obtain ⟨b, us, rfl, tb, rb⟩ := r.lsu qy e2
      split at p
      · rename_i hz
        have hz2 : vs.length + us.length ≤ sizeLine := by rw [ra.length, rb.length, ← SZ_eq]; exact hz
        exact .inr (.inr (.inr ⟨a, b, vs, us, rfl, rfl, ta, tb, hz2, (post_mkL r (Reps.append ra rb) p).2⟩))
      · exact p.elim
    · exact p.elim
theorem ops_sub {N : Nm} : OpS N (rI0 fun i j => .int (i - j)) opSub := by
  intro W w h H σ x y v u Q r qx qy p
  unfold opSub at p
  split at p
  · exact ⟨_, _, qx, qy, post_val p r rfl⟩
  · exact p.elim
theorem Reps.replicate {N : Nm} {w : Wd} {xs : List D} {vs : List V} (r : Reps N w xs vs) : ∀ n : Nat, Reps N w (List.replicate n xs).flatten (List.replicate n vs).flatten
  | 0 => rfl
  | n + 1 => by
    rw [List.replicate_succ, List.replicate_succ, List.flatten_cons, List.flatten_cons]
    exact Reps.append r (Reps.replicate r n)
theorem foldl_repA {α : Type} (l : List α) : ∀ (k : Nat) (acc : List α), List.foldl (fun x1 x2 => x1 ++ x2) acc.toArray (List.replicate k l.toArray) = (acc ++ (List.replicate k l).flatten).toArray
  | 0, acc => by simp
  | k + 1, acc => by
    rw [List.replicate_succ, List.foldl_cons, List.append_toArray, foldl_repA l k (acc ++ l), List.replicate_succ, List.flatten_cons, List.append_assoc]
def rSM : R2 := fun x y H Q => ∃ (a : List Nat) (k : Int), x = .str (toS a) ∧ y = .int k ∧ 1 ≤ k ∧ k ≤ 1000000 ∧ a.length ≤ 16 ∧ Q (.str (toS (List.replicate k.toNat a).flatten)) H
theorem op_smul {X : Cx} : OpR X (binaryOp .Mult) rSM := by
  intro pins s σ H x y v u Q I rx ry h
  obtain ⟨a, k, rfl, rfl, h1, h2, h3, q⟩ := h
  obtain ⟨t, rfl⟩ := rx
  obtain ⟨t', rfl⟩ := ry
  have hl : (toS a).length = a.length := toS_length a
  have e0 : (⟨(List.replicate k.toNat (toS a).cps).foldl (· ++ ·) #[]⟩ : Str) = toS (List.replicate k.toNat a).flatten := by
    have z := foldl_repA a k.toNat []
    rw [List.nil_append] at z
    exact congrArg Str.mk z
  have fin : ∀ {n : Nat} {t : Tok}, ∃ (x : V) (H' : Hp), Inv X pins σ H' { s with toks := s.toks + n } ∧ RelV x (.str (toS (List.replicate k.toNat a).flatten) t) ∧ Q x H' := fun {n t} => ⟨.str (toS (List.replicate k.toNat a).flatten), H, I.tok _, ⟨_, rfl⟩, q⟩
  refine PySem.P.mul_str (by
    have z1 : ¬ k < -(2 ^ 63 : Int) := by omega
    have z2 : ¬ k ≥ 2 ^ 63 := by omega
    rw [decide_eq_false z1, decide_eq_false z2]
    rfl) (fun _ _ => ?_) (fun _ _ => ?_) ?_
  · rw [hl]
    have z : (16 : Int) ≤ (2 ^ 63 - 1) / k := by
      refine Int.le_ediv_of_mul_le (by omega) ?_
      omega
    omega
  · rw [hl]
    refine PyProof.Rows.short24 ?_
    have z : a.length * k.toNat ≤ 16 * 1000000 := Nat.mul_le_mul h3 (by omega)
    omega
  · rw [if_neg (by omega)]
    split
    · rename_i hc
      have e : (toS (List.replicate k.toNat a).flatten) = toS a := by
        rw [Bool.or_eq_true] at hc
        rcases hc with hc | hc
        · have : k = 1 := by simpa using hc
          subst this
          simp [toS]
        · rw [hl] at hc
          have : a = [] := List.eq_nil_of_length_eq_zero (by simpa using hc)
          subst this
          simp [toS]
      have f := @fin 0 t
      rw [e] at f
      exact f
    · rw [e0]
      refine ⟨?_, fin⟩
      first
        | (rw [toS_length, List.length_flatten]; simp; have z : k.toNat * a.length ≤ 1000000 * 16 := Nat.mul_le_mul (by omega) h3; simp [sizeLine]; omega)
        | trivial
def rMulA (K : PySem.W.Frag) : R2 := fun x y H Q => (((rI CMul (fun i j => .int (i * j)) x y H Q ∨ rRep x y H Q) ∨ rSM x y H Q) ∨ rRep01 K x y H Q) ∨ rRepT K x y H Q
theorem op_mulA {X : Cx} : OpR X (binaryOp .Mult) (rMulA X.K) := (((op_mul.or op_rep).or op_smul).or op_rep01).or op_repT
theorem ops_mul {N : Nm} (hp : Bool) : OpS N (rMulA N.K) (opMul hp) := by
  intro W w h H σ x y v u Q r qx qy p
  unfold opMul at p
  split at p
  · split at p
    · rename_i hz
      exact .inl (.inl (.inl (.inl ⟨_, _, qx, qy, hz, post_val p r rfl⟩)))
    · exact p.elim
  · split at p
    · rename_i hz
      obtain ⟨h1, h2, h3⟩ := hz
      exact .inl (.inl (.inr ⟨_, _, qx, qy, h1, h2, h3, post_val p r rfl⟩))
    · exact p.elim
  · rename_i xs k
    obtain ⟨a, vs, rfl, ta, ra⟩ := qx
    have ne : 0 < xs.length → vs ≠ [] := fun z e => by
      have := ra.length
      rw [e] at this
      simp at this
      omega
    split at p
    · rename_i hz
      obtain ⟨h1, rfl⟩ := hz
      exact .inl (.inr ⟨a, vs, rfl, r.sqT ta, ne h1, .inl ⟨qy, post_val p r ⟨a, vs, rfl, ta, ra⟩⟩⟩)
    · split at p
      · rename_i hz
        obtain ⟨h1, rfl⟩ := hz
        exact .inl (.inr ⟨a, vs, rfl, r.sqT ta, ne h1, .inr ⟨qy, (post_mkT r (xs := []) (vs := []) rfl p).2⟩⟩)
      · split at p
        · rename_i hz
          obtain ⟨h1, h2, h3, h4⟩ := hz
          exact .inr ⟨a, _, vs, rfl, qy, r.sqT ta, ne h1, h3, h4, by rw [ra.length]; exact h2, (post_mkT r (ra.replicate _) p).2⟩
        · exact p.elim
  · split at p
    · rename_i xs e1
      obtain ⟨a, vs, rfl, ta, ra⟩ := r.lsu qx e1
      split at p
      · rename_i hz
        obtain ⟨h1, h2, h3⟩ := hz
        exact .inl (.inl (.inl (.inr ⟨a, _, vs, rfl, qy, ta, h1, h2, by rw [ra.length, ← SZ_eq]; exact h3, (post_mkL r (ra.replicate _) p).2⟩)))
      · exact p.elim
    · exact p.elim
  · exact p.elim
theorem ops_fdiv {N : Nm} : OpS N (rI CDivN fun i j => .int (i.fdiv j)) opFdiv := by
  intro W w h H σ x y v u Q r qx qy p
  unfold opFdiv at p
  split at p
  · split at p
    · rename_i hz
      exact ⟨_, _, qx, qy, hz, post_val p r rfl⟩
    · exact p.elim
  · exact p.elim
theorem ops_mod {N : Nm} : OpS N (rI (fun _ j => j ≠ 0) fun i j => .int (i.fmod j)) opMod := by
  intro W w h H σ x y v u Q r qx qy p
  unfold opMod at p
  split at p
  · split at p
    · rename_i hz
      exact ⟨_, _, qx, qy, hz, post_val p r rfl⟩
    · exact p.elim
  · exact p.elim
theorem ops_pow {N : Nm} : OpS N (rI CPow fun i j => .int (i ^ j.toNat)) opPow := by
  intro W w h H σ x y v u Q r qx qy p
  unfold opPow at p
  split at p
  · split at p
    · rename_i hz
      exact ⟨_, _, qx, qy, hz, post_val p r rfl⟩
    · exact p.elim
  · exact p.elim
end DN

set_option Elab.async false
set_option linter.all false
set_option maxRecDepth 100000
/-! D3: comparisons, subscripts, slices, tests, rows. -/
namespace DN
open PySem PySem.Spec L2
open PyProof.Rows hiding St

/-! ### data -/
mutual
def D.pd : D → PyData
  | .non => .none
  | .bl b => .bool b
  | .int i => .int i
  | .str s => .str (toS s)
  | .tup xs => .tuple (D.pds xs)
  | .fl xs => .list (D.pds xs)
  | _ => .none
def D.pds : List D → List PyData
  | [] => []
  | x :: xs => D.pd x :: D.pds xs
end
theorem toS_beq (s t : List Nat) : (toS s == toS t) = (s == t) := by
  rw [Bool.eq_iff_iff, beq_iff_eq, beq_iff_eq]
  exact ⟨toS_inj, fun e => by rw [e]⟩
mutual
theorem eqv_pd : ∀ (n m : Nat) (x y : D), D.dat n x = true → D.dat m y = true → PyData.eqv x.pd y.pd = D.eqv x y
  | n, m, x, y, hx, hy => by
    cases x with
    | tup xs =>
      cases n with
      | zero => cases hx
      | succ n =>
        cases y with
        | tup ys =>
          cases m with
          | zero => cases hy
          | succ m => exact eqv_pds n m xs ys hx hy
        | _ => first | rfl | (cases m <;> cases hy)
    | fl xs =>
      cases n with
      | zero => cases hx
      | succ n =>
        cases y with
        | fl ys =>
          cases m with
          | zero => cases hy
          | succ m => exact eqv_pds n m xs ys hx hy
        | _ => first | rfl | (cases m <;> cases hy)
    | str a =>
      cases y with
      | str b => exact toS_beq a b
      | _ => first | rfl | (cases m <;> cases hy)
    | non => cases y <;> first | rfl | (cases m <;> cases hy)
    | bl b => cases y <;> first | rfl | (cases m <;> cases hy)
    | int b => cases y <;> first | rfl | (cases m <;> cases hy)
    | _ => cases n <;> cases hx
theorem eqv_pds : ∀ (n m : Nat) (x y : List D), D.dats n x = true → D.dats m y = true → PyData.eqvAll (D.pds x) (D.pds y) = D.eqvs x y
  | _, _, [], [], _, _ => rfl
  | _, _, [], _ :: _, _, _ => rfl
  | _, _, _ :: _, [], _, _ => rfl
  | n, m, x :: xs, y :: ys, hx, hy => by
    have hx : (D.dat n x && D.dats n xs) = true := hx
    have hy : (D.dat m y && D.dats m ys) = true := hy
    rw [Bool.and_eq_true] at hx hy
    show (PyData.eqv x.pd y.pd && PyData.eqvAll (D.pds xs) (D.pds ys)) = (D.eqv x y && D.eqvs xs ys)
    rw [eqv_pd n m x y hx.1 hy.1, eqv_pds n m xs ys hx.2 hy.2]
end
theorem strOk_toS (s : List Nat) (h : s.all (· < 1114112) = true) : PySem.PyData.strOk (toS s) = true := by
  show (toS s).cps.all _ = true
  rw [← Array.all_toList]
  exact h
mutual
theorem lay_pd : ∀ (n : Nat) (x : D), D.dat n x = true → PyData.canLay0 x.pd = true ∧ PyData.depth x.pd ≤ n
  | n, x, hx => by
    cases x with
    | tup xs =>
      cases n with
      | zero => cases hx
      | succ n =>
        obtain ⟨a, b⟩ := lay_pds n xs hx
        exact ⟨a, Nat.succ_le_succ b⟩
    | fl xs =>
      cases n with
      | zero => cases hx
      | succ n =>
        obtain ⟨a, b⟩ := lay_pds n xs hx
        exact ⟨a, Nat.succ_le_succ b⟩
    | str s =>
      refine ⟨strOk_toS s ?_, Nat.zero_le _⟩
      cases n <;> exact hx
    | non => exact ⟨rfl, Nat.zero_le _⟩
    | bl _ => exact ⟨rfl, Nat.zero_le _⟩
    | int _ => exact ⟨rfl, Nat.zero_le _⟩
    | _ => cases n <;> cases hx
theorem lay_pds : ∀ (n : Nat) (x : List D), D.dats n x = true → PyData.canLayAll0 (D.pds x) = true ∧ PyData.depthAll (D.pds x) ≤ n
  | n, [], _ => ⟨rfl, Nat.zero_le _⟩
  | n, x :: xs, hx => by
    have hx : (D.dat n x && D.dats n xs) = true := hx
    rw [Bool.and_eq_true] at hx
    obtain ⟨a, b⟩ := lay_pd n x hx.1
    obtain ⟨c, d⟩ := lay_pds n xs hx.2
    refine ⟨?_, ?_⟩
    · show (PyData.canLay0 x.pd && PyData.canLayAll0 (D.pds xs)) = true
      rw [a, c]
      rfl
    · show max (PyData.depth x.pd) (PyData.depthAll (D.pds xs)) ≤ n
      omega
end
theorem shaped_pd {x : D} (h : D.dat 64 x = true) : SeqAt.shaped x.pd = true := by
  obtain ⟨a, b⟩ := lay_pd 64 x h
  unfold SeqAt.shaped
  rw [a, decide_eq_true b]
  rfl
section
variable {N : Nm} {w : Wd} {h : Hs} {H : Hp}
mutual
theorem dp_of (r : RelH N w h H) : ∀ (n : Nat) (x : D) (v : V), D.dat n x = true → Rep N w x v → Dp N.K H v x.pd
  | n, x, v, hx, q => by
    cases x with
    | tup xs =>
      cases n with
      | zero => cases hx
      | succ n =>
        obtain ⟨a, vs, rfl, t, rs⟩ := q
        exact .tup (r.sqT t) (dps_of r n xs vs hx rs)
    | fl xs =>
      cases n with
      | zero => cases hx
      | succ n =>
        obtain ⟨a, vs, rfl, t, rs⟩ := q
        exact .lst (.of (r.sqL t)) (dps_of r n xs vs hx rs)
    | str s => obtain rfl := q; exact .str _
    | non => obtain rfl := q; exact .non
    | bl _ => obtain rfl := q; exact .bl _
    | int _ => obtain rfl := q; exact .int _
    | _ => cases n <;> cases hx
theorem dps_of (r : RelH N w h H) : ∀ (n : Nat) (x : List D) (v : List V), D.dats n x = true → Reps N w x v → DpAll N.K H v (D.pds x)
  | n, [], _, _, q => by
    obtain rfl := q
    exact .nil
  | n, x :: xs, _, hx, q => by
    have hx : (D.dat n x && D.dats n xs) = true := hx
    rw [Bool.and_eq_true] at hx
    obtain ⟨v, r', rfl, q1, q2⟩ := q
    exact .cons (dp_of r n x v hx.1 q1) (dps_of r n xs r' hx.2 q2)
end
theorem dp_dat (r : RelH N w h H) {x : D} {v : V} (q : Rep N w x v) (hx : D.dat 64 (datOf h x) = true) : Dp N.K H v (datOf h x).pd := by
  cases x with
  | ref n =>
    have hx : D.dat 64 (match h[n]? with
      | some (.lst xs) => .fl xs
      | _ => .ref n) = true := hx
    show Dp N.K H v (match h[n]? with
      | some (.lst xs) => D.fl xs
      | _ => .ref n).pd
    cases e : h[n]? with
    | none =>
      rw [e] at hx
      cases hx
    | some o =>
      rw [e] at hx
      cases o with
      | lst xs =>
        obtain ⟨a, e1, rfl⟩ := q
        obtain ⟨b, e4, vs, e5, e6⟩ := r.at_ e
        rw [e1] at e4
        cases e4
        exact .lst (.of e5) (dps_of r 63 xs vs hx e6)
      | _ => cases hx
  | _ => exact dp_of r 64 _ v hx q
end
/-! ### == and != -/
theorem scal_str (a b : List Nat) : scal (.str (toS a)) (.str (toS b)) = true := rfl
theorem dec_strL (a b : List Nat) : decide (V.str (toS a) = V.str (toS b)) = (a == b) := by
  rw [Bool.eq_iff_iff, decide_eq_true_eq, beq_iff_eq]
  exact ⟨fun e => toS_inj (V.str.inj e), fun e => by rw [e]⟩
def rEqA (K : PySem.W.Frag) : R2 := fun x y H Q => rEq x y H Q ∨ rEqD K x y H Q
def rNeA (K : PySem.W.Frag) : R2 := fun x y H Q => rNe x y H Q ∨ rNeD K x y H Q
theorem op_eqA {X : Cx} (hu : X.A.units + 64 < cLine) : OpR X (compareOp .Eq) (rEqA X.K) := op_eq.or (op_eqD hu)
theorem op_neA {X : Cx} (hu : X.A.units + 64 < cLine) : OpR X (compareOp .NotEq) (rNeA X.K) := op_ne.or (op_neD hu)
theorem eqD_cases {N : Nm} {w : Wd} {h : Hs} {H : Hp} {x y : D} {v u : V} {b : Bool} (r : RelH N w h H) (qx : Rep N w x v) (qy : Rep N w y u) (e : eqD h x y = some b) :
    (scal v u = true ∧ decide (v = u) = b) ∨ ∃ d e, Dp N.K H v d ∧ Dp N.K H u e ∧ SeqAt.shaped d = true ∧ SeqAt.shaped e = true ∧ PyData.eqv d e = b := by
  unfold eqD at e
  split at e
  · obtain rfl := qx
    obtain rfl := qy
    cases e
    exact .inl ⟨rfl, dec_strL _ _⟩
  · split at e
    · rename_i hd
      rw [Bool.and_eq_true] at hd
      cases e
      exact .inr ⟨_, _, dp_dat r qx hd.1, dp_dat r qy hd.2, shaped_pd hd.1, shaped_pd hd.2, eqv_pd 64 64 _ _ hd.1 hd.2⟩
    · cases e
theorem ops_eq {N : Nm} : OpS N (rEqA N.K) (opCmp .eq) := by
  intro W w h H σ x y v u Q r qx qy p
  unfold opCmp cmpD at p
  split at p
  · rename_i b e
    rcases eqD_cases r qx qy e with ⟨h1, h2⟩ | ⟨d, e', h1, h2, h3, h4, h5⟩
    · exact .inl ⟨h1, by rw [h2]; exact post_val p r rfl⟩
    · exact .inr ⟨d, e', h1, h2, h3, h4, by rw [h5]; exact post_val p r rfl⟩
  · exact p.elim
theorem ops_ne {N : Nm} : OpS N (rNeA N.K) (opCmp .ne) := by
  intro W w h H σ x y v u Q r qx qy p
  unfold opCmp cmpD at p
  split at p
  · rename_i b e
    cases e1 : eqD h x y with
    | none =>
      rw [e1] at e
      cases e
    | some c =>
      rw [e1] at e
      cases e
      rcases eqD_cases r qx qy e1 with ⟨h1, h2⟩ | ⟨d, e', h1, h2, h3, h4, h5⟩
      · exact .inl ⟨h1, by rw [h2]; exact post_val p r rfl⟩
      · exact .inr ⟨d, e', h1, h2, h3, h4, by rw [h5]; exact post_val p r rfl⟩
  · exact p.elim
/-! ### < and its like -/
def rCmpA (f : Int → Int → Bool) (g : List Nat → List Nat → Bool) : R2 := fun x y H Q => rI0 (fun i j => .bl (f i j)) x y H Q ∨ (∃ i j, x = .str i ∧ y = .str j ∧ Q (.bl (g i.cps.toList j.cps.toList)) H)
theorem op_ltA {X : Cx} : OpR X (compareOp .Lt) (rCmpA (fun i j => decide (i < j)) fun i j => decide (i < j)) := op_lt.or op_lt_str
theorem op_leA {X : Cx} : OpR X (compareOp .LtE) (rCmpA (fun i j => decide (i ≤ j)) fun i j => !decide (j < i)) := op_le.or op_le_str
theorem op_gtA {X : Cx} : OpR X (compareOp .Gt) (rCmpA (fun i j => decide (j < i)) fun i j => decide (j < i)) := op_gt.or op_gt_str
theorem op_geA {X : Cx} : OpR X (compareOp .GtE) (rCmpA (fun i j => decide (j ≤ i)) fun i j => !decide (i < j)) := op_ge.or op_ge_str
theorem le_not_lt (a b : List Nat) : (!decide (b < a)) = decide (a ≤ b) := by
  by_cases h : b < a
  · rw [decide_eq_true h, decide_eq_false (List.not_le.mpr h)]
    rfl
  · rw [decide_eq_false h, decide_eq_true (List.not_lt.mp h)]
    rfl
theorem ops_cmp {N : Nm} {o : Cop} {f : Int → Int → Bool} {g : List Nat → List Nat → Bool} (hc : ∀ x y h, cmpD o x y h = match x, y with
    | .int a, .int b => some (f a b)
    | .str a, .str b => some (g a b)
    | _, _ => none) : OpS N (rCmpA f g) (opCmp o) := by
  intro W w h H σ x y v u Q r qx qy p
  unfold opCmp at p
  rw [hc] at p
  split at p
  · rename_i b e
    split at e
    · cases e
      exact .inl ⟨_, _, qx, qy, post_val p r rfl⟩
    · cases e
      exact .inr ⟨_, _, qx, qy, post_val p r rfl⟩
    · cases e
  · exact p.elim
theorem ops_lt {N : Nm} : OpS N (rCmpA (fun i j => decide (i < j)) fun i j => decide (i < j)) (opCmp .lt) := ops_cmp fun _ _ _ => rfl
theorem ops_gt {N : Nm} : OpS N (rCmpA (fun i j => decide (j < i)) fun i j => decide (j < i)) (opCmp .gt) := ops_cmp fun _ _ _ => rfl
theorem ops_le {N : Nm} : OpS N (rCmpA (fun i j => decide (i ≤ j)) fun i j => !decide (j < i)) (opCmp .le) := ops_cmp fun x y h => by
  cases x <;> cases y <;> first | rfl | exact congrArg some (le_not_lt _ _).symm
theorem ops_ge {N : Nm} : OpS N (rCmpA (fun i j => decide (j ≤ i)) fun i j => !decide (i < j)) (opCmp .ge) := ops_cmp fun x y h => by
  cases x <;> cases y <;> first | rfl | exact congrArg some (le_not_lt _ _).symm
/-! ### is -/
def rIsA (neg : Bool) : R2 := fun x y H Q => (y = .non ∧ Q (.bl (xor neg (decide (x = .non)))) H) ∨ ∃ b : Bool, y = .bl b ∧ Q (.bl (xor neg (decide (x = .bl b)))) H
theorem relV_bl {x : V} {v : Value} (r : RelV x v) (b : Bool) : (v = Value.bool b) ↔ x = .bl b := by
  constructor
  · intro e
    subst e
    exact r.inj rfl
  · intro e
    subst e
    exact r
theorem plain_bl {x : V} {v : Value} (r : RelV x v) {b : Bool} : plainIs v (Value.bool b) = true := by
  have e := r.abs
  cases v <;> first
    | rfl
    | cases e
theorem op_isA {X : Cx} : OpR X (compareOp .Is) (rIsA false) := by
  intro pins s σ H x y v u Q I rx ry h
  rcases h with ⟨rfl, q⟩ | ⟨b, rfl, q⟩
  · exact op_isN pins s σ H x _ v u Q I rx ry ⟨rfl, by simpa using q⟩
  · cases (show u = Value.bool b from ry)
    by_cases e : v = Value.bool b
    · subst e
      rw [(relV_bl rx b).mp rfl] at q
      exact wpAny_is_self rfl ⟨.bl true, H, I, rfl, by simpa using q⟩
    · have e2 : x ≠ .bl b := fun z => e ((relV_bl rx b).mpr z)
      refine wpAny_is_other (plain_bl rx) e ⟨.bl false, H, I, rfl, by simpa [e2] using q⟩
theorem op_isnotA {X : Cx} : OpR X (compareOp .IsNot) (rIsA true) := by
  intro pins s σ H x y v u Q I rx ry h
  rcases h with ⟨rfl, q⟩ | ⟨b, rfl, q⟩
  · exact op_notN pins s σ H x _ v u Q I rx ry ⟨rfl, by simpa using q⟩
  · cases (show u = Value.bool b from ry)
    by_cases e : v = Value.bool b
    · subst e
      rw [(relV_bl rx b).mp rfl] at q
      exact wpAny_isNot_self rfl ⟨.bl false, H, I, rfl, by simpa using q⟩
    · have e2 : x ≠ .bl b := fun z => e ((relV_bl rx b).mpr z)
      refine wpAny_isNot_other (plain_bl rx) e ⟨.bl true, H, I, rfl, by simpa [e2] using q⟩
theorem rep_non {N : Nm} {w : Wd} {d : D} {v : V} (q : Rep N w d v) : decide (v = .non) = (match d with | .non => true | _ => false) := by
  cases d with
  | non => obtain rfl := q; rfl
  | bl _ => obtain rfl := q; rfl
  | int _ => obtain rfl := q; rfl
  | str _ => obtain rfl := q; rfl
  | tup _ => obtain ⟨_, _, rfl, _⟩ := q; rfl
  | fl _ => obtain ⟨_, _, rfl, _⟩ := q; rfl
  | sl _ => obtain ⟨_, _, rfl, _⟩ := q; rfl
  | fd _ => obtain ⟨_, _, rfl, _⟩ := q; rfl
  | ref _ => obtain ⟨_, _, rfl⟩ := q; rfl
  | fn _ => obtain rfl := q; rfl
  | xc _ _ => obtain ⟨_, _, rfl, _⟩ := q; rfl
theorem rep_bl {N : Nm} {w : Wd} {d : D} {v : V} {b : Bool} (q : Rep N w d v) : decide (v = .bl b) = (match d with | .bl c => c == b | _ => false) := by
  cases d with
  | non => obtain rfl := q; rfl
  | bl c => obtain rfl := q; exact dec_bl
  | int _ => obtain rfl := q; rfl
  | str _ => obtain rfl := q; rfl
  | tup _ => obtain ⟨_, _, rfl, _⟩ := q; rfl
  | fl _ => obtain ⟨_, _, rfl, _⟩ := q; rfl
  | sl _ => obtain ⟨_, _, rfl, _⟩ := q; rfl
  | fd _ => obtain ⟨_, _, rfl, _⟩ := q; rfl
  | ref _ => obtain ⟨_, _, rfl⟩ := q; rfl
  | fn _ => obtain rfl := q; rfl
  | xc _ _ => obtain ⟨_, _, rfl, _⟩ := q; rfl
theorem isD_cases {N : Nm} {w : Wd} {x y : D} {v u : V} {b : Bool} (qx : Rep N w x v) (qy : Rep N w y u) (e : isD x y = some b) : (u = .non ∧ decide (v = .non) = b) ∨ ∃ c, u = .bl c ∧ decide (v = .bl c) = b := by
  unfold isD at e
  split at e
  · cases e
    exact .inl ⟨qy, by rw [rep_non qx]⟩
  · rename_i hne
    cases e
    refine .inl ⟨qy, ?_⟩
    rw [rep_non qx]
    split
    · exact absurd rfl hne
    · rfl
  · cases e
    exact .inr ⟨_, qy, by rw [rep_bl qx]⟩
  · rename_i hne
    cases e
    refine .inr ⟨_, qy, ?_⟩
    rw [rep_bl qx]
    split
    · exact absurd rfl (hne _)
    · rfl
  · cases e
theorem ops_is {N : Nm} : OpS N (rIsA false) (opCmp .isx) := by
  intro W w h H σ x y v u Q r qx qy p
  unfold opCmp cmpD at p
  split at p
  · rename_i b e
    rcases isD_cases qx qy e with ⟨h1, h2⟩ | ⟨c, h1, h2⟩
    · exact .inl ⟨h1, by rw [h2, Bool.false_xor]; exact post_val p r rfl⟩
    · exact .inr ⟨c, h1, by rw [h2, Bool.false_xor]; exact post_val p r rfl⟩
  · exact p.elim
theorem ops_isnot {N : Nm} : OpS N (rIsA true) (opCmp .isnot) := by
  intro W w h H σ x y v u Q r qx qy p
  unfold opCmp cmpD at p
  split at p
  · rename_i b e
    cases e1 : isD x y with
    | none =>
      rw [e1] at e
      cases e
    | some c =>
      rw [e1] at e
      cases e
      rcases isD_cases qx qy e1 with ⟨h1, h2⟩ | ⟨c, h1, h2⟩
      · exact .inl ⟨h1, by rw [h2, Bool.true_xor]; exact post_val p r rfl⟩
      · exact .inr ⟨c, h1, by rw [h2, Bool.true_xor]; exact post_val p r rfl⟩
  · exact p.elim
end DN

set_option Elab.async false
set_option linter.all false
set_option maxRecDepth 100000
/-! D4: in, subscripts, slices, tests, rows. -/
namespace DN
open PySem PySem.Spec L2
open PyProof.Rows hiding St

/-! ### keys -/
theorem KeyRep.kV {N : Nm} {w : Wd} {d : D} {k : Key} {v : V} (h : KeyRep d k) (q : Rep N w d v) : v = kV k := by
  cases d with
  | int i =>
    obtain rfl := q
    cases (show k = Sum.inl i from h)
    rfl
  | str s =>
    obtain rfl := q
    cases (show k = Sum.inr (toS s) from h)
    rfl
  | _ => exact h.elim
theorem keyRep_of {N : Nm} {w : Wd} {d : D} {v : V} (h : isKey d = true) (q : Rep N w d v) : ∃ k, KeyRep d k ∧ v = kV k := by
  cases d with
  | int i => exact ⟨Sum.inl i, rfl, q⟩
  | str s => exact ⟨Sum.inr (toS s), rfl, q⟩
  | _ => cases h
theorem keyEq_rep {a b : D} {k q : Key} (h : KeyRep a k) (h2 : KeyRep b q) : keyEq a b = decide (k = q) := by
  cases a with
  | int i =>
    cases (show k = Sum.inl i from h)
    cases b with
    | int j =>
      cases (show q = Sum.inl j from h2)
      rw [key_ll]
      rfl
    | str t =>
      cases (show q = Sum.inr (toS t) from h2)
      rw [key_lr]
      rfl
    | _ => exact h2.elim
  | str s =>
    cases (show k = Sum.inr (toS s) from h)
    cases b with
    | int j =>
      cases (show q = Sum.inl j from h2)
      rw [key_rl]
      rfl
    | str t =>
      cases (show q = Sum.inr (toS t) from h2)
      rw [key_rr]
      show (s == t) = _
      rw [← toS_beq, Bool.beq_eq_decide_eq]
    | _ => exact h2.elim
  | _ => exact h.elim
section
variable {N : Nm} {w : Wd} {h : Hs} {H : Hp}
theorem Repd.length : ∀ {xs : List (D × D)} {vs : List (Key × V)}, Repd N w xs vs → vs.length = xs.length
  | [], _, h => by
    have h : _ = [] := h
    rw [h] <;> rfl
  | (k, x) :: xs, _, h => by
    obtain ⟨q, v, r, e, _, _, q⟩ := h
    rw [e, List.length_cons, List.length_cons, Repd.length q]
theorem Repd.get {d : D} {k : Key} (hk : KeyRep d k) : ∀ {xs : List (D × D)} {vs : List (Key × V)}, Repd N w xs vs → match dget xs d with
    | some x => ∃ v, valV vs k = some v ∧ Rep N w x v
    | none => valV vs k = none
  | [], _, h => by
    have h : _ = [] := h
    rw [h]
    exact valV_nil
  | (k', x) :: xs, _, h => by
    obtain ⟨q, v, r, rfl, h1, h2, h3⟩ := h
    unfold dget
    rw [keyEq_rep h1 hk]
    by_cases e : q = k
    · rw [decide_eq_true e, if_pos rfl]
      exact ⟨v, valV_pos e, h2⟩
    · rw [decide_eq_false e, if_neg (by simp), valV_neg e]
      exact Repd.get hk h3
theorem RelH.dct (r : RelH N w h H) {d : D} {v : V} {kvs : List (D × D)} (q : Rep N w d v) (e : dctOf h d = some kvs) : ∃ a ks, v = .ref a ∧ H a = some (.dK ks) ∧ Repd N w kvs ks := by
  unfold dctOf at e
  split at e
  · obtain ⟨a, vs, e1, e2, e3⟩ := q
    cases e
    exact ⟨a, vs, e1, r.imm _ _ e2, e3⟩
  · rename_i n
    obtain ⟨a, e1, e2⟩ := q
    split at e
    · rename_i ys e3
      cases e
      obtain ⟨b, e4, vs, e5, e6⟩ := r.at_ e3
      rw [e1] at e4
      cases e4
      exact ⟨a, vs, e2, e5, e6⟩
    · cases e
  · cases e
end
/-! ### in -/
theorem flat_rep {N : Nm} {w : Wd} {d : D} {v : V} (q : Rep N w d v) (f : flatD d = true) : flatV v = true := by
  cases d with
  | non => obtain rfl := q; rfl
  | bl _ => obtain rfl := q; rfl
  | int _ => obtain rfl := q; rfl
  | str _ => obtain rfl := q; rfl
  | _ => cases f
theorem eqv_rep {N : Nm} {w : Wd} {d e : D} {v u : V} (q : Rep N w d v) (r : Rep N w e u) (f : flatD d = true) (g : flatD e = true) : eqV v u = D.eqv d e := by
  cases d with
  | non => obtain rfl := q; cases e <;> first | (obtain rfl := r; rfl) | cases g
  | bl _ => obtain rfl := q; cases e <;> first | (obtain rfl := r; rfl) | cases g
  | int _ => obtain rfl := q; cases e <;> first | (obtain rfl := r; rfl) | cases g
  | str a =>
    obtain rfl := q
    cases e with
    | str b => obtain rfl := r; exact toS_beq a b
    | _ => first | (obtain rfl := r; rfl) | cases g
  | _ => cases f
theorem flats_rep {N : Nm} {w : Wd} : ∀ {xs : List D} {vs : List V}, Reps N w xs vs → xs.all flatD = true → vs.all flatV = true
  | [], _, h, _ => by
    have h : _ = [] := h
    rw [h] <;> rfl
  | x :: xs, _, h, f => by
    obtain ⟨v, r, rfl, h1, h2⟩ := h
    rw [List.all_cons, Bool.and_eq_true] at f ⊢
    exact ⟨flat_rep h1 f.1, flats_rep h2 f.2⟩
theorem inV_rep {N : Nm} {w : Wd} {d : D} {v : V} (q : Rep N w d v) (f : flatD d = true) : ∀ {xs : List D} {vs : List V}, Reps N w xs vs → xs.all flatD = true → inV v vs = xs.any fun z => D.eqv z d
  | [], _, h, _ => by
    have h : _ = [] := h
    rw [h] <;> rfl
  | x :: xs, _, h, g => by
    obtain ⟨u, r, rfl, h1, h2⟩ := h
    rw [List.all_cons, Bool.and_eq_true] at g
    have ih := inV_rep q f h2 g.2
    unfold inV at ih ⊢
    rw [List.any_cons, List.any_cons, eqv_rep h1 q g.1 f, ih]
def rInA (K : PySem.W.Frag) (neg : Bool) : R2 := fun x y H Q => (∃ (c : Nat) (z : Str), x = .str ⟨#[c]⟩ ∧ y = .str z ∧ Q (.bl (xor neg (decide (c ∈ z.cps.toList)))) H) ∨ rIn K neg x y H Q ∨
  ∃ a o, y = .ref a ∧ DGet H a x o ∧ Q (.bl (xor neg o.isSome)) H
theorem op_inA {X : Cx} (hu : X.A.units + 1 < cLine) : OpR X (compareOp .In) (rInA X.K false) := by
  intro pins s σ H x y v u Q I rx ry h
  rcases h with ⟨c, z, rfl, rfl, q⟩ | h | ⟨a, o, rfl, g, q⟩
  · exact op_in_sign pins s σ H _ _ v u Q I rx ry ⟨c, z, rfl, rfl, by simpa using q⟩
  · exact op_in_seq pins s σ H x y v u Q I rx ry h
  · obtain rfl : u = Value.ref a := ry
    exact d_in hu I g rx fun s' I' => ⟨.bl o.isSome, H, I', rfl, by simpa using q⟩
theorem op_notInA {X : Cx} (hu : X.A.units + 1 < cLine) : OpR X (compareOp .NotIn) (rInA X.K true) := by
  intro pins s σ H x y v u Q I rx ry h
  rcases h with ⟨c, z, rfl, rfl, q⟩ | h | ⟨a, o, rfl, g, q⟩
  · exact op_notIn_sign pins s σ H _ _ v u Q I rx ry ⟨c, z, rfl, rfl, by simpa using q⟩
  · exact op_notIn_seq pins s σ H x y v u Q I rx ry h
  · obtain rfl : u = Value.ref a := ry
    exact d_notIn hu I g rx fun s' I' => ⟨.bl (!o.isSome), H, I', rfl, by simpa using q⟩
theorem inD_cases {N : Nm} {w : Wd} {h : Hs} {H : Hp} {x y : D} {v u : V} {b : Bool} (neg : Bool) {Q : VK} (r : RelH N w h H) (qx : Rep N w x v) (qy : Rep N w y u) (e : inD h x y = some b) (q : Q (.bl (xor neg b)) H) : rInA N.K neg v u H Q := by
  unfold inD at e
  split at e
  · rename_i c z
    obtain rfl := qx
    obtain rfl := qy
    cases e
    exact .inl ⟨c, toS z, rfl, rfl, q⟩
  · split at e
    · rename_i ys e1
      obtain ⟨a, vs, rfl, ha, hr⟩ := r.seq qy e1
      split at e
      · rename_i hf
        rw [Bool.and_eq_true] at hf
        cases e
        refine .inr (.inl ⟨a, vs, rfl, ha, flat_rep qx hf.1, flats_rep hr hf.2, ?_⟩)
        rw [inV_rep qx hf.1 hr hf.2]
        cases neg
        · simpa using q
        · simpa using q
      · cases e
    · split at e
      · rename_i kvs e1
        obtain ⟨a, ks, rfl, ha, hr⟩ := r.dct qy e1
        split at e
        · rename_i hk
          cases e
          obtain ⟨k, hk1, rfl⟩ := keyRep_of hk qx
          refine .inr (.inr ⟨a, valV ks k, rfl, .k ha, ?_⟩)
          have z := Repd.get hk1 hr
          split at z
          · rename_i d ed
            obtain ⟨u', h1, _⟩ := z
            rw [ed] at q
            rw [h1]
            exact q
          · rename_i ed
            rw [ed] at q
            rw [z]
            exact q
        · cases e
      · cases e
theorem ops_in {N : Nm} : OpS N (rInA N.K false) (opCmp .inn) := by
  intro W w h H σ x y v u Q r qx qy p
  unfold opCmp cmpD at p
  split at p
  · rename_i b e
    exact inD_cases false r qx qy e (by rw [Bool.false_xor]; exact post_val p r rfl)
  · exact p.elim
theorem ops_notin {N : Nm} : OpS N (rInA N.K true) (opCmp .notin) := by
  intro W w h H σ x y v u Q r qx qy p
  unfold opCmp cmpD at p
  split at p
  · rename_i b e
    cases e1 : inD h x y with
    | none =>
      rw [e1] at e
      cases e
    | some c =>
      rw [e1] at e
      cases e
      exact inD_cases true r qx qy e1 (by rw [Bool.true_xor]; exact post_val p r rfl)
  · exact p.elim
/-! ### subscripts -/
theorem ixD_eq (n : Nat) (i : Int) : ixD n i = ixN n i := rfl
theorem at_rep {N : Nm} {w : Wd} {xs : List D} {vs : List V} {i : Int} {d : D} (r : Reps N w xs vs) (e : (ixD xs.length i).bind (fun j => xs[j]?) = some d) : ∃ v, atI vs i = some v ∧ Rep N w d v := by
  unfold atI
  rw [r.length, ← ixD_eq]
  cases q : ixD xs.length i with
  | none =>
    rw [q] at e
    cases e
  | some j =>
    rw [q] at e
    obtain ⟨v, h1, h2⟩ := r.get (show xs[j]? = some d from e)
    exact ⟨v, h1, h2⟩
def rIxD : R2 := fun x y H Q => ∃ a v, x = .ref a ∧ DGet H a y (some v) ∧ Q v H
theorem ix_dict {X : Cx} (hu : X.A.units + 1 < cLine) : IxR X rIxD := by
  intro value slice pins s σ H x y v u Q I rx ry h hs
  obtain ⟨a, z, rfl, g, q⟩ := h
  obtain rfl : v = Value.ref a := rx
  exact tail_any (ops := [.ref a, u]) (dict_typeIs I g) PySem.F.slot_dict_getitem.lookup (d_getItem hu I g ry fun w' s3 I3 rw' => ⟨z, H, I3, rw', q⟩) hs
def rIxA (K : PySem.W.Frag) : R2 := fun x y H Q => rIx K x y H Q ∨ rIxD x y H Q
theorem ix_any {X : Cx} (hu : X.A.units + 1 < cLine) : IxR X (rIxA X.K) := ix_seq.or (ix_dict hu)
theorem ops_ix {N : Nm} : OpS N (rIxA N.K) opIx := by
  intro W w h H σ x y v u Q r qx qy p
  unfold opIx at p
  split at p
  · rename_i s i
    obtain rfl := qx
    obtain rfl := qy
    split at p
    · rename_i hz
      split at p
      · rename_i c e
        refine .inl (.inr (.inr ⟨toS s, i, c, rfl, rfl, by rw [toS_length, ← SZ_eq]; exact hz, e, post_val p r rfl⟩))
      · exact p.elim
    · exact p.elim
  · split at p
    · rename_i xs e1
      obtain ⟨a, vs, rfl, ha, hr⟩ := r.seq qx e1
      split at p
      · rename_i i _
        obtain rfl := qy
        split at p
        · rename_i d e2
          obtain ⟨v, h1, h2⟩ := at_rep hr e2
          have q := post_val p r h2
          rcases ha with ha | ha
          · exact .inl (.inl ⟨a, vs, i, v, rfl, rfl, ha, h1, q⟩)
          · exact .inl (.inr (.inl ⟨a, vs, i, v, rfl, rfl, ha, h1, q⟩))
        · exact p.elim
      · exact p.elim
    · split at p
      · rename_i kvs e1
        obtain ⟨a, ks, rfl, ha, hr⟩ := r.dct qx e1
        split at p
        · rename_i hk
          obtain ⟨k, hk1, rfl⟩ := keyRep_of hk qy
          split at p
          · rename_i d e2
            have z := Repd.get hk1 hr
            rw [e2] at z
            obtain ⟨v, h1, h2⟩ := z
            exact .inr ⟨a, v, rfl, .inl ⟨ks, k, .inl ha, rfl, h1.symm⟩, post_val p r h2⟩
          · exact p.elim
        · exact p.elim
      · exact p.elim
section
variable {X : Cx} {N : Nm} {W : WX} {ma mb mc : M D} {e a b c : Expr} {pos : Pos}
theorem snd_ix (hu : X.A.units + 1 < cLine) (hK : X.K = N.K) (ha : PE X a (TD N ma W)) (hb : PE X b (TD N mb W)) (hs : PlainIx b) : PE X (.Subscript a b pos) (TD N (mOp opIx ma mb) W) :=
  pe_imp (pe_ix (ix_any hu) ha hb hs) (by rw [hK]; exact td_op ops_ix)
end
/-! ### slices -/
theorem cut_rep {N : Nm} {w : Wd} {xs : List D} {vs : List V} (lo hi : Option Int) (r : Reps N w xs vs) : Reps N w (cutD xs lo hi) (cutV vs lo hi) := by
  unfold cutD cutV
  rw [r.length]
  exact (r.drop _).take _
def SlS (N : Nm) (rr : V → Option Int → Option Int → Hp → VK → Prop) (g : D → Option Int → Option Int → Hs → R D) : Prop := ∀ (W : WX) (w : Wd) (h : Hs) (H : Hp) (σ : St) (x : D) (lo hi : Option Int) (v : V) (Q : VK), RelH N w h H → Rep N w x v → Post N (Rep N) W w σ Q (g x lo hi h) → rr v lo hi H Q
def rSlAny (K : PySem.W.Frag) : V → Option Int → Option Int → Hp → VK → Prop := fun x lo hi H Q => rSlL K x lo hi H Q ∨ rSlA K x lo hi H Q ∨ rSlS x lo hi H Q
theorem sl_any {X : Cx} : SlR X (rSlAny X.K) := sl_list.or (sl_tupA.or sl_str)
theorem cut_len {α : Type} (xs : List α) (lo hi : Option Int) : (cutD xs lo hi).length ≤ xs.length := by
  unfold cutD
  rw [List.length_take, List.length_drop]
  omega
theorem sls_any {N : Nm} (hp : Bool) : SlS N (rSlAny N.K) (opSlc hp) := by
  intro W w h H σ x lo hi v Q r qx p
  unfold opSlc at p
  split at p
  · rename_i s
    obtain rfl := qx
    split at p
    · rename_i hz
      refine .inr (.inr ⟨toS s, rfl, by rw [toS_length, ← SZ_eq]; exact hz, ?_⟩)
      refine post_val p r ?_
      show V.str (cutS (toS s) lo hi) = V.str (toS (cutD s lo hi))
      unfold cutS cutD
      rw [toS_length]
      rfl
    · exact p.elim
  · rename_i xs
    obtain ⟨a, vs, rfl, ha, hr⟩ := qx
    refine .inr (.inl ⟨a, vs, rfl, r.sqT ha, fun e => ?_, fun e q hq => ?_⟩)
    · refine post_val p r ⟨a, vs, rfl, ha, ?_⟩
      have e1 : cutD xs lo hi = xs := by
        unfold cutD
        rw [hr.length] at e
        obtain ⟨e1, e2⟩ := e
        rw [show sixD xs.length 0 lo = 0 from e1, show sixD xs.length xs.length hi = xs.length from e2]
        simp
      rw [e1]
      exact hr
    · obtain ⟨w', l, e1, r'⟩ := r.newIm (u := .tup (cutV vs lo hi)) hq
      exact p w' _ _ l r' ⟨q, _, rfl, .inl e1, Reps.up l _ _ (cut_rep lo hi hr)⟩
  · split at p
    · rename_i xs e
      obtain ⟨a, vs, rfl, ha, hr⟩ := r.lst qx e
      exact .inl ⟨a, vs, rfl, ha, (post_mkL r (cut_rep lo hi hr) p).2⟩
    · exact p.elim
section
variable {X : Cx} {N : Nm} {W : WX} {ma mb mc : M D} {e a b c : Expr} {pos : Pos}
theorem snd_part0 : PO X none (TDg N (fun _ x y => x = y) (mPart none) W) := ⟨fun pins s σ H Q I t => po_none.run pins s σ H Q I (by
  obtain ⟨w, ρ, h, r1, r2, p⟩ := t
  exact p w H none (Wd.le.refl w) r1 rfl)⟩
theorem snd_part1 (ha : PE X a (TD N ma W)) : PO X (some a) (TDg N (fun _ x y => x = y) (mPart (some ma)) W) := ⟨fun pins s σ H Q I t => (po_some ha).run pins s σ H Q I (by
  obtain ⟨w, ρ, h, r1, r2, p⟩ := t
  refine TDg.imp (td_bind (m := ma) r1 r2 p) fun v H1 ⟨w1, h1, x, l1, q1, q2, q3, p1⟩ => ?_
  cases x with
  | int i => exact ⟨i, q3, p1 w1 H1 _ (Wd.le.refl w1) q1 rfl⟩
  | _ => exact p1.elim)⟩
theorem snd_slc (hp : Bool) (hK : X.K = N.K) {lo hi : Option Expr} {ml mh : Option (M D)} {p2 : Pos} (ha : PE X a (TD N ma W)) (hl : PO X lo (TDg N (fun _ x y => x = y) (mPart ml) W)) (hh : PO X hi (TDg N (fun _ x y => x = y) (mPart mh) W)) :
    PE X (.Subscript a (.Slice lo hi none p2) pos) (TD N (mSlc hp ma ml mh) W) := pe_imp (pe_slice sl_any ha hl hh) (by
  rw [hK]
  intro σ H Q t
  obtain ⟨w, ρ, h, r1, r2, p⟩ := t
  refine TDg.imp (td_bind (m := ma) r1 r2 p) fun v H1 ⟨w1, h1, x, l1, q1, q2, q3, p1⟩ => ?_
  refine TDg.imp (td_bind (m := mPart ml) q1 q2 p1) fun l H2 ⟨w2, h2, l', l2, q4, q5, q6, p2⟩ => ?_
  refine TDg.imp (td_bind (m := mPart mh) q4 q5 p2) fun u H3 ⟨w3, h3, u', l3, q7, q8, q9, p3⟩ => ?_
  subst q6
  subst q9
  exact sls_any hp W w3 h3 H3 σ x _ _ v Q q7 (Rep.up (l2.trans l3) _ _ q3) p3)
/-! ### and, or, not; tests -/
theorem snd_and {rest : List Expr} (ha : PE X a (TD N ma W)) (hb : PE X (.BoolOp .And (b :: rest) pos) (TD N mb W)) : PE X (.BoolOp .And (a :: b :: rest) pos) (TD N (mAnd ma mb) W) := pe_imp (pe_and ha hb) fun σ H Q t => by
  obtain ⟨w, ρ, h, r1, r2, p⟩ := t
  refine TDg.imp (td_bind (m := ma) r1 r2 p) fun v H1 ⟨w1, h1, x, l1, q1, q2, q3, p1⟩ => ?_
  cases x with
  | bl b =>
    refine ⟨b, q3, ?_⟩
    cases b with
    | true => exact iteT ⟨w1, ρ, h1, q1, q2, p1⟩
    | false => exact iteF (post_val p1 q1 rfl)
  | _ => exact p1.elim
theorem snd_or {rest : List Expr} (ha : PE X a (TD N ma W)) (hb : PE X (.BoolOp .Or (b :: rest) pos) (TD N mb W)) : PE X (.BoolOp .Or (a :: b :: rest) pos) (TD N (mOr ma mb) W) := pe_imp (pe_or ha hb) fun σ H Q t => by
  obtain ⟨w, ρ, h, r1, r2, p⟩ := t
  refine TDg.imp (td_bind (m := ma) r1 r2 p) fun v H1 ⟨w1, h1, x, l1, q1, q2, q3, p1⟩ => ?_
  cases x with
  | bl b =>
    refine ⟨b, q3, ?_⟩
    cases b with
    | true => exact iteT (post_val p1 q1 rfl)
    | false => exact iteF ⟨w1, ρ, h1, q1, q2, p1⟩
  | _ => exact p1.elim
theorem Reps.isEmpty {w : Wd} : ∀ {xs : List D} {vs : List V}, Reps N w xs vs → (!xs.isEmpty) = !vs.isEmpty
  | [], _, h => by
    have h : _ = [] := h
    rw [h] <;> rfl
  | _ :: _, _, h => by
    obtain ⟨_, _, rfl, _⟩ := h
    rfl
theorem Repd.isEmpty {w : Wd} : ∀ {xs : List (D × D)} {vs : List (Key × V)}, Repd N w xs vs → (!xs.isEmpty) = !vs.isEmpty
  | [], _, h => by
    have h : _ = [] := h
    rw [h] <;> rfl
  | _ :: _, _, h => by
    obtain ⟨_, _, _, rfl, _⟩ := h
    rfl
theorem truth_rep {w : Wd} {h : Hs} {H : Hp} {x : D} {v : V} {b : Bool} (r : RelH N w h H) (q : Rep N w x v) (e : truth h x = some b) : TruV N.K v H b := by
  unfold truth at e
  split at e
  · obtain rfl := q; cases e; rfl
  · obtain rfl := q; cases e; rfl
  · obtain rfl := q; cases e; rfl
  · obtain rfl := q
    split at e
    · rename_i s hz
      cases e
      refine ⟨by rw [toS_length, ← SZ_eq]; exact hz, ?_⟩
      rw [toS_length]
      show (s.length != 0) = ((s.length : Int) != 0)
      rw [Bool.eq_iff_iff, bne_iff_ne, bne_iff_ne]
      omega
    · cases e
  · obtain ⟨a, vs, rfl, ha, hr⟩ := q
    cases e
    exact .inr (.inl ⟨vs, r.sqT ha, hr.isEmpty⟩)
  · obtain ⟨a, vs, rfl, ha, hr⟩ := q
    cases e
    exact .inl ⟨vs, .of (r.sqL ha), hr.isEmpty⟩
  · obtain ⟨a, vs, rfl, ha, hr⟩ := q
    cases e
    exact .inl ⟨vs, r.scr ha, hr.isEmpty⟩
  · obtain ⟨a, vs, rfl, ha, hr⟩ := q
    cases e
    exact .inr (.inr ⟨vs, r.imm _ _ ha, hr.isEmpty⟩)
  · obtain ⟨a, e1, rfl⟩ := q
    split at e
    · rename_i n xs e3
      cases e
      obtain ⟨b, e4, vs, e5, e6⟩ := r.at_ e3
      rw [e1] at e4
      cases e4
      exact .inl ⟨vs, .of e5, e6.isEmpty⟩
    · rename_i n xs e3
      cases e
      obtain ⟨b, e4, vs, e5, e6⟩ := r.at_ e3
      rw [e1] at e4
      cases e4
      exact .inr (.inr ⟨vs, e5, e6.isEmpty⟩)
    · cases e
  · cases e
theorem td_val (hK : X.K = N.K) (σ : St) (H : Hp) (Q : Bool → Hp → Prop) (t : TDt N (tVal ma) W σ H Q) : TD N ma W σ H fun x H' => ∃ k, TruV X.K x H' k ∧ Q k H' := by
  obtain ⟨w, ρ, h, r1, r2, p⟩ := t
  refine TDg.imp (td_bind (m := ma) r1 r2 p) fun v H1 ⟨w1, h1, x, l1, q1, q2, q3, p1⟩ => ?_
  split at p1
  · rename_i b e
    exact ⟨b, by rw [hK]; exact truth_rep q1 q3 e, p1 w1 H1 b (Wd.le.refl w1) q1 rfl⟩
  · exact p1.elim
/-- a test by its value -/
theorem snd_tval (hK : X.K = N.K) (ha : PE X a (TD N ma W)) (he : ∀ whole, isTrue a X.env whole = (do let v ← whole; standAt a.pos; holding [v] (truthy v))) : PT X a (TDt N (tVal ma) W) := pt_imp (pt_truth ha he) (td_val hK)
end
section
variable {X : Cx} {N : Nm} {W : WX} {ma mb mc : M D} {ta tb : M Bool} {e a b c : Expr} {pos : Pos}
theorem snd_not (ha : PT X a (TDt N ta W)) : PT X (.UnaryOp .Not a pos) (TDt N (DN.tNot ta) W) := pt_imp (pt_not ha) fun σ H Q t => by
  obtain ⟨w, ρ, h, r1, r2, p⟩ := t
  refine TDg.imp (td_bind (m := ta) r1 r2 p) fun v H1 ⟨w1, h1, x, l1, q1, q2, q3, p1⟩ => ?_
  cases q3
  exact p1 w1 H1 _ (Wd.le.refl w1) q1 rfl
theorem snd_tand {rest : List Expr} (ha : PT X a (TDt N ta W)) (hb : PW X (.BoolOp .And (b :: rest) pos) (TDt N tb W)) : PW X (.BoolOp .And (a :: b :: rest) pos) (TDt N (DN.tAnd ta tb) W) := ⟨fun whole pins s σ H Q I t => (pw_and ha hb).run whole pins s σ H Q I (by
  obtain ⟨w, ρ, h, r1, r2, p⟩ := t
  refine TDg.imp (td_bind (m := ta) r1 r2 p) fun v H1 ⟨w1, h1, x, l1, q1, q2, q3, p1⟩ => ?_
  cases q3
  cases v with
  | true =>
    rw [if_pos rfl] at p1 ⊢
    exact ⟨w1, ρ, h1, q1, q2, p1⟩
  | false =>
    rw [if_neg (by simp)] at p1 ⊢
    exact p1 w1 H1 _ (Wd.le.refl w1) q1 rfl)⟩
theorem snd_tor {rest : List Expr} (ha : PT X a (TDt N ta W)) (hb : PW X (.BoolOp .Or (b :: rest) pos) (TDt N tb W)) : PW X (.BoolOp .Or (a :: b :: rest) pos) (TDt N (DN.tOr ta tb) W) := ⟨fun whole pins s σ H Q I t => (pw_or ha hb).run whole pins s σ H Q I (by
  obtain ⟨w, ρ, h, r1, r2, p⟩ := t
  refine TDg.imp (td_bind (m := ta) r1 r2 p) fun v H1 ⟨w1, h1, x, l1, q1, q2, q3, p1⟩ => ?_
  cases q3
  cases v with
  | true =>
    rw [if_pos rfl] at p1 ⊢
    exact p1 w1 H1 _ (Wd.le.refl w1) q1 rfl
  | false =>
    rw [if_neg (by simp)] at p1 ⊢
    exact ⟨w1, ρ, h1, q1, q2, p1⟩)⟩
theorem snd_ife (hc : PT X c (TDt N ta W)) (ha : PE X a (TD N ma W)) (hb : PE X b (TD N mb W)) : PE X (.IfExp c a b pos) (TD N (mIfe ta ma mb) W) := pe_imp (pe_ifExp hc ha hb) fun σ H Q t => by
  obtain ⟨w, ρ, h, r1, r2, p⟩ := t
  refine TDg.imp (td_bind (m := ta) r1 r2 p) fun v H1 ⟨w1, h1, x, l1, q1, q2, q3, p1⟩ => ?_
  cases q3
  cases v with
  | true =>
    rw [if_pos rfl] at p1 ⊢
    exact ⟨w1, ρ, h1, q1, q2, p1⟩
  | false =>
    rw [if_neg (by simp)] at p1 ⊢
    exact ⟨w1, ρ, h1, q1, q2, p1⟩
theorem snd_notV (hK : X.K = N.K) (ha : PE X a (TD N ma W)) : PE X (.UnaryOp .Not a pos) (TD N (mNotT ma) W) := pe_imp (pe_notT ha) fun σ H Q t => by
  obtain ⟨w, ρ, h, r1, r2, p⟩ := t
  refine TDg.imp (td_bind (m := ma) r1 r2 p) fun v H1 ⟨w1, h1, x, l1, q1, q2, q3, p1⟩ => ?_
  split at p1
  · rename_i b e
    exact ⟨b, by rw [hK]; exact truth_rep q1 q3 e, post_val p1 q1 rfl⟩
  · exact p1.elim
/-- a comparison as a test -/
theorem snd_tcmp {op : CmpOp} {r : R2} {o : Cop} (ho : OpR X (compareOp op) r) (hs : OpS N r (opCmp o)) (ha : PE X a (TD N ma W)) (hb : PE X b (TD N mb W)) (hm : behindInMarks op b = false) : PT X (.Compare a [op] [b] pos) (TDt N (tVal (mOp (opCmp o) ma mb)) W) :=
  pt_imp (pt_cmpR ho ha hb hm) fun σ H Q t => by
    obtain ⟨w, ρ, h, r1, r2, p⟩ := t
    refine td_op hs σ H _ ⟨w, ρ, h, r1, r2, ?_⟩
    unfold tVal at p
    cases e : mOp (opCmp o) ma mb ρ h with
    | ok x h1 =>
      rw [e] at p
      have p : Post N (fun _ a b => a = b) W w σ Q (match truth h1 x with | some b => .ok b h1 | none => .no) := p
      intro w' H' v l r' q
      have hx : ∃ k, x = .bl k := by
        unfold mOp at e
        cases e1 : ma ρ h with
        | ok y h2 =>
          rw [e1] at e
          simp only [bind_ok] at e
          cases e2 : mb ρ h2 with
          | ok z h3 =>
            rw [e2] at e
            simp only [bind_ok] at e
            unfold opCmp at e
            split at e
            · cases e
              exact ⟨_, rfl⟩
            · cases e
          | _ =>
            rw [e2] at e
            cases e
        | _ =>
          rw [e1] at e
          cases e
      obtain ⟨k, rfl⟩ := hx
      exact ⟨k, q, p w' H' k l r' rfl⟩
    | xc c fs h1 =>
      rw [e] at p
      exact p
    | no =>
      rw [e] at p
      exact p
theorem td_chain {op op' : CmpOp} {r r' : R2} {o o' : Cop} (hs : ∀ (W : WX) (w : Wd) (h : Hs) (H : Hp) (σ : St) (x y : D) (v u : V) (Q : VK), RelH N w h H → Rep N w x v → Rep N w y u → Post N (Rep N) W w σ Q (opCmp o x y h) → r v u H Q) (hs' : OpS N r' (opCmp o')) (σ : St) (H : Hp) (Q : VK)
    (t : TD N (mChain o o' ma mb mc) W σ H Q) : tChain r r' (TD N ma W) (TD N mb W) (TD N mc W) σ H Q := by
  obtain ⟨w, ρ, h, r1, r2, p⟩ := t
  refine TDg.imp (td_bind (m := ma) r1 r2 p) fun v H1 ⟨w1, h1, x, l1, q1, q2, q3, p1⟩ => ?_
  refine TDg.imp (td_bind (m := mb) q1 q2 p1) fun u H2 ⟨w2, h2, y, l2, q4, q5, q6, p2⟩ => ?_
  cases e : cmpD o x y h2 with
  | none =>
    rw [e] at p2
    exact p2.elim
  | some b =>
    rw [e] at p2
    refine hs W w2 h2 H2 σ x y v u _ q4 (Rep.up l2 _ _ q3) q6 ?_
    unfold opCmp
    rw [e]
    intro w3 H3 z l3 q7 q8
    refine ⟨b, q8, ?_⟩
    cases b with
    | true =>
      rw [if_pos rfl]
      refine TDg.imp (td_bind (m := mc) q7 (q5.up l3) (Post.up l3 p2)) fun t H4 ⟨w4, h4, z', l4, q9, q10, q11, p4⟩ => ?_
      exact hs' W w4 h4 H4 σ y z' u t Q q9 (Rep.up (l3.trans l4) _ _ q6) q11 p4
    | false =>
      rw [if_neg (by simp)]
      exact p2 w3 H3 _ l3 q7 rfl
theorem snd_chain {op op' : CmpOp} {r r' : R2} {o o' : Cop} (ho : OpR X (compareOp op) r) (ho' : OpR X (compareOp op') r') (hs : OpS N r (opCmp o)) (hs' : OpS N r' (opCmp o')) (ha : PE X a (TD N ma W)) (hb : PE X b (TD N mb W)) (hc : PE X c (TD N mc W))
    (hm : lastMarks [op, op'] [b, c] = false) : PE X (.Compare a [op, op'] [b, c] pos) (TD N (mChain o o' ma mb mc) W) := pe_imp (pe_chain ho ho' ha hb hc hm) (td_chain (op := op) (op' := op') hs hs')
theorem chain_bl {o o' : Cop} {ρ : Env} {h h1 : Hs} {x : D} (e : mChain o o' ma mb mc ρ h = .ok x h1) : ∃ k, x = .bl k := by
  unfold mChain at e
  cases e1 : ma ρ h with
  | ok y h2 =>
    rw [e1] at e
    simp only [bind_ok] at e
    cases e2 : mb ρ h2 with
    | ok z h3 =>
      rw [e2] at e
      simp only [bind_ok] at e
      split at e
      · cases e3 : mc ρ h3 with
        | ok z' h4 =>
          rw [e3] at e
          simp only [bind_ok] at e
          unfold opCmp at e
          split at e
          · cases e
            exact ⟨_, rfl⟩
          · cases e
        | _ =>
          rw [e3] at e
          cases e
      · cases e
        exact ⟨_, rfl⟩
      · cases e
    | _ =>
      rw [e2] at e
      cases e
  | _ =>
    rw [e1] at e
    cases e
theorem snd_tchain {op op' : CmpOp} {r r' : R2} {o o' : Cop} (ho : OpR X (compareOp op) r) (ho' : OpR X (compareOp op') r') (hs : OpS N r (opCmp o)) (hs' : OpS N r' (opCmp o')) (ha : PE X a (TD N ma W)) (hb : PE X b (TD N mb W)) (hc : PE X c (TD N mc W))
    (hm : lastMarks [op, op'] [b, c] = false) : PT X (.Compare a [op, op'] [b, c] pos) (TDt N (tVal (mChain o o' ma mb mc)) W) := pt_imp (pt_chain ho ho' ha hb hc hm) fun σ H Q t => by
  obtain ⟨w, ρ, h, r1, r2, p⟩ := t
  refine td_chain (op := op) (op' := op') hs hs' σ H _ ⟨w, ρ, h, r1, r2, ?_⟩
  unfold tVal at p
  cases e : mChain o o' ma mb mc ρ h with
  | ok x h1 =>
    rw [e] at p
    have p : Post N (fun _ a b => a = b) W w σ Q (match truth h1 x with | some b => .ok b h1 | none => .no) := p
    intro w' H' v l r' q
    obtain ⟨k, rfl⟩ := chain_bl e
    exact ⟨k, q, p w' H' k l r' rfl⟩
  | xc c fs h1 =>
    rw [e] at p
    exact p
  | no =>
    rw [e] at p
    exact p
/-! ### rows, displays -/
theorem snd_nil : PA X [] (TDs N mNil W) := pa_imp pa_nil fun σ H Q t => by
  obtain ⟨w, ρ, h, r1, r2, p⟩ := t
  exact p w H [] (Wd.le.refl w) r1 rfl
theorem snd_cons {es : List Expr} {mr : M (List D)} (ha : PE X a (TD N ma W)) (hr : PA X es (TDs N mr W)) (hs : starEach (a :: es) X.env = (false, eval a X.env) :: starEach es X.env) : PA X (a :: es) (TDs N (mCons ma mr) W) := pa_imp (pa_cons ha hr hs) fun σ H Q t => by
  obtain ⟨w, ρ, h, r1, r2, p⟩ := t
  refine TDg.imp (td_bind (m := ma) r1 r2 p) fun v H1 ⟨w1, h1, x, l1, q1, q2, q3, p1⟩ => ?_
  refine TDg.imp (td_bind (m := mr) q1 q2 p1) fun vs H2 ⟨w2, h2, xs, l2, q4, q5, q6, p2⟩ => ?_
  exact p2 w2 H2 _ (Wd.le.refl w2) q4 ⟨v, vs, rfl, Rep.up l2 _ _ q3, q6⟩
theorem snd_tup {es : List Expr} {k : Nat} {mr : M (List D)} (ha : PA X es (TDs N mr W)) : PE X (.Tuple es k pos) (TD N (mTup mr) W) := pe_imp (pe_tup ha) fun σ H Q t => by
  obtain ⟨w, ρ, h, r1, r2, p⟩ := t
  refine TDg.imp (td_bind (m := mr) r1 r2 p) fun v H1 ⟨w1, h1, x, l1, q1, q2, q3, p1⟩ => ?_
  exact post_mkT q1 q3 p1
theorem snd_lst (hp : Bool) {es : List Expr} {mr : M (List D)} (ha : PA X es (TDs N mr W)) : PE X (.List es pos) (TD N (mLst hp mr) W) := pe_imp (pe_lst ha) fun σ H Q t => by
  obtain ⟨w, ρ, h, r1, r2, p⟩ := t
  refine TDg.imp (td_bind (m := mr) r1 r2 p) fun v H1 ⟨w1, h1, x, l1, q1, q2, q3, p1⟩ => ?_
  exact post_mkL q1 q3 p1
/-- the table of comparisons -/
def copOf : CmpOp → Cop
  | .Eq => .eq | .NotEq => .ne | .Lt => .lt | .LtE => .le | .Gt => .gt | .GtE => .ge | .Is => .isx | .IsNot => .isnot | .In => .inn | .NotIn => .notin
theorem cop_ok (hK : X.K = N.K) (hu : X.A.units + 64 < cLine) (op : CmpOp) : ∃ r, OpR X (compareOp op) r ∧ OpS N r (opCmp (copOf op)) := by
  have hu1 : X.A.units + 1 < cLine := by omega
  cases op with
  | Eq => exact ⟨_, op_eqA hu, by rw [hK]; exact ops_eq⟩
  | NotEq => exact ⟨_, op_neA hu, by rw [hK]; exact ops_ne⟩
  | Lt => exact ⟨_, op_ltA, ops_lt⟩
  | LtE => exact ⟨_, op_leA, ops_le⟩
  | Gt => exact ⟨_, op_gtA, ops_gt⟩
  | GtE => exact ⟨_, op_geA, ops_ge⟩
  | Is => exact ⟨_, op_isA, ops_is⟩
  | IsNot => exact ⟨_, op_isnotA, ops_isnot⟩
  | In => exact ⟨_, op_inA hu1, by rw [hK]; exact ops_in⟩
  | NotIn => exact ⟨_, op_notInA hu1, by rw [hK]; exact ops_notin⟩
end
end DN

set_option Elab.async false
set_option linter.all false
set_option maxRecDepth 100000
/-! D5: statements. -/
namespace DN
open PySem PySem.Spec L2
open PyProof.Rows hiding St

section
variable {X : Cx} {N : Nm} {W : WX} {ma mb : M D} {tm : M Bool} {ba bb : B} {e a b c : Expr} {st : Stmt} {sa sb : List Stmt} {pos : Pos}
theorem ds_next {Dn : Ends} {σ : St} {H : Hp} (t : TDS N sPass W Dn σ H) : Dn.nx σ H := by
  obtain ⟨w, ρ, h, r1, r2, p⟩ := t
  exact p w σ H (Wd.le.refl w) r1 r2
theorem snd_pass : PS X (.Pass pos) (TDS N sPass W) := ps_imp ps_pass fun _ _ _ t => ds_next t
theorem snd_snil : PSs X [] (TDS N sPass W) := pss_imp pss_nil fun _ _ _ t => ds_next t
theorem snd_doc {x j pos'} : PS X (.Expr (.Constant (.str x) j pos) pos') (TDS N sPass W) := ps_imp ps_doc fun _ _ _ t => ds_next t
theorem snd_brk : PS X (.Break pos) (TDS N sBrk W) := ps_imp ps_break fun Dn σ H t => by
  obtain ⟨w, ρ, h, r1, r2, p⟩ := t
  exact p w σ H (Wd.le.refl w) r1 r2
theorem snd_cnt : PS X (.Continue pos) (TDS N sCnt W) := ps_imp ps_continue fun Dn σ H t => by
  obtain ⟨w, ρ, h, r1, r2, p⟩ := t
  exact p w σ H (Wd.le.refl w) r1 r2
theorem snd_seq (h1 : PS X st (TDS N ba W)) (h2 : PSs X sb (TDS N bb W)) : PSs X (st :: sb) (TDS N (sSeq ba bb) W) := pss_imp (pss_cons h1 h2) fun Dn σ H t => by
  obtain ⟨w, ρ, h, r1, r2, p⟩ := t
  refine ⟨w, ρ, h, r1, r2, ?_⟩
  unfold sSeq at p
  cases e : ba ρ h with
  | nx ρ1 h1 =>
    rw [e] at p
    exact fun w' σ' H' l q1 q2 => ⟨w', ρ1, h1, q1, q2, PostS.up l p⟩
  | _ =>
    rw [e] at p
    exact p
theorem snd_one (h1 : PS X st (TDS N ba W)) : PSs X [st] (TDS N ba W) := pss_imp (pss_one h1) fun _ _ _ t => t
theorem snd_ex (he : PE X e (TD N ma W)) (hs : swapsWith e none pos.line X.env = pure false) : PS X (.Expr e pos) (TDS N (sEx ma) W) := ps_imp (ps_expr he hs) fun Dn σ H t => by
  obtain ⟨w, ρ, h, r1, r2, p⟩ := t
  refine TDg.imp (td_out (m := ma) r1 r2 p) fun v H1 ⟨w1, h1, x, l1, q1, q2, q3, p1⟩ => ?_
  exact p1 w1 σ H1 (Wd.le.refl w1) q1 q2
theorem snd_ret (he : PE X e (TD N ma W)) : PS X (.Return (some e) pos) (TDS N (sRet ma) W) := ps_imp (ps_ret he) fun Dn σ H t => by
  obtain ⟨w, ρ, h, r1, r2, p⟩ := t
  refine TDg.imp (td_out (m := ma) r1 r2 p) fun v H1 ⟨w1, h1, x, l1, q1, q2, q3, p1⟩ => ?_
  exact p1 w1 H1 v (Wd.le.refl w1) q1 q3
theorem snd_retN : PS X (.Return none pos) (TDS N (sRet (mLit .non)) W) := ps_imp ps_retN fun Dn σ H t => by
  obtain ⟨w, ρ, h, r1, r2, p⟩ := t
  exact p w H .non (Wd.le.refl w) r1 rfl
theorem snd_if (hc : PT X c (TDt N tm W)) (ha : PSs X sa (TDS N ba W)) (hb : PSs X sb (TDS N bb W)) : PS X (.If c sa sb pos) (TDS N (sIf tm ba bb) W) := ps_imp (ps_if hc ha hb) fun Dn σ H t => by
  obtain ⟨w, ρ, h, r1, r2, p⟩ := t
  refine TDg.imp (td_out (m := tm) r1 r2 p) fun v H1 ⟨w1, h1, x, l1, q1, q2, q3, p1⟩ => ?_
  cases q3
  cases v with
  | true =>
    rw [if_pos rfl] at p1 ⊢
    exact ⟨w1, ρ, h1, q1, q2, p1⟩
  | false =>
    rw [if_neg (by simp)] at p1 ⊢
    exact ⟨w1, ρ, h1, q1, q2, p1⟩
/-! ### targets -/
def PostG (N : Nm) (w : Wd) (Q : St → Hp → Prop) : R Env → Prop
  | .ok ρ' h' => ∀ w' σ' H', w.le w' → RelH N w' h' H' → RelE N w' ρ' σ' → Q σ' H'
  | _ => False
theorem PostG.up {w w' : Wd} {Q : St → Hp → Prop} (x : w.le w') : ∀ {r : R Env}, PostG N w Q r → PostG N w' Q r
  | .ok _ _, p => fun w2 s H' l => p w2 s H' (x.trans l)
  | .xc _ _ _, p => p
  | .no, p => p
def TDG (N : Nm) (g : Tg) : TG := fun v σ H Q => ∃ w ρ h d, RelH N w h H ∧ RelE N w ρ σ ∧ Rep N w d v ∧ PostG N w Q (g d ρ h)
def TDGs (N : Nm) (gs : List Tg) : TGs := fun vs σ H Q => ∃ w ρ h ds, RelH N w h H ∧ RelE N w ρ σ ∧ Reps N w ds vs ∧ ds.length = gs.length ∧ PostG N w Q (gTup.go gs ds ρ h)
theorem pg_imp {tg : Expr} {t t' : TG} (h : PG X tg t) (k : ∀ v σ H Q, t' v σ H Q → t v σ H Q) : PG X tg t' := ⟨fun pins s σ H v u Q I r q => h.run pins s σ H v u Q I r (k v σ H Q q)⟩
theorem pgs_imp {tg : List Expr} {t t' : TGs} (h : PGs X tg t) (k : ∀ v σ H Q, t' v σ H Q → t v σ H Q) : PGs X tg t' := ⟨fun pins s σ H v u Q I r q => h.run pins s σ H v u Q I r (k v σ H Q q)⟩
theorem snd_gvar {i : Nat} {tg : Expr} (hxs : N.xs = none) (h : PG X tg (gName i)) : PG X tg (TDG N (gVar i)) := pg_imp h fun v σ H Q t => by
  obtain ⟨w, ρ, h, d, r1, r2, q, p⟩ := t
  exact p w _ H (Wd.le.refl w) r1 (r2.set hxs q)
theorem snd_gnil : PGs X [] (TDGs N []) := pgs_imp pgs_nil fun vs σ H Q t => by
  obtain ⟨w, ρ, h, ds, r1, r2, q, l, p⟩ := t
  have e : ds = [] := List.length_eq_zero_iff.mp l
  subst e
  exact ⟨q, p w σ H (Wd.le.refl w) r1 r2⟩
theorem snd_gcons {g : Tg} {gs : List Tg} {tg : Expr} {tgs : List Expr} (h1 : PG X tg (TDG N g)) (h2 : PGs X tgs (TDGs N gs)) (hs : (assignEach (tg :: tgs) X.env).map (·.2) = assign tg X.env :: (assignEach tgs X.env).map (·.2)) : PGs X (tg :: tgs) (TDGs N (g :: gs)) :=
  pgs_imp (pgs_cons h1 h2 hs) fun vs σ H Q t => by
    obtain ⟨w, ρ, h, ds, r1, r2, q, l, p⟩ := t
    cases ds with
    | nil => cases l
    | cons d ds =>
      obtain ⟨v, r, rfl, q1, q2⟩ := q
      refine ⟨v, r, rfl, w, ρ, h, d, r1, r2, q1, ?_⟩
      have p : PostG N w Q ((g d ρ h).bind fun σ1 h1 => gTup.go gs ds σ1 h1) := p
      cases e : g d ρ h with
      | ok ρ1 h1 =>
        rw [e] at p
        exact fun w' σ' H' l' s1 s2 => ⟨w', ρ1, h1, ds, s1, s2, Reps.up l' _ _ q2, Nat.succ.inj l, PostG.up l' p⟩
      | _ =>
        rw [e] at p
        exact p
theorem snd_gtup {gs : List Tg} {tgs : List Expr} {k : Nat} (hK : X.K = N.K) (hc : X.calm = true) (h : PGs X tgs (TDGs N gs)) (hn : (assignEach tgs X.env).length = gs.length) (hst : (assignEach tgs X.env).findIdx? (·.1) = none) : PG X (.Tuple tgs k pos) (TDG N (gTup gs)) :=
  pg_imp (pg_tup (n := gs.length) hc h hn hst) fun v σ H Q t => by
    obtain ⟨w, ρ, h, d, r1, r2, q, p⟩ := t
    cases d with
    | tup xs =>
      obtain ⟨a, vs, rfl, ha, hr⟩ := q
      have p : PostG N w Q (if xs.length = gs.length then gTup.go gs xs ρ h else .no) := p
      split at p
      · rename_i hl
        exact ⟨a, vs, rfl, by rw [hK]; exact r1.sqT ha, by rw [hr.length]; exact hl, w, ρ, h, xs, r1, r2, hr, hl, p⟩
      · exact p.elim
    | _ => exact p.elim
/-! a[i] = v -/
def rSetA : TSet := fun o i v H Q => rSetL o i v H Q ∨ ∃ a H', o = .ref a ∧ DPut H a i v H' ∧ Q H'
theorem set_any (hu : X.A.units + 1 < cLine) : PSet X rSetA := by
  intro pins s σ H o i v ov iv u Q I ro ri rv h
  rcases h with h | ⟨a, H', rfl, g, q⟩
  · exact set_list pins s σ H o i v ov iv u Q I ro ri rv h
  · obtain rfl : ov = Value.ref a := ro
    exact d_setItem hu I g ri rv fun s' I' => ⟨H', I', q⟩
theorem any_keyRep {w : Wd} {d : D} {k : Key} (hk : KeyRep d k) : ∀ {xs : List (D × D)} {vs : List (Key × V)}, Repd N w xs vs → (vs.any fun kv => decide (kv.1 = k)) = xs.any fun p => keyEq p.1 d
  | [], _, h => by
    have h : _ = [] := h
    rw [h] <;> rfl
  | (k', x) :: xs, _, h => by
    obtain ⟨q, v, r, rfl, h1, h2, h3⟩ := h
    rw [List.any_cons, List.any_cons, any_keyRep hk h3, keyEq_rep h1 hk]
theorem map_keyRep {w : Wd} {d y : D} {k : Key} {v : V} (hk : KeyRep d k) (hv : Rep N w y v) : ∀ {xs : List (D × D)} {vs : List (Key × V)}, Repd N w xs vs → Repd N w (xs.map fun p => if keyEq p.1 d then (p.1, y) else p) (vs.map fun kv => if kv.1 = k then (kv.1, v) else kv)
  | [], _, h => by
    have h : _ = [] := h
    rw [h] <;> rfl
  | (k', x) :: xs, _, h => by
    obtain ⟨q, u, r, rfl, h1, h2, h3⟩ := h
    rw [List.map_cons, List.map_cons]
    show Repd N w ((if keyEq k' d = true then (k', y) else (k', x)) :: _) ((if q = k then (q, v) else (q, u)) :: _)
    rw [keyEq_rep h1 hk]
    by_cases e : q = k
    · rw [if_pos e, if_pos (decide_eq_true e)]
      exact ⟨q, v, _, rfl, h1, hv, map_keyRep hk hv h3⟩
    · rw [if_neg e, if_neg (by simpa using e)]
      exact ⟨q, u, _, rfl, h1, h2, map_keyRep hk hv h3⟩
theorem Repd.append {w : Wd} : ∀ {xs ys : List (D × D)} {vs us : List (Key × V)}, Repd N w xs vs → Repd N w ys us → Repd N w (xs ++ ys) (vs ++ us)
  | [], _, _, _, h, q => by
    have h : _ = [] := h
    subst h
    exact q
  | (k, x) :: xs, _, _, _, h, q => by
    obtain ⟨k', v, r, rfl, h0, h1, h2⟩ := h
    exact ⟨k', v, _, rfl, h0, h1, Repd.append h2 q⟩
theorem put_rep {w : Wd} {d y : D} {k : Key} {v : V} {xs : List (D × D)} {vs : List (Key × V)} (hk : KeyRep d k) (hv : Rep N w y v) (r : Repd N w xs vs) : Repd N w (dput xs d y) (putK vs k v) := by
  unfold dput putK
  rw [any_keyRep hk r]
  split
  · exact map_keyRep hk hv r
  · exact Repd.append r ⟨k, v, [], rfl, hk, hv, rfl⟩
theorem set_rep {w : Wd} {h h' : Hs} {H : Hp} {x y z : D} {o i v : V} {Q : Hp → Prop} (r : RelH N w h H) (qx : Rep N w x o) (qy : Rep N w y i) (qz : Rep N w z v) (e : opSet x y z h = some h') (q : ∀ H', RelH N w h' H' → Q H') : rSetA o i v H Q := by
  unfold opSet at e
  split at e
  · rename_i n
    obtain ⟨a, e1, rfl⟩ := qx
    split at e
    · rename_i xs j e3
      obtain rfl := qy
      obtain ⟨b, e4, vs, e5, e6⟩ := r.at_ e3
      rw [e1] at e4
      cases e4
      split at e
      · rename_i m em
        cases e
        refine .inl ⟨a, vs, j, m, rfl, rfl, e5, by rw [e6.length, ← ixD_eq]; exact em, q _ ?_⟩
        exact r.put e1 ⟨_, rfl, e6.set m qz⟩
      · cases e
    · rename_i kvs e3
      obtain ⟨b, e4, vs, e5, e6⟩ := r.at_ e3
      rw [e1] at e4
      cases e4
      split at e
      · rename_i hk
        rw [Bool.and_eq_true, decide_eq_true_eq] at hk
        cases e
        obtain ⟨k, hk1, rfl⟩ := keyRep_of hk.1 qy
        refine .inr ⟨a, _, rfl, .k e5 (by rw [e6.length, ← SZ_eq]; exact hk.2), q _ ?_⟩
        exact r.put e1 ⟨_, rfl, put_rep hk1 qz e6⟩
      · cases e
    · cases e
  · cases e
theorem snd_gsub {o i : Expr} (hu : X.A.units + 1 < cLine) (ho : PE X o (TD N ma W)) (hi : PE X i (TD N mb W))
    (ha : ∀ v, assign (.Subscript o i pos) X.env v = (do
      let ov ← holding [v] (eval o X.env)
      let iv ← holding [v, ov] (eval i X.env)
      standAt pos
      holding [v, ov, iv] (setItem ov iv v)
      release [v, ov, iv] [])) : PG X (.Subscript o i pos) (TDG N (gSub ma mb)) := pg_imp (pg_sub ho hi (set_any hu) ha) fun v σ H Q t => by
  obtain ⟨w, ρ, h, d, r1, r2, q, p⟩ := t
  refine ⟨w, ρ, h, r1, r2, ?_⟩
  unfold gSub at p
  cases e : ma ρ h with
  | ok x h1 =>
    rw [e] at p
    simp only [bind_ok] at p
    intro w1 H1 o' l1 q1 q2
    refine ⟨w1, ρ, h1, q1, r2.up l1, ?_⟩
    cases e2 : mb ρ h1 with
    | ok y h2 =>
      rw [e2] at p
      simp only [bind_ok] at p
      intro w2 H2 i' l2 q3 q4
      cases e3 : opSet x y d h2 with
      | some h3 =>
        rw [e3] at p
        refine set_rep q3 (Rep.up l2 _ _ q2) q4 (Rep.up (l1.trans l2) _ _ q) e3 fun H' r' => ?_
        exact p w2 σ H' (l1.trans l2) r' (r2.up (l1.trans l2))
      | none =>
        rw [e3] at p
        exact p.elim
    | _ =>
      rw [e2] at p
      exact p.elim
  | _ =>
    rw [e] at p
    exact p.elim
/-! ### assignments -/
theorem td_asg {g : Tg} (Dn : Ends) (σ : St) (H : Hp) (t : TDS N (sAsg ma g) W Dn σ H) : tAsg (TD N ma W) (TDG N g) Dn σ H := by
  obtain ⟨w, ρ, h, r1, r2, p⟩ := t
  refine TDg.imp (td_out (m := ma) r1 r2 p) fun v H1 ⟨w1, h1, x, l1, q1, q2, q3, p1⟩ => ?_
  refine ⟨w1, ρ, h1, x, q1, q2, q3, ?_⟩
  cases e2 : g x ρ h1 with
  | ok ρ1 h2 =>
    rw [e2] at p1
    exact p1
  | _ =>
    rw [e2] at p1
    exact p1.elim
theorem snd_asg {g : Tg} {tg : Expr} (he : PE X e (TD N ma W)) (hg : PG X tg (TDG N g)) (hs : swapsWithSole [tg] e pos.line X.env = pure false) (hw : swappedStores [tg] e X.env = pure none) (h1 : (assignEach [tg] X.env).map (·.2) = [assign tg X.env]) :
    PS X (.Assign [tg] e pos) (TDS N (sAsg ma g) W) := ps_imp (ps_asg he hg hs hw h1) td_asg
theorem snd_aug (hxs : N.xs = none) {i : Nat} {x : Str} {pos' : Pos} {op : Operator} {ti : TIp} {f : D → D → Hs → R D} (hN : X.N.Nodup) (hi : X.N[i]? = some x) (hx : Loc X.env.scope x) (he : PE X e (TD N ma W)) (ho : PIp X op ti) (hs : OpS N ti f) (hf : X.fn x = true ∨ X.env.scope.names.lookup x = some .local) :
    PS X (.AugAssign (.Name x pos') op e pos) (TDS N (sAug i f ma) W) := ps_imp (ps_aug hN hi hx he ho hf) fun Dn σ H t => by
  obtain ⟨w, ρ, h, r1, r2, p⟩ := t
  unfold sAug at p
  split at p
  · rename_i d hd
    obtain ⟨v, hv, hr⟩ := r2.2 i d hd
    refine ⟨v, hv, ?_⟩
    refine TDg.imp (td_out (m := ma) r1 r2 p) fun u H1 ⟨w1, h1, y, l1, q1, q2, q3, p1⟩ => ?_
    refine hs W w1 h1 H1 σ d y v u _ q1 (Rep.up l1 _ _ hr) q3 ?_
    cases e2 : f d y h1 with
    | ok z h2 =>
      rw [e2] at p1
      exact fun w' H' v' l r q => p1 w' _ H' l r ((q2.up l).set hxs q)
    | xc c fs h2 =>
      rw [e2] at p1
      exact fun w' H' cls dd l r q => p1 w' σ H' cls dd l r (q2.up l) q
    | no =>
      rw [e2] at p1
      exact p1.elim
  · exact p.elim
def rIAdd : TIp := fun x y H Q => rI0 (fun i j => .int (i + j)) x y H Q ∨ (∃ i j, x = .str i ∧ y = .str j ∧ i.length + j.length ≤ sizeLine ∧ Q (.str (i ++ j)) H)
theorem ip_addA : PIp X .Add rIAdd := iop_add.or iop_add_str
theorem ops_iadd : OpS N rIAdd opIAdd := by
  intro W w h H σ x y v u Q r qx qy p
  unfold opIAdd at p
  split at p
  · exact .inl ⟨_, _, qx, qy, post_val p r rfl⟩
  · obtain rfl := qx
    obtain rfl := qy
    split at p
    · rename_i hz
      refine .inr ⟨_, _, rfl, rfl, by rw [toS_length, toS_length, ← SZ_eq]; exact hz, ?_⟩
      rw [toS_append]
      exact post_val p r rfl
    · exact p.elim
  · exact p.elim
/-! ### while -/
theorem snd_while {n : Nat} (hp : PassesOwn (model X.prog X.w) X.A X.env X.xe) (hc : PT X c (TDt N tm W)) (hb : PSs X sb (TDS N bb W)) : PS X (.While c sb [] pos) (TDS N (sWhile n tm bb) W) := ps_imp (ps_while hp hc hb) fun Dn σ H t => by
  refine ⟨fun m σ H => TDS N (whileGo tm bb m) W Dn σ H, ⟨n, t⟩, fun m σ H t => ?_⟩
  obtain ⟨w, ρ, h, r1, r2, p⟩ := t
  cases m with
  | zero => exact p.elim
  | succ m =>
    refine TDg.imp (td_out (m := tm) r1 r2 p) fun v H1 ⟨w1, h1, x, l1, q1, q2, q3, p1⟩ => ?_
    cases q3
    cases v with
    | true =>
      rw [if_pos rfl] at p1 ⊢
      refine ⟨fun σ' H' => TDS N (whileGo tm bb m) W Dn σ' H', fun σ' H' t => ⟨m, Nat.lt_succ_self m, t⟩, w1, ρ, h1, q1, q2, ?_⟩
      cases e : bb ρ h1 with
      | nx ρ2 h2 =>
        rw [e] at p1
        exact fun w' σ' H' l s1 s2 => ⟨w', ρ2, h2, s1, s2, PostS.up l p1⟩
      | ct ρ2 h2 =>
        rw [e] at p1
        exact fun w' σ' H' l s1 s2 => ⟨w', ρ2, h2, s1, s2, PostS.up l p1⟩
      | _ =>
        rw [e] at p1
        exact p1
    | false =>
      rw [if_neg (by simp)] at p1 ⊢
      exact p1 w1 σ H1 (Wd.le.refl w1) q1 q2
end
end DN

set_option Elab.async false
set_option linter.all false
set_option maxRecDepth 100000
/-! D6: walks and for. -/
namespace DN
open PySem PySem.Spec
open L2 hiding It
open PyProof.Rows hiding St

/-- J walks xs, as long as chk holds -/
def JOk (N : Nm) (w0 : Wd) (J : L2.It) (xs : List D) (chk : Hs → Prop) : Prop := ∀ (w : Wd) (h : Hs) (H : Hp) (i : Nat), w0.np.le w → RelH N w h H → chk h →
  (i = xs.length → J.stop i H) ∧ ∀ d, xs[i]? = some d → J.go i H ∧ ∀ x H', J.yld i H x H' → ∃ w', w.le w' ∧ RelH N w' h H' ∧ Rep N w' d x
def TDI (N : Nm) (it : DN.It) (W : WX) : TI := TDg N (fun w (p : List D × (Hs → Prop)) (J : L2.It) => JOk N w J p.1 p.2) it W
theorem JOk.up {N : Nm} {w w' : Wd} {J : L2.It} {xs : List D} {chk : Hs → Prop} (l : w.le w') (j : JOk N w J xs chk) : JOk N w' J xs chk := fun w2 h H i l2 r c => j w2 h H i ((Wd.np_up l).trans l2) r c
section
variable {X : Cx} {N : Nm} {W : WX} {ma mb mc : M D} {it : DN.It} {g : Tg} {bb : B} {e a b c tg iter : Expr} {sb : List Stmt} {pos : Pos}
theorem snd_for (hp : PassesOwn (model X.prog X.w) X.A X.env X.xe) (hc : X.calm = true) (hi : PI X tg iter (TDI N it W)) (hg : PG X tg (TDG N g)) (hb : PSs X sb (TDS N bb W))
    (hs : ∀ x, foldedSetIterable iter X.env x = pure x) : PS X (.For tg iter sb [] pos) (TDS N (sFor g it bb) W) := ps_imp (ps_for hp hc hi hg hb hs) fun Dn σ H t => by
  obtain ⟨w, ρ, h, r1, r2, p⟩ := t
  refine TDg.imp (td_out (m := it) r1 r2 p) fun J H1 ⟨w1, h1, x, l1, q1, q2, q3, p1⟩ => ?_
  obtain ⟨xs, chk⟩ := x
  have q3 : JOk N w1 J xs chk := q3
  have p1 : PostS N W w1 Dn (loopGo chk g bb xs ρ h1) := p1
  refine ⟨fun i m σ H => ∃ w ρ h, w1.le w ∧ RelH N w h H ∧ RelE N w ρ σ ∧ m = xs.length - i ∧ i ≤ xs.length ∧ PostS N W w Dn (loopGo chk g bb (xs.drop i) ρ h),
    ⟨xs.length, w1, ρ, h1, Wd.le.refl w1, q1, q2, by omega, Nat.zero_le _, p1⟩, fun i m σ H t => ?_⟩
  obtain ⟨w2, ρ2, h2, l2, s1, s2, rfl, hi, p2⟩ := t
  by_cases he : i = xs.length
  · subst he
    rw [List.drop_length] at p2
    unfold loopGo at p2
    by_cases hk : chk h2
    · rw [if_pos hk] at p2
      exact .inl ⟨(q3 w2 h2 H _ (Wd.np_le l2) s1 hk).1 rfl, p2 w2 σ H (Wd.le.refl w2) s1 s2⟩
    · rw [if_neg hk] at p2
      exact p2.elim
  · have hlt : i < xs.length := by omega
    rw [List.drop_eq_getElem_cons hlt] at p2
    unfold loopGo at p2
    by_cases hk : chk h2
    · rw [if_pos hk] at p2
      obtain ⟨go, yld⟩ := (q3 w2 h2 H i (Wd.np_le l2) s1 hk).2 xs[i] (List.getElem?_eq_getElem hlt)
      refine .inr ⟨go, fun σ' H' => ∃ w ρ h, w1.le w ∧ RelH N w h H' ∧ RelE N w ρ σ' ∧ PostS N W w Dn (loopGo chk g bb (xs.drop (i + 1)) ρ h), fun σ' H' t => ?_, fun x H' hy => ?_⟩
      · obtain ⟨w3, ρ3, h3, l3, t1, t2, p3⟩ := t
        exact ⟨xs.length - (i + 1), by omega, w3, ρ3, h3, l3, t1, t2, rfl, hlt, p3⟩
      · obtain ⟨w3, l3, t1, t2⟩ := yld x H' hy
        refine ⟨w3, ρ2, h2, xs[i], t1, s2.up l3, t2, ?_⟩
        have p3 := PostS.up l3 p2
        cases e2 : g xs[i] ρ2 h2 with
        | ok ρ4 h4 =>
          rw [e2] at p3
          simp only [gout_ok] at p3
          intro w5 σ5 H5 l5 u1 u2
          refine ⟨w5, ρ4, h4, u1, u2, ?_⟩
          have p4 := PostS.up l5 p3
          have lw : w1.le w5 := (l2.trans l3).trans l5
          cases e3 : bb ρ4 h4 with
          | nx ρ6 h6 =>
            rw [e3] at p4
            exact fun w' σ' H' l v1 v2 => ⟨w', ρ6, h6, lw.trans l, v1, v2, PostS.up l p4⟩
          | ct ρ6 h6 =>
            rw [e3] at p4
            exact fun w' σ' H' l v1 v2 => ⟨w', ρ6, h6, lw.trans l, v1, v2, PostS.up l p4⟩
          | _ =>
            rw [e3] at p4
            exact p4
        | xc _ _ _ =>
          rw [e2] at p3
          exact p3.elim
        | no =>
          rw [e2] at p3
          exact p3.elim
    · rw [if_neg hk] at p2
      exact p2.elim

/-! ### walks of values -/
theorem jok_list {w : Wd} {xs : List D} {vs : List V} {a : Addr} {chk : Hs → Prop} (hs : ∀ (w' : Wd) (h : Hs) (H : Hp), w.np.le w' → RelH N w' h H → chk h → ∃ vs, SqL N.K H a vs ∧ Reps N w' xs vs) : JOk N w (Itl N.K a) xs chk := by
  intro w' h H i l r hc
  obtain ⟨vs, h0, hr⟩ := hs w' h H l r hc
  refine ⟨fun e => ⟨vs, h0, by rw [hr.length]; omega⟩, fun d hd => ?_⟩
  obtain ⟨v, h1, h2⟩ := hr.get hd
  refine ⟨⟨vs, v, h0, h1⟩, fun x H' hy => ?_⟩
  obtain ⟨rfl, hy⟩ := hy
  have e := (hy vs h0).symm.trans h1
  cases e
  exact ⟨w', Wd.le.refl w', r, h2⟩
theorem jok_tup {w : Wd} {xs : List D} {vs : List V} {a : Addr} {chk : Hs → Prop} (ha : TupAt N w a vs) (hr : Reps N w xs vs) : JOk N w (Itt N.K a) xs chk := by
  intro w' h H i l r hc
  have h0 : SqT N.K H a vs := r.sqT (TupAt.up (w := w.np) l ha)
  refine ⟨fun e => ⟨vs, h0, by rw [hr.length]; omega⟩, fun d hd => ?_⟩
  obtain ⟨v, h1, h2⟩ := hr.get hd
  refine ⟨⟨vs, v, h0, h1⟩, fun x H' hy => ?_⟩
  obtain ⟨rfl, hy⟩ := hy
  have e := (hy vs h0).symm.trans h1
  cases e
  exact ⟨w', Wd.le.refl w', r, Rep.up l _ _ (Rep.np _ _ h2)⟩
theorem jok_str {w : Wd} {s : List Nat} {chk : Hs → Prop} : JOk N w (Its (toS s)) (s.map fun c => .str [c]) chk := by
  intro w' h H i l r hc
  refine ⟨fun e => ?_, fun d hd => ?_⟩
  · show (toS s).cps.size ≤ i
    rw [e, List.length_map]
    simp [toS]
  · rw [List.getElem?_map] at hd
    cases q : s[i]? with
    | none =>
      rw [q] at hd
      cases hd
    | some c =>
      rw [q] at hd
      cases hd
      have hi : i < s.length := (List.getElem?_eq_some_iff.mp q).1
      refine ⟨by show i < (toS s).cps.size; simpa [toS] using hi, fun x H' hy => ?_⟩
      obtain ⟨rfl, c', hc', rfl⟩ := hy
      have e : c' = c := by
        have : s[i]? = some c' := by simpa [toS] using hc'
        rw [q] at this
        exact (Option.some.inj this).symm
      subst e
      exact ⟨w', Wd.le.refl w', r, rfl⟩
theorem rngL_length : ∀ (n : Nat) (i : Int), (rngL i n).length = n
  | 0, _ => rfl
  | n + 1, i => by
    show (rngL (i + 1) n).length + 1 = n + 1
    rw [rngL_length n]
theorem rngL_get : ∀ (n : Nat) (i : Int) (k : Nat), k < n → (rngL i n)[k]? = some (.int (i + k))
  | 0, _, _, h => absurd h (Nat.not_lt_zero _)
  | n + 1, i, 0, _ => by
    show some (D.int i) = _
    simp
  | n + 1, i, k + 1, h => by
    show (rngL (i + 1) n)[k]? = _
    rw [rngL_get n (i + 1) k (by omega)]
    congr 2
    omega
theorem jok_rng {w : Wd} {lo : Int} {n : Nat} {chk : Hs → Prop} : JOk N w (Itr lo n) (rngL lo n) chk := by
  intro w' h H i l r hc
  rw [rngL_length]
  refine ⟨fun e => by show n ≤ i; omega, fun d hd => ?_⟩
  have hi : i < n := by
    have := (List.getElem?_eq_some_iff.mp hd).1
    rwa [rngL_length] at this
  rw [rngL_get n lo i hi] at hd
  cases hd
  refine ⟨hi, fun x H' hy => ?_⟩
  obtain ⟨rfl, rfl⟩ := hy
  exact ⟨w', Wd.le.refl w', r, rfl⟩
/-- a list, a tuple or a text is walked -/
def iAny (K : PySem.W.Frag) (tl : TE) : TI := fun σ H R => tl σ H fun x H1 => (∃ a, x = .ref a ∧ (∃ xs, SqL K H1 a xs) ∧ R (Itl K a) H1) ∨ (∃ a, x = .ref a ∧ (∃ xs, SqT K H1 a xs) ∧ R (Itt K a) H1) ∨ ∃ y, x = .str y ∧ R (Its y) H1
theorem pi_any {l : Expr} {tl : TE} (hl : PE X l tl) : PI X tg l (iAny X.K tl) := by
  refine ⟨fun pins s σ H R I h => ?_⟩
  refine thn (hl.run pins s σ H _ I h) fun v s1 ⟨x, H1, I1, r1, q1⟩ => ?_
  rcases q1 with ⟨a, e, ⟨xs, hq⟩, q⟩ | ⟨a, e, ⟨xs, hq⟩, q⟩ | ⟨y, e, q⟩
  · subst e
    cases r1
    obtain ⟨its, rv, p, hz⟩ := I1.list hq
    refine wpAny_pyIter_list p.isList ?_
    refine ⟨s1.heap.objs.size, [s1.heap.objs.size], _, _, H1, rfl, I1.kept (t' := s1.toks) fun b o e => Heap.get?_push_of_some _ e, turn_list a _, ⟨_, Heap.get?_push_size _ rfl, rfl, rfl⟩, fun b hb => ?_, q⟩
    have e : b = s1.heap.objs.size := by simpa using hb
    subst e
    exact I1.fpOk (Nat.le_refl _) (I1.hok.fresh (Nat.le_refl _))
  · subst e
    cases r1
    obtain ⟨its, rv, p, hz⟩ := I1.tuple hq
    refine wpAny_pyIter_tuple (show s1.heap.IsTuple a its.toArray from p) ?_
    refine ⟨s1.heap.objs.size, [s1.heap.objs.size], _, _, H1, rfl, I1.kept (t' := s1.toks) fun b o e => Heap.get?_push_of_some _ e, turn_tuple a _, ⟨_, Heap.get?_push_size _ rfl, rfl, rfl⟩, fun b hb => ?_, q⟩
    have e : b = s1.heap.objs.size := by simpa using hb
    subst e
    exact I1.fpOk (Nat.le_refl _) (I1.hok.fresh (Nat.le_refl _))
  · subst e
    obtain ⟨t, rfl⟩ := r1
    cases ha : y.cps.all (· < 128)
    · exact wpAny_pyIter_wide ha (pi_one (tk := s1.toks) I1 _ (turn_str _ y t "str_iterator" (.inr rfl)) ⟨_, Heap.get?_push_size _ rfl, rfl, rfl⟩ q)
    · exact wpAny_pyIter_ascii ha (pi_one (tk := s1.toks) I1 _ (turn_str _ y t "str_ascii_iterator" (.inl rfl)) ⟨_, Heap.get?_push_size _ rfl, rfl, rfl⟩ q)
theorem pi_imp {t t' : TI} (h : PI X tg iter t) (k : ∀ σ H R, t' σ H R → t σ H R) : PI X tg iter t' := ⟨fun pins s σ H R I q => h.run pins s σ H R I (k σ H R q)⟩
theorem snd_ival (hK : X.K = N.K) (he : PE X e (TD N ma W)) : PI X tg e (TDI N (iVal ma) W) := pi_imp (pi_any he) fun σ H R t => by
  obtain ⟨w, ρ, h, r1, r2, p⟩ := t
  refine TDg.imp (td_bind (m := ma) r1 r2 p) fun v H1 ⟨w1, h1, x, l1, q1, q2, q3, p1⟩ => ?_
  rw [hK]
  unfold itOf at p1
  split at p1
  · obtain ⟨a, vs, rfl, ha, hr⟩ := q3
    exact .inr (.inl ⟨a, rfl, ⟨vs, q1.sqT ha⟩, p1 w1 H1 _ (Wd.le.refl w1) q1 (jok_tup ha hr)⟩)
  · obtain ⟨a, vs, rfl, ha, hr⟩ := q3
    exact .inl ⟨a, rfl, ⟨vs, .of (q1.sqL ha)⟩, p1 w1 H1 _ (Wd.le.refl w1) q1 (jok_list (vs := vs) fun w' h' H' l r _ => ⟨vs, .of (r.sqL (LstAt.up (w := w1.np) l ha)), Reps.up l _ _ (Reps.np _ _ hr)⟩)⟩
  · obtain ⟨a, vs, rfl, ha, hr⟩ := q3
    exact .inl ⟨a, rfl, ⟨vs, q1.scr ha⟩, p1 w1 H1 _ (Wd.le.refl w1) q1 (jok_list (vs := vs) fun w' h' H' l r _ => ⟨vs, r.scr (ScrAt.up (w := w1.np) l ha), Reps.up l _ _ (Reps.np _ _ hr)⟩)⟩
  · obtain rfl := q3
    exact .inr (.inr ⟨_, rfl, p1 w1 H1 _ (Wd.le.refl w1) q1 jok_str⟩)
  · split at p1
    · rename_i n _ xs e
      obtain ⟨a, e1, rfl⟩ := q3
      obtain ⟨b, e4, vs, e5, e6⟩ := q1.at_ e
      rw [e1] at e4
      cases e4
      refine .inl ⟨a, rfl, ⟨vs, .of e5⟩, p1 w1 H1 _ (Wd.le.refl w1) q1 (jok_list (vs := vs) fun w' h' H' l r hc => ?_)⟩
      obtain ⟨b, e4, vs', e7, e8⟩ := r.at_ (show h'[n]? = some (.lst xs) from hc)
      rw [l.at_ (show w1.np.io[n]? = some a from e1)] at e4
      cases e4
      exact ⟨vs', .of e7, e8⟩
    · exact p1.elim
  · exact p1.elim
theorem snd_irng1 {p : Pos} (hg : Gl X "range") (hm : X.mg "range" = none) (ha : PE X a (TD N ma W)) (hs : starEach [a] X.env = [(false, eval a X.env)]) : PI X tg (.Call (.Name "range" p) [a] [] pos) (TDI N (DN.iRng1 ma) W) :=
  pi_imp (pi_range1 hg hm (pa_cons ha pa_nil hs) hs) fun σ H R t => by
    obtain ⟨w, ρ, h, r1, r2, p⟩ := t
    refine TDg.imp (td_bind (m := ma) r1 r2 p) fun v H1 ⟨w1, h1, x, l1, q1, q2, q3, p1⟩ => ?_
    cases x with
    | int j =>
      have p1 : Post N (fun w (p : List D × (Hs → Prop)) (J : L2.It) => JOk N w J p.1 p.2) W w1 σ R (if -(2 ^ 62) ≤ j ∧ j < 2 ^ 62 then .ok (rngL 0 j.toNat, chkTrue) h1 else .no) := p1
      split at p1
      · rename_i hz
        obtain rfl := q3
        exact ⟨j, rfl, hz.1, hz.2, p1 w1 H1 _ (Wd.le.refl w1) q1 jok_rng⟩
      · exact p1.elim
    | _ => exact p1.elim
theorem snd_irng2 {p : Pos} (hg : Gl X "range") (hm : X.mg "range" = none) (ha : PE X a (TD N ma W)) (hb : PE X b (TD N mb W)) (hs : starEach [a, b] X.env = [(false, eval a X.env), (false, eval b X.env)]) (hs2 : starEach [b] X.env = [(false, eval b X.env)]) :
    PI X tg (.Call (.Name "range" p) [a, b] [] pos) (TDI N (DN.iRng2 ma mb) W) :=
  pi_imp (pi_range2 hg hm (pa_cons ha (pa_cons hb pa_nil hs2) (by rw [hs, hs2])) hs hs2) fun σ H R t => by
    obtain ⟨w, ρ, h, r1, r2, p⟩ := t
    refine TDg.imp (td_bind (m := ma) r1 r2 p) fun v H1 ⟨w1, h1, x, l1, q1, q2, q3, p1⟩ => ?_
    refine TDg.imp (td_bind (m := mb) q1 q2 p1) fun u H2 ⟨w2, h2, y, l2, q4, q5, q6, p2⟩ => ?_
    cases x with
    | int i =>
      cases y with
      | int j =>
        have p2 : Post N (fun w (p : List D × (Hs → Prop)) (J : L2.It) => JOk N w J p.1 p.2) W w2 σ R (if (-(2 ^ 62) ≤ i ∧ i < 2 ^ 62) ∧ -(2 ^ 62) ≤ j ∧ j < 2 ^ 62 then .ok (rngL i (j - i).toNat, chkTrue) h2 else .no) := p2
        split at p2
        · rename_i hz
          obtain rfl := q3
          obtain rfl := q6
          exact ⟨i, j, rfl, ⟨hz.1.1, hz.1.2, hz.2.1, hz.2.2⟩, p2 w2 H2 _ (Wd.le.refl w2) q4 jok_rng⟩
        · exact p2.elim
      | _ => exact p2.elim
    | _ => exact p2.elim
end
end DN

set_option Elab.async false
set_option linter.all false
set_option maxRecDepth 100000
/-! D7: calls and defs. -/
namespace DN
open PySem PySem.Spec
open L2 hiding It
open PyProof.Rows hiding St

/-- what is asked of a call's end -/
def PostC (N : Nm) (w : Wd) (Q : VK) (E : XK) : R D → Prop
  | .ok d h' => ∀ w' H' v, w.le w' → RelH N w' h' H' → Rep N w' d v → Q v H'
  | .xc c fs h' => ∀ w' H' cls dd, w.le w' → RelH N w' h' H' → XRep N w' c fs cls dd H' → E cls dd H'
  | .no => False
/-- the promise of the def f at the depth whose calls are C -/
def spC (N : Nm) (C : Calls) (ar f : Nat) : Sp := fun vs H Q E => ∃ w h ds, RelH N w h H ∧ Reps N w ds vs ∧ ds.length = ar ∧ PostC N w Q E (C f ds h)
theorem postC_of {N : Nm} {W : WX} {w : Wd} {σ : St} {Q : VK} : ∀ {r : R D}, Post N (Rep N) W w σ Q r → PostC N w Q (WE W σ) r
  | .ok _ _, p => p
  | .xc _ _ _, p => p
  | .no, p => p
section
variable {X : Cx} {N : Nm} {W : WX} {ma mb : M D} {mr : M (List D)} {e a b c : Expr} {es : List Expr} {pos : Pos} {C : Calls} {k f ar : Nat} {fa : Addr} {fd : FuncData} {ps : List Str} {x : Str} {p : Pos}
theorem td_call (σ : St) (H : Hp) (Q : VK) (t : TD N (mCallN C ar f mr) W σ H Q) : tCallS (spC N C ar f) (WE W) (TDs N mr W) σ H Q := by
  obtain ⟨w, ρ, h, r1, r2, p⟩ := t
  refine TDg.imp (td_bind (m := mr) r1 r2 p) fun vs H1 ⟨w1, h1, ds, l1, q1, q2, q3, p1⟩ => ?_
  split at p1
  · rename_i hl
    exact ⟨w1, h1, ds, q1, q3, hl, postC_of p1⟩
  · exact p1.elim
theorem snd_call (F : FnOk X.prog X.w X.K X.mg X.base (L2.CX X.prog X.w) k fa fd ps (spC N C ar f)) (hr : Room k X.A) (hg : Gl X x) (hm : X.mg x = some (.ref fa)) (hk : PySem.W.keepIn X.K (.ref fa) = true) (hb : Binds X.K fd ps []) (tk : Takes X W)
    (ha : PA X (e :: es) (TDs N mr W)) (hdb : (x == ("__debug__" : Str)) = false) (he : starEach (e :: es) X.env = (false, eval e X.env) :: starEach es X.env) (hpl : (backTo pos (starEach es X.env)).any (·.1) = false) :
    PE X (.Call (.Name x p) (e :: es) [] pos) (TD N (mCallN C ar f mr) W) := pe_imp (pe_callS (E := WE W) F hr hg hm hk hb (fun σ => passAt tk σ) ha hdb he hpl) td_call
theorem snd_call0 (F : FnOk X.prog X.w X.K X.mg X.base (L2.CX X.prog X.w) k fa fd ps (spC N C ar f)) (hr : Room k X.A) (hg : Gl X x) (hm : X.mg x = some (.ref fa)) (hk : PySem.W.keepIn X.K (.ref fa) = true) (hb : Binds X.K fd ps []) (tk : Takes X W)
    (hdb : (x == ("__debug__" : Str)) = false) : PE X (.Call (.Name x p) [] [] pos) (TD N (mCallN C ar f mNil) W) := by
  refine pe_imp (t := tCallS (spC N C ar f) (WE W) (TDs N mNil W)) ⟨fun pins s σ H Q I h => ?_⟩ td_call
  refine wpAny_Call_Name_kw (ld_glob I hg hm ?_ hdb)
  obtain ⟨w, ρ, hh, r1, r2, pp⟩ := h
  have h2 : spC N C ar f [] H Q (WE W σ) := pp w H [] (Wd.le.refl w) r1 rfl
  exact PySem.W.callWith_K0 I.kIn hk (run_fnS (us := []) (E := WE W) F hr hb (passAt tk σ) I .nil h2)
end
/-! ### a def by its body's meaning -/
theorem rep_start {N : Nm} (hxs : N.xs = none) {w : Wd} {Ns : List Str} {ds : List D} {vs : List V} {sl : Nat} (hs : Ns.length = sl) (r : Reps N w ds vs) : RelE N w (startE sl ds) (L2.start Ns vs) := by
  unfold startE L2.start
  have e := r.length
  refine ⟨by rw [List.length_append, List.length_append, List.length_map, List.length_map, List.length_replicate, List.length_replicate, e, hs], fun i d h => ?_, fun i a z => by rw [hxs] at z; cases z⟩
  by_cases hi : i < ds.length
  · rw [List.getElem?_append_left (by rw [List.length_map]; exact hi), List.getElem?_map] at h
    cases q : ds[i]? with
    | none =>
      rw [q] at h
      cases h
    | some d' =>
      rw [q] at h
      cases h
      obtain ⟨v, h1, h2⟩ := r.get q
      refine ⟨v, ?_, h2⟩
      rw [List.getElem?_append_left (by rw [List.length_map, e]; exact hi), List.getElem?_map, h1]
      rfl
  · rw [List.getElem?_append_right (by rw [List.length_map]; omega), List.getElem?_replicate] at h
    split at h <;> cases h
theorem reps_length {N : Nm} {w : Wd} {ds : List D} {vs : List V} (r : Reps N w ds vs) : vs.length = ds.length := r.length

/-! what a traceless def hands back -/
section
variable {N : Nm} {w : Wd}
mutual
theorem rep_blw : ∀ (d : D) (v : V), Rep N w d v → D.blw w.io.length d = true
  | .non, _, _ => rfl
  | .bl _, _, _ => rfl
  | .int _, _, _ => rfl
  | .str _, _, _ => rfl
  | .tup xs, _, h => by
    obtain ⟨_, vs, _, _, r⟩ := h
    exact reps_blw xs vs r
  | .fl xs, _, h => by
    obtain ⟨_, vs, _, _, r⟩ := h
    exact reps_blw xs vs r
  | .sl xs, _, h => by
    obtain ⟨_, vs, _, _, r⟩ := h
    exact reps_blw xs vs r
  | .fd kvs, _, h => by
    obtain ⟨_, vs, _, _, r⟩ := h
    exact repd_blw kvs vs r
  | .ref n, _, h => by
    obtain ⟨a, e, _⟩ := h
    exact decide_eq_true (List.getElem?_eq_some_iff.mp e).1
  | .fn _, _, _ => rfl
  | .xc _ _, _, _ => rfl
theorem reps_blw : ∀ (ds : List D) (vs : List V), Reps N w ds vs → D.blws w.io.length ds = true
  | [], _, _ => rfl
  | d :: ds, _, h => by
    obtain ⟨v, r, _, h1, h2⟩ := h
    show (D.blw _ d && D.blws _ ds) = true
    rw [rep_blw d v h1, reps_blw ds r h2]
    rfl
theorem repd_blw : ∀ (ds : List (D × D)) (vs : List (Key × V)), Repd N w ds vs → D.blwp w.io.length ds = true
  | [], _, _ => rfl
  | (k, d) :: ds, _, h => by
    obtain ⟨q, v, r, _, hk, h1, h2⟩ := h
    show (D.blw _ k && D.blw _ d && D.blwp _ ds) = true
    have hk' : D.blw w.io.length k = true := by
      cases k <;> first | rfl | exact hk.elim
    rw [hk', rep_blw d v h1, repd_blw ds r h2]
    rfl
end
theorem repf_blw : ∀ (ds : List (Nat × D)) (vs : List (Str × V)), Repf N w ds vs → D.blws w.io.length (ds.map (·.2)) = true
  | [], _, _ => rfl
  | (k, d) :: ds, _, h => by
    obtain ⟨v, r, _, h1, h2⟩ := h
    show (D.blw _ d && D.blws _ (ds.map (·.2))) = true
    rw [rep_blw d v h1, repf_blw ds r h2]
    rfl
/-- from a later world to one with fewer objects -/
structure Shr (k : Nat) (w' w'' : Wd) : Prop where
  io : ∀ (n : Nat) (a : Addr), n < k → w'.io[n]? = some a → w''.io[n]? = some a
  im : ∀ a o, w'.im a = some o → w''.im a = some o
variable {w' w'' : Wd} {k : Nat}
mutual
theorem rep_shr (x : Shr k w' w'') : ∀ (d : D) (v : V), D.blw k d = true → Rep N w' d v → Rep N w'' d v
  | .non, _, _, h => h
  | .bl _, _, _, h => h
  | .int _, _, _, h => h
  | .str _, _, _, h => h
  | .tup xs, _, b, h => by
    obtain ⟨a, vs, e, s, r⟩ := h
    exact ⟨a, vs, e, s.imp (x.im a _) id, reps_shr x xs vs b r⟩
  | .fl xs, _, b, h => by
    obtain ⟨a, vs, e, s, r⟩ := h
    exact ⟨a, vs, e, x.im a _ s, reps_shr x xs vs b r⟩
  | .sl xs, _, b, h => by
    obtain ⟨a, vs, e, s, r⟩ := h
    exact ⟨a, vs, e, s.imp (fun ⟨o, h⟩ => ⟨o, x.im a _ h⟩) (Or.imp (x.im a _) id), reps_shr x xs vs b r⟩
  | .fd kvs, _, b, h => by
    obtain ⟨a, vs, e, s, r⟩ := h
    exact ⟨a, vs, e, x.im a _ s, repd_shr x kvs vs b r⟩
  | .ref n, _, b, h => by
    obtain ⟨a, e, r⟩ := h
    exact ⟨a, x.io n a (of_decide_eq_true b) e, r⟩
  | .fn _, _, _, h => h
  | .xc _ _, _, _, h => by
    obtain ⟨a, dd, e, h1, h2⟩ := h
    exact ⟨a, dd, e, x.im a _ h1, h2.imp id fun ⟨ad, fv, q1, q2, q3⟩ => ⟨ad, fv, q1, x.im ad _ q2, q3⟩⟩
theorem reps_shr (x : Shr k w' w'') : ∀ (ds : List D) (vs : List V), D.blws k ds = true → Reps N w' ds vs → Reps N w'' ds vs
  | [], _, _, h => h
  | d :: ds, _, b, h => by
    have b : (D.blw k d && D.blws k ds) = true := b
    rw [Bool.and_eq_true] at b
    obtain ⟨v, r, e, h1, h2⟩ := h
    exact ⟨v, r, e, rep_shr x d v b.1 h1, reps_shr x ds r b.2 h2⟩
theorem repd_shr (x : Shr k w' w'') : ∀ (ds : List (D × D)) (vs : List (Key × V)), D.blwp k ds = true → Repd N w' ds vs → Repd N w'' ds vs
  | [], _, _, h => h
  | (q, d) :: ds, _, b, h => by
    have b : (D.blw k q && D.blw k d && D.blwp k ds) = true := b
    rw [Bool.and_eq_true, Bool.and_eq_true] at b
    obtain ⟨q', v, r, e, hk, h1, h2⟩ := h
    exact ⟨q', v, r, e, hk, rep_shr x d v b.1.2 h1, repd_shr x ds r b.2 h2⟩
end
theorem repf_shr (x : Shr k w' w'') : ∀ (ds : List (Nat × D)) (vs : List (Str × V)), D.blws k (ds.map (·.2)) = true → Repf N w' ds vs → Repf N w'' ds vs
  | [], _, _, h => h
  | (q, d) :: ds, _, b, h => by
    have b : (D.blw k d && D.blws k (ds.map (·.2))) = true := b
    rw [Bool.and_eq_true] at b
    obtain ⟨v, r, e, h1, h2⟩ := h
    exact ⟨v, r, e, rep_shr x d v b.1 h1, repf_shr x ds r b.2 h2⟩
/-- the plain heap h stands again in a later layer's heap in which nothing of it has changed; more is told unchanging -/
theorem relH_back {h g : Hs} {H H' : Hp} (r : RelH N w h H) (l : w.le w') (r' : RelH N w' (h ++ g) H') (more : Hp) (hm : ∀ a o, more a = some o → H' a = some o ∧ ∃ n, h.length ≤ n ∧ w'.io[n]? = some a) :
    ∃ w'', w.le w'' ∧ Shr h.length w' w'' ∧ (∀ a o, more a = some o → w''.im a = some o) ∧ RelH N w'' h H' := by
  have hio : ∀ (n : Nat) (a : Addr), n < h.length → w'.io[n]? = some a → w.io[n]? = some a := fun n a hn e => by
    obtain ⟨m, e2⟩ := l.io
    rw [e2, List.getElem?_append_left (by rw [r.len]; exact hn)] at e
    exact e
  have hfar : ∀ a o, more a = some o → a ∉ w.io := fun a o e hm' => by
    obtain ⟨_, n, hn, e1⟩ := hm a o e
    obtain ⟨j, hj, ej⟩ := List.getElem_of_mem hm'
    have e2 : w'.io[j]? = some a := l.at_ (by rw [List.getElem?_eq_getElem hj, ej])
    obtain ⟨b1, q1⟩ := List.getElem?_eq_some_iff.mp e1
    obtain ⟨b2, q2⟩ := List.getElem?_eq_some_iff.mp e2
    have : n = j := (List.getElem_inj r'.nod).mp (q1.trans q2.symm)
    rw [r.len] at hj
    omega
  have himn : ∀ a o, more a = some o → w'.im a = none := fun a o e => by
    obtain ⟨_, n, hn, e1⟩ := hm a o e
    exact r'.sep a (List.mem_of_getElem? e1)
  have hsub : ∀ a, a ∈ w.io → a ∈ w'.io := fun a ha => by
    obtain ⟨m, e2⟩ := l.io
    rw [e2]
    exact List.mem_append_left _ ha
  have shr : Shr h.length w' ⟨w.io, fun a => (more a).or (w'.im a), w.pv⟩ := ⟨hio, fun a o e => by
    show (more a).or (w'.im a) = some o
    cases q : more a with
    | none => exact e
    | some u =>
      rw [himn a u q] at e
      cases e⟩
  refine ⟨⟨w.io, fun a => (more a).or (w'.im a), w.pv⟩, ⟨⟨[], by simp⟩, fun a o e => shr.im a o (l.im a o e), fun _ _ e => e⟩, shr, fun a o e => by show (more a).or (w'.im a) = some o; rw [e]; rfl, ?_⟩
  refine ⟨fun a o e => ?_, fun a o e => ?_, r.len, r.nod, fun a ha => ?_, fun n a o e1 e2 => ?_, r'.kep, fun P hP => by
    obtain ⟨⟨y1, y2⟩, ps, z, t⟩ := r'.tab P hP
    refine ⟨⟨?_, ?_⟩, ps, z, t⟩
    · show (more P).or (w'.im P) = none
      rw [y1]
      cases q : more P with
      | none => rfl
      | some u =>
        obtain ⟨_, n, hn, e1⟩ := hm P u q
        exact absurd z (tab_io r' e1)
    · show w.pv P = none
      cases q : w.pv P with
      | none => rfl
      | some u =>
        rw [l.pv P u q] at y2
        cases y2⟩
  · have e : (more a).or (w'.im a) = some o := e
    cases q : more a with
    | none =>
      rw [q] at e
      exact r'.imm a o e
    | some u =>
      rw [q] at e
      cases e
      exact (hm a _ q).1
  · obtain ⟨z1, z2, z3⟩ := r'.prv a o (l.pv a o e)
    refine ⟨z1, ?_, fun hm' => z3 (hsub a hm')⟩
    show (more a).or (w'.im a) = none
    rw [z2]
    cases q : more a with
    | none => rfl
    | some u =>
      obtain ⟨_, n, hn, e1⟩ := hm a u q
      exact absurd (List.mem_of_getElem? e1) z3
  · show (more a).or (w'.im a) = none
    rw [r'.sep a (hsub a ha)]
    cases q : more a with
    | none => rfl
    | some u => exact absurd ha (hfar a u q)
  · have hn : n < h.length := (List.getElem?_eq_some_iff.mp e2).1
    have e3 := r'.obj n a o (l.at_ e1) (by rw [List.getElem?_append_left hn]; exact e2)
    have e4 := r.obj n a o e1 e2
    cases o with
    | lst xs =>
      obtain ⟨vs, z1, z2⟩ := e3
      obtain ⟨us, _, z3⟩ := e4
      exact ⟨vs, z1, reps_shr shr xs vs (by rw [← r.len]; exact reps_blw xs us z3) z2⟩
    | dct xs =>
      obtain ⟨vs, z1, z2⟩ := e3
      obtain ⟨us, _, z3⟩ := e4
      exact ⟨vs, z1, repd_shr shr xs vs (by rw [← r.len]; exact repd_blw xs us z3) z2⟩
    | ins c xs =>
      obtain ⟨dx, vs, z1, z2⟩ := e3
      obtain ⟨_, us, _, z3⟩ := e4
      exact ⟨dx, vs, z1, repf_shr shr xs vs (by rw [← r.len]; exact repf_blw xs us z3) z2⟩
end

section
variable {N : Nm} {w : Wd} {h : Hs} {H : Hp} {Q : VK} {E : XK}
theorem noMore {w' : Wd} {H' : Hp} {k : Nat} : ∀ (a : Addr) (o : HO), (fun _ => none : Hp) a = some o → H' a = some o ∧ ∃ n, k ≤ n ∧ w'.io[n]? = some a := fun a o e => by cases e
theorem frz_plain {k : Nat} {h' h : Hs} {d : D} (hd : ∀ n, d ≠ .ref n) : frz k h' h d = if D.blw k d then .ok d h else .no := by
  cases d with
  | ref n => exact absurd rfl (hd n)
  | _ => rfl
theorem frz_ok {w' : Wd} {g : Hs} {H' : Hp} {d : D} {v : V} (r : RelH N w h H) (l : w.le w') (r' : RelH N w' (h ++ g) H') (q : Rep N w' d v) (p : PostC N w Q E (frz h.length (h ++ g) h d)) : Q v H' := by
  have plain : D.blw h.length d = true → PostC N w Q E (.ok d h) → Q v H' := fun b p => by
    obtain ⟨w'', l2, sh, _, r2⟩ := relH_back r l r' (fun _ => none) noMore
    exact p w'' H' v l2 r2 (rep_shr sh d v b q)
  by_cases hd : ∃ n, d = .ref n
  · obtain ⟨n, rfl⟩ := hd
    have p : PostC N w Q E (if n < h.length then .ok (.ref n) h else (match (h ++ g)[n]? with
      | some (.lst xs) => if D.blws h.length xs then .ok (.fl xs) h else .no
      | some (.dct kvs) => if D.blwp h.length kvs then .ok (.fd kvs) h else .no
      | _ => .no)) := p
    split at p
    · rename_i hn
      exact plain (decide_eq_true hn) p
    · rename_i hn
      obtain ⟨a, ea, rfl⟩ := q
      split at p
      · rename_i xs eo
        split at p
        · rename_i hb
          obtain ⟨b, e4, vs, e5, e6⟩ := r'.at_ eo
          rw [ea] at e4
          cases e4
          obtain ⟨w'', l2, sh, hm, r2⟩ := relH_back r l r' (fun b => if b = a then some (.lst vs) else none) fun b o e => by
            by_cases hba : b = a
            · subst hba
              rw [if_pos rfl] at e
              cases e
              exact ⟨e5, n, by omega, ea⟩
            · rw [if_neg hba] at e
              cases e
          exact p w'' H' _ l2 r2 ⟨a, vs, rfl, hm a _ (if_pos rfl), reps_shr sh xs vs hb e6⟩
        · exact p.elim
      · rename_i xs eo
        split at p
        · rename_i hb
          obtain ⟨b, e4, vs, e5, e6⟩ := r'.at_ eo
          rw [ea] at e4
          cases e4
          obtain ⟨w'', l2, sh, hm, r2⟩ := relH_back r l r' (fun b => if b = a then some (.dK vs) else none) fun b o e => by
            by_cases hba : b = a
            · subst hba
              rw [if_pos rfl] at e
              cases e
              exact ⟨e5, n, by omega, ea⟩
            · rw [if_neg hba] at e
              cases e
          exact p w'' H' _ l2 r2 ⟨a, vs, rfl, hm a _ (if_pos rfl), repd_shr sh xs vs hb e6⟩
        · exact p.elim
      · exact p.elim
  · rw [frz_plain fun n e => hd ⟨n, e⟩] at p
    split at p
    · rename_i hb
      exact plain hb p
    · exact p.elim
open Classical in
theorem purify_ok (r : RelH N w h H) : ∀ {x : R D}, PostC N w Q E (purify h x) → PostC N w Q E x
  | .ok d h', p => by
    intro w' H' v l r' q
    have p : PostC N w Q E (if ∃ g, h' = h ++ g then frz h.length h' h d else .no) := p
    split at p
    · rename_i hg
      obtain ⟨g, rfl⟩ := hg
      exact frz_ok r l r' q p
    · exact p.elim
  | .xc c fs h', p => by
    intro w' H' cls dd l r' q
    have p2 : PostC N w Q E (if (∃ g, h' = h ++ g) ∧ D.blws h.length (fs.map (·.2)) = true then .xc c fs h else .no) := p
    clear p
    by_cases hg : (∃ g, h' = h ++ g) ∧ D.blws h.length (fs.map (·.2)) = true
    · rw [if_pos hg] at p2
      obtain ⟨⟨g, rfl⟩, hb⟩ := hg
      obtain ⟨w'', l2, sh, _, r2⟩ := relH_back r l r' (fun _ => none) noMore
      refine p2 w'' H' cls dd l2 r2 ⟨q.1, ?_⟩
      have q2 := q.2
      cases fs with
      | nil => exact q2
      | cons f fs =>
        obtain ⟨a, fv, e1, e2, e3⟩ := q2
        exact ⟨a, fv, e1, e2, repf_shr sh _ _ hb e3⟩
    · rw [if_neg hg] at p2
      exact p2.elim
  | .no, p => p
end
/-- a def keeps its promise, if its body's meaning is kept -/
theorem fn_sound {P : Program} {wd : World} {K : PySem.W.Frag} {mg : Str → Option Value} {base : Heap} {x qual : Str} {params : Arguments} {body : List Stmt} {scope : Scope} {fa : Addr} {fd : FuncData} {Ns ps : List Str} {k n : Nat} {N : Nm} {fe : FnE} {C C' : Calls} {f : Nat}
    (F : FunD K x qual params body scope [] [] fa fd) (S : FnScope Ns ps scope) (hps : ps.length = fe.ar) (hsl : Ns.length = fe.sl) (hxs : N.xs = none) (hC : ∀ ds h, C' f ds h = fe.run n C ds h)
    (hb : ∀ (cdv : Value) (A : Around) (outer : List PySem.Env) (s : Shared) (H : Hp) (E : XK), (PySem.W.codeIn K cdv qual = true ∧ ∃ oc od osl, K.lookup fa = some ⟨oc, od, .func fd, osl⟩ ∧ fd.code = cdv) → Room k (A.deeper (envOfC qual scope s.heap.objs.size fa cdv)) → Takes (cxOf (L2.CX P wd) P wd K mg base Ns qual scope fa cdv A outer s H E) (fun cls d _ H => E cls d H) →
      PassesOwn (model P wd) (cxOf (L2.CX P wd) P wd K mg base Ns qual scope fa cdv A outer s H E).A (cxOf (L2.CX P wd) P wd K mg base Ns qual scope fa cdv A outer s H E).env (cxOf (L2.CX P wd) P wd K mg base Ns qual scope fa cdv A outer s H E).xe →
      PSs (cxOf (L2.CX P wd) P wd K mg base Ns qual scope fa cdv A outer s H E) body (TDS N (fe.body n C) (fun cls d _ H => E cls d H))) :
    FnOk P wd K mg base (L2.CX P wd) (k + 1) fa fd ps (spC N C' fe.ar f) := by
  obtain ⟨oc, od, dV, kV, doc, pm, an, cdv, ct, osl, efd, lk, hcd, _, _⟩ := F.ex
  subst efd
  refine fn_of lk hcd S (fun vs H Q E h => ?_) (fun A outer s H vs Q E hr h => ⟨_, hb cdv A outer s H E ⟨hcd, oc, od, osl, lk, rfl⟩ hr (takes_of rfl rfl rfl rfl) (passes_of rfl), ?_⟩)
  · obtain ⟨w, hh, ds, _, r, l, _⟩ := h
    rw [r.length, l, hps]
  · obtain ⟨w, hh, ds, r, rs, l, p⟩ := h
    rw [hC] at p
    unfold FnE.run at p
    rw [if_pos l] at p
    have p2 : PostC N w Q E (finB (fe.body n C (startE fe.sl ds) hh)) := by
      split at p
      · exact purify_ok r p
      · exact p
    refine ⟨w, startE fe.sl ds, hh, r, rep_start hxs hsl rs, ?_⟩
    cases e : fe.body n C (startE fe.sl ds) hh with
    | nx ρ h' =>
      rw [e] at p2
      exact fun w' σ' H' l r1 r2 => p2 w' H' .non l r1 rfl
    | rt d h' =>
      rw [e] at p2
      exact fun w' H' v l r1 r2 => p2 w' H' v l r1 r2
    | xc c fs ρ h' =>
      rw [e] at p2
      exact fun w' σ' H' cls dd l r1 r2 r3 => p2 w' H' cls dd l r1 r3
    | bk ρ h' =>
      rw [e] at p2
      exact p2.elim
    | ct ρ h' =>
      rw [e] at p2
      exact p2.elim
    | no =>
      rw [e] at p2
      exact p2.elim
end DN

set_option Elab.async false
set_option linter.all false
set_option maxRecDepth 100000
/-! D8: built-ins, methods of built-in types. -/
namespace DN
open PySem PySem.Spec
open L2 hiding It
open PyProof.Rows hiding St

theorem CallR.or {X : Cx} {f : Value} {r r' : List V → Hp → VK → Prop} (h : CallR X f r) (h' : CallR X f r') : CallR X f (fun xs H Q => r xs H Q ∨ r' xs H Q) := by
  intro pins s σ H xs us Q I rv q
  rcases q with q | q
  · exact h pins s σ H xs us Q I rv q
  · exact h' pins s σ H xs us Q I rv q
def CbS (N : Nm) (r : List V → Hp → VK → Prop) (f : List D → Hs → R D) : Prop := ∀ (W : WX) (w : Wd) (h : Hs) (H : Hp) (σ : St) (ds : List D) (vs : List V) (Q : VK), RelH N w h H → Reps N w ds vs → Post N (Rep N) W w σ Q (f ds h) → r vs H Q
section
variable {X : Cx} {N : Nm} {W : WX} {ma mb : M D} {mr : M (List D)} {e a b c o : Expr} {es : List Expr} {pos p apos : Pos} {x : Str} {id T : String} {r : List V → Hp → VK → Prop} {f : List D → Hs → R D}
theorem td_app (hs : CbS N r f) (σ : St) (H : Hp) (Q : VK) (t : TD N (mApp f mr) W σ H Q) : tCB r (TDs N mr W) σ H Q := by
  obtain ⟨w, ρ, h, r1, r2, p⟩ := t
  refine TDg.imp (td_bind (m := mr) r1 r2 p) fun vs H1 ⟨w1, h1, ds, l1, q1, q2, q3, p1⟩ => ?_
  exact hs W w1 h1 H1 σ ds vs Q q1 q3 p1
theorem snd_cb (hc : CallR X (.builtin id) r) (hs : CbS N r f) (hg : Gl X x) (hm : X.mg x = none) (hv : bootBuiltins x = some (.builtin id)) (ha : PA X (e :: es) (TDs N mr W)) (hn : x ≠ "__name__") (hdb : (x == ("__debug__" : Str)) = false)
    (he : starEach (e :: es) X.env = (false, eval e X.env) :: starEach es X.env) (hpl : (backTo pos (starEach es X.env)).any (·.1) = false) : PE X (.Call (.Name x p) (e :: es) [] pos) (TD N (mApp f mr) W) := pe_imp (pe_callB hc hg hm hv ha hn hdb he hpl) (td_app hs)
theorem snd_ct (hc : CallR X (.type T) r) (hs : CbS N r f) (hg : Gl X x) (hm : X.mg x = none) (hv : bootBuiltins x = some (.type T)) (ha : PA X (e :: es) (TDs N mr W)) (hn : x ≠ "__name__") (hdb : (x == ("__debug__" : Str)) = false)
    (he : starEach (e :: es) X.env = (false, eval e X.env) :: starEach es X.env) (hpl : (backTo pos (starEach es X.env)).any (·.1) = false) : PE X (.Call (.Name x p) (e :: es) [] pos) (TD N (mApp f mr) W) := pe_imp (pe_callTy hc hg hm hv ha hn hdb he hpl) (td_app hs)
end
section
variable {N : Nm} {w : Wd} {h : Hs} {H : Hp}
theorem reps1 {d : D} {vs : List V} (r : Reps N w [d] vs) : ∃ v, vs = [v] ∧ Rep N w d v := by
  obtain ⟨v, r', rfl, h1, h2⟩ := r
  have h2 : _ = [] := h2
  subst h2
  exact ⟨v, rfl, h1⟩
theorem reps2 {d e : D} {vs : List V} (r : Reps N w [d, e] vs) : ∃ v u, vs = [v, u] ∧ Rep N w d v ∧ Rep N w e u := by
  obtain ⟨v, r', rfl, h1, h2⟩ := r
  obtain ⟨u, rfl, h3⟩ := reps1 h2
  exact ⟨v, u, rfl, h1, h3⟩
end
/-! len -/
def rLenA (K : PySem.W.Frag) : List V → Hp → VK → Prop := fun xs H Q => (∃ x n, xs = [x] ∧ LenV K x H n ∧ Q (.int n) H) ∨ ∃ a kvs, xs = [V.ref a] ∧ H a = some (.dK kvs) ∧ Q (.int kvs.length) H
theorem cb_len {X : Cx} : CallR X (.builtin "len") (rLenA X.K) := CallR.or call_len call_lenD
theorem cbs_len {N : Nm} : CbS N (rLenA N.K) bLen := by
  intro W w h H σ ds vs Q r q p
  unfold bLen at p
  split at p
  · obtain ⟨v, rfl, rfl⟩ := reps1 q
    split at p
    · rename_i s hz
      refine .inl ⟨_, s.length, rfl, ⟨by rw [toS_length, ← SZ_eq]; exact hz, (toS_length s).symm⟩, post_val p r rfl⟩
    · exact p.elim
  · obtain ⟨v, rfl, q0⟩ := reps1 q
    split at p
    · rename_i xs e1
      obtain ⟨a, us, rfl, ha, hr⟩ := r.seq q0 e1
      refine .inl ⟨_, xs.length, rfl, ?_, post_val p r rfl⟩
      rcases ha with ha | ha
      · exact .inl ⟨us, ha, hr.length.symm⟩
      · exact .inr ⟨us, ha, hr.length.symm⟩
    · split at p
      · rename_i kvs e1
        obtain ⟨a, ks, rfl, ha, hr⟩ := r.dct q0 e1
        refine .inr ⟨a, ks, rfl, ha, ?_⟩
        rw [hr.length]
        exact post_val p r rfl
      · exact p.elim
  · exact p.elim
theorem cbs_abs {N : Nm} : CbS N (fun xs H Q => ∃ i, xs = [.int i] ∧ Q (.int (if i < 0 then -i else i)) H) bAbs := by
  intro W w h H σ ds vs Q r q p
  unfold bAbs at p
  split at p
  · obtain ⟨v, rfl, rfl⟩ := reps1 q
    exact ⟨_, rfl, post_val p r rfl⟩
  · exact p.elim
theorem cbs_int {N : Nm} : CbS N (fun xs H Q => (∃ i, xs = [.int i] ∧ Q (.int i) H) ∨ ∃ k, xs = [.bl k] ∧ Q (.int (if k then 1 else 0)) H) bInt := by
  intro W w h H σ ds vs Q r q p
  unfold bInt at p
  split at p
  · obtain ⟨v, rfl, rfl⟩ := reps1 q
    exact .inl ⟨_, rfl, post_val p r rfl⟩
  · obtain ⟨v, rfl, rfl⟩ := reps1 q
    exact .inr ⟨_, rfl, post_val p r rfl⟩
  · exact p.elim
theorem cbs_min2 {N : Nm} : CbS N (fun xs H Q => ∃ i j, xs = [.int i, .int j] ∧ Q (.int (if j < i then j else i)) H) bMin2 := by
  intro W w h H σ ds vs Q r q p
  unfold bMin2 at p
  split at p
  · obtain ⟨v, u, rfl, rfl, rfl⟩ := reps2 q
    exact ⟨_, _, rfl, post_val p r rfl⟩
  · exact p.elim
theorem cbs_max2 {N : Nm} : CbS N (fun xs H Q => ∃ i j, xs = [.int i, .int j] ∧ Q (.int (if j > i then j else i)) H) bMax2 := by
  intro W w h H σ ds vs Q r q p
  unfold bMax2 at p
  split at p
  · obtain ⟨v, u, rfl, rfl, rfl⟩ := reps2 q
    exact ⟨_, _, rfl, post_val p r rfl⟩
  · exact p.elim
theorem cbs_ord {N : Nm} : CbS N (fun xs H Q => ∃ x, xs = [.str x] ∧ x.length = 1 ∧ Q (.int (x.cps.getD 0 0 : Nat)) H) bOrd := by
  intro W w h H σ ds vs Q r q p
  unfold bOrd at p
  split at p
  · obtain ⟨v, rfl, rfl⟩ := reps1 q
    exact ⟨_, rfl, rfl, post_val p r rfl⟩
  · exact p.elim
theorem cbs_list {N : Nm} (hp : Bool) : CbS N (fun xs H Q => ∃ p ys, xs = [.ref p] ∧ (SqL N.K H p ys ∨ SqT N.K H p ys) ∧ ∀ l, H l = none → Q (.ref l) (upd H l (.lst ys))) (bList hp) := by
  intro W w h H σ ds vs Q r q p
  unfold bList at p
  split at p
  · obtain ⟨v, rfl, q0⟩ := reps1 q
    split at p
    · rename_i xs e1
      obtain ⟨a, us, rfl, ha, hr⟩ := r.seq q0 e1
      exact ⟨a, us, rfl, ha, (post_mkL r hr p).2⟩
    · exact p.elim
  · exact p.elim
theorem cb_tuple {X : Cx} : CallR X (.type "tuple") (fun xs H Q => ∃ p ys, xs = [.ref p] ∧ ((SqL X.K H p ys ∧ ∀ l, H l = none → Q (.ref l) (upd H l (.tup ys))) ∨ (SqT X.K H p ys ∧ Q (.ref p) H))) := call_tuple_of
theorem cbs_tuple {N : Nm} : CbS N (fun xs H Q => ∃ p ys, xs = [.ref p] ∧ ((SqL N.K H p ys ∧ ∀ l, H l = none → Q (.ref l) (upd H l (.tup ys))) ∨ (SqT N.K H p ys ∧ Q (.ref p) H))) bTuple := by
  intro W w h H σ ds vs Q r q p
  unfold bTuple at p
  split at p
  · obtain ⟨v, rfl, q0⟩ := reps1 q
    obtain ⟨a, us, rfl, ha, hr⟩ := q0
    exact ⟨a, us, rfl, .inr ⟨r.sqT ha, post_val p r ⟨a, us, rfl, ha, hr⟩⟩⟩
  · obtain ⟨v, rfl, q0⟩ := reps1 q
    split at p
    · rename_i xs e1
      obtain ⟨a, us, rfl, ha, hr⟩ := r.lst q0 e1
      exact ⟨a, us, rfl, .inl ⟨ha, (post_mkT r hr p).2⟩⟩
    · exact p.elim
  · exact p.elim
/-! isinstance -/
def Ty.name : Ty → String
  | .int => "int" | .bool => "bool" | .str => "str" | .tuple => "tuple" | .list => "list" | .dict => "dict"
theorem tyx_of {N : Nm} {w : Wd} {h : Hs} {H : Hp} {d : D} {v : V} {t : Ty} {b : Bool} (r : RelH N w h H) (q : Rep N w d v) (e : isTy h d t = some b) : ∃ n : String, TyX N.K H v (.type n) ∧ kitB n t.name = some b := by
  unfold isTy at e
  split at e
  · obtain rfl := q; cases e
    exact ⟨_, .base .non, by cases t <;> decide +kernel⟩
  · obtain rfl := q; cases e
    exact ⟨_, .base (.bl _), by cases t <;> decide +kernel⟩
  · obtain rfl := q; cases e
    exact ⟨_, .base (.int _), by cases t <;> decide +kernel⟩
  · obtain rfl := q; cases e
    exact ⟨_, .base (.str _), by cases t <;> decide +kernel⟩
  · obtain ⟨a, vs, rfl, ha, hr⟩ := q; cases e
    refine ⟨"tuple", ?_, by cases t <;> decide +kernel⟩
    rcases r.sqT ha with (z | ⟨o, z⟩) | ⟨o, its, n, z1, z2, _⟩
    · exact .base (.tup z)
    · exact .fTuple z
    · exact .kTuple z1 z2
  · obtain ⟨a, vs, rfl, ha, hr⟩ := q; cases e
    exact ⟨_, .base (.lst (r.sqL ha)), by cases t <;> decide +kernel⟩
  · obtain ⟨a, vs, rfl, ha, hr⟩ := q; cases e
    refine ⟨"list", ?_, by cases t <;> decide +kernel⟩
    rcases r.scr ha with (z | ⟨o, z⟩) | ⟨o, its, n, z1, z2, _⟩
    · exact .base (.lst z)
    · exact .base (.frz z)
    · exact .kList z1 z2
  · obtain ⟨a, vs, rfl, ha, hr⟩ := q; cases e
    exact ⟨_, .base (.dK (r.imm _ _ ha)), by cases t <;> decide +kernel⟩
  · obtain ⟨a, e1, rfl⟩ := q
    split at e
    · rename_i n xs e3
      cases e
      obtain ⟨b, e4, vs, e5, e6⟩ := r.at_ e3
      rw [e1] at e4
      cases e4
      exact ⟨_, .base (.lst e5), by cases t <;> decide +kernel⟩
    · rename_i n xs e3
      cases e
      obtain ⟨b, e4, vs, e5, e6⟩ := r.at_ e3
      rw [e1] at e4
      cases e4
      exact ⟨_, .base (.dK e5), by cases t <;> decide +kernel⟩
    · cases e
  · cases e
section
variable {X : Cx} {N : Nm} {W : WX} {ma mb : M D} {mr : M (List D)} {e a b c o : Expr} {es : List Expr} {pos p apos : Pos} {x : Str}
theorem snd_isi (t : Ty) (hK : X.K = N.K) (hg : Gl X x) (hm : X.mg x = none) (hv : bootBuiltins x = some (.builtin "isinstance")) (ha : PE X a (TD N ma W)) (hb : PE X b (tC (.ty t.name))) (hn : x ≠ "__name__") (hdb : (x == ("__debug__" : Str)) = false)
    (he : starEach [a, b] X.env = (false, eval a X.env) :: starEach [b] X.env) (he2 : starEach [b] X.env = [(false, eval b X.env)]) (hpl : (backTo pos (starEach [b] X.env)).any (·.1) = false) : PE X (.Call (.Name x p) [a, b] [] pos) (TD N (mIsi t ma) W) :=
  pe_imp (pe_callB call_isi hg hm hv (pa_cons ha (pa_cons hb pa_nil he2) he) hn hdb he hpl) fun σ H Q t' => by
    obtain ⟨w, ρ, h, r1, r2, p⟩ := t'
    refine TDg.imp (td_bind (m := ma) r1 r2 p) fun v H1 ⟨w1, h1, y, l1, q1, q2, q3, p1⟩ => ?_
    split at p1
    · rename_i k e1
      obtain ⟨n, h3, h4⟩ := tyx_of q1 q3 e1
      exact ⟨v, .ty t.name, .type n, .type t.name, k, rfl, .ty _, by rw [hK]; exact h3, kit_ty h4, post_val p1 q1 rfl⟩
    · exact p1.elim
/-! ### methods of built-in types -/
/-- a method that asks its receiver to be of the type T -/
def MtS (N : Nm) (T : String) (r : V → List V → Hp → VK → Prop) (f : D → List D → Hs → R D) : Prop := ∀ (W : WX) (w w' : Wd) (h h' : Hs) (H H' : Hp) (σ : St) (x : D) (ds : List D) (v : V) (vs : List V) (Q : VK), RelH N w h H → Rep N w x v → w.le w' → RelH N w' h' H' → Reps N w' ds vs → Post N (Rep N) W w' σ Q (f x ds h') → r v vs H' Q
theorem isT_ty {T : String} {w : Wd} {h : Hs} {H : Hp} {x : D} {v : V} (r : RelH N w h H) (q : Rep N w x v) (e : isT T h x = true) : tyV N.K T v H := by
  unfold isT at e
  split at e
  · cases e1 : lstOf h x with
    | none =>
      rw [e1] at e
      cases e
    | some xs =>
      obtain ⟨a, vs, rfl, ha, _⟩ := r.lst q e1
      exact .inl ⟨rfl, vs, ha⟩
  · cases e1 : dctOf h x with
    | none =>
      rw [e1] at e
      cases e
    | some xs =>
      obtain ⟨a, vs, rfl, ha, _⟩ := r.dct q e1
      exact .inr (.inr (.inl ⟨rfl, .inl ⟨vs, ha⟩⟩))
  · split at e
    · obtain rfl := q
      rfl
    · cases e
  · cases e
theorem td_bm {T : String} {r : V → List V → Hp → VK → Prop} {f : D → List D → Hs → R D} (hs : MtS N T r f) (hK : X.K = N.K) (σ : St) (H : Hp) (Q : VK) (t : TD N (mBM T f ma mr) W σ H Q) : tBM X.K T r (TD N ma W) (TDs N mr W) σ H Q := by
  obtain ⟨w, ρ, h, r1, r2, p⟩ := t
  refine TDg.imp (td_bind (m := ma) r1 r2 p) fun v H1 ⟨w1, h1, y, l1, q1, q2, q3, p1⟩ => ?_
  split at p1
  · rename_i ht
    refine ⟨by rw [hK]; exact isT_ty q1 q3 ht, ?_⟩
    refine TDg.imp (td_bind (m := mr) q1 q2 p1) fun vs H2 ⟨w2, h2, ds, l2, q4, q5, q6, p2⟩ => ?_
    exact hs W w1 w2 h1 h2 H1 H2 σ y ds v vs Q q1 q3 l2 q4 q6 p2
  · exact p1.elim
theorem td_bm0 {T : String} {r : V → List V → Hp → VK → Prop} {f : D → List D → Hs → R D} (hs : MtS N T r f) (hK : X.K = N.K) (σ : St) (H : Hp) (Q : VK) (t : TD N (mBM T f ma mNil) W σ H Q) : tBM0 X.K T r (TD N ma W) σ H Q := by
  obtain ⟨w, ρ, h, r1, r2, p⟩ := t
  refine TDg.imp (td_bind (m := ma) r1 r2 p) fun v H1 ⟨w1, h1, y, l1, q1, q2, q3, p1⟩ => ?_
  split at p1
  · rename_i ht
    refine ⟨by rw [hK]; exact isT_ty q1 q3 ht, ?_⟩
    exact hs W w1 w1 h1 h1 H1 H1 σ y [] v [] Q q1 q3 (Wd.le.refl w1) q1 rfl p1
  · exact p1.elim
end
theorem mts_append {N : Nm} : MtS N "list" rAppend eAppend := by
  intro W w w' h h' H H' σ x ds v vs Q _ qx l r q p
  unfold eAppend at p
  split at p
  · rename_i n d
    obtain ⟨a, e1, rfl⟩ := qx
    obtain ⟨u, rfl, q0⟩ := reps1 q
    split at p
    · rename_i xs e3
      obtain ⟨b, e4, us, e5, e6⟩ := r.at_ e3
      rw [l.at_ e1] at e4
      cases e4
      split at p
      · rename_i hz
        refine ⟨a, us, u, rfl, rfl, e5, by rw [e6.length, ← SZ_eq]; exact hz, ?_⟩
        exact post_val p (r.put (l.at_ e1) ⟨_, rfl, Reps.append e6 ⟨u, [], rfl, q0, rfl⟩⟩) rfl
      · exact p.elim
    · exact p.elim
  · exact p.elim
theorem mts_extend {N : Nm} : MtS N "list" rExtend eExtend := by
  intro W w w' h h' H H' σ x ds v vs Q _ qx l r q p
  unfold eExtend at p
  split at p
  · rename_i n d
    obtain ⟨a, e1, rfl⟩ := qx
    obtain ⟨u, rfl, q0⟩ := reps1 q
    split at p
    · rename_i xs ys e3 e7
      obtain ⟨b, e4, us, e5, e6⟩ := r.at_ e3
      rw [l.at_ e1] at e4
      cases e4
      obtain ⟨b, zs, rfl, e8, e9⟩ := r.lsu q0 e7
      split at p
      · rename_i hz
        refine ⟨a, b, us, zs, rfl, rfl, e5, e8, by rw [e6.length, e9.length, ← SZ_eq]; exact hz, ?_⟩
        exact post_val p (r.put (l.at_ e1) ⟨_, rfl, Reps.append e6 e9⟩) rfl
      · exact p.elim
    · exact p.elim
  · exact p.elim
def rPopA : V → List V → Hp → VK → Prop := fun x xs H Q => rPop x xs H Q ∨ rPopAt x xs H Q
theorem mt_popA {X : Cx} : MtR X "list.pop" rPopA := MtR.or mt_pop mt_popAt
theorem Reps.dropLast {N : Nm} {w : Wd} {xs : List D} {vs : List V} (r : Reps N w xs vs) : Reps N w xs.dropLast vs.dropLast := by
  rw [List.dropLast_eq_take, List.dropLast_eq_take, r.length]
  exact r.take _
theorem mts_pop {N : Nm} : MtS N "list" rPopA ePop := by
  intro W w w' h h' H H' σ x ds v vs Q _ qx l r q p
  unfold ePop at p
  split at p
  · rename_i n
    obtain ⟨a, e1, rfl⟩ := qx
    have q : vs = [] := q
    subst q
    split at p
    · rename_i xs e3
      obtain ⟨b, e4, us, e5, e6⟩ := r.at_ e3
      rw [l.at_ e1] at e4
      cases e4
      split at p
      · rename_i y ey
        obtain ⟨u, eu, qu⟩ := e6.get ey
        refine .inl ⟨a, us, u, rfl, rfl, e5, by rw [e6.length]; exact eu, ?_⟩
        exact post_val p (r.put (l.at_ e1) ⟨_, rfl, e6.dropLast⟩) qu
      · exact p.elim
    · exact p.elim
  · rename_i n
    obtain ⟨a, e1, rfl⟩ := qx
    obtain ⟨u, rfl, rfl⟩ := reps1 q
    split at p
    · rename_i y xs e3
      obtain ⟨b, e4, us, e5, e6⟩ := r.at_ e3
      rw [l.at_ e1] at e4
      cases e4
      obtain ⟨u, us', rfl, h1, h2⟩ := e6
      refine .inr ⟨a, _, 0, 0, u, rfl, rfl, e5, by decide, by decide, ?_, rfl, ?_⟩
      · rw [seqIndex_of (by omega) (by rw [List.length_cons]; omega)]
        rfl
      · exact post_val p (r.put (l.at_ e1) ⟨_, rfl, h2⟩) h1
    · exact p.elim
  · exact p.elim
end DN

set_option Elab.async false
set_option linter.all false
set_option maxRecDepth 100000
/-! D9: list comprehensions. -/
namespace DN
open PySem PySem.Spec
open L2 hiding It
open PyProof.Rows hiding St

/-! ### something held for oneself -/
section
variable {N : Nm} {w : Wd} {h : Hs} {H : Hp}
def Wd.hold (w : Wd) (p : Addr) (u : HO) : Wd := ⟨w.io, w.im, upd w.pv p u⟩
theorem shr_hold {p : Addr} {u : HO} {k : Nat} : Shr k w (w.hold p u) := ⟨fun _ _ _ e => e, fun _ _ e => e⟩
theorem rep_hold {p : Addr} {u : HO} {d : D} {v : V} (r : Rep N w d v) : Rep N (w.hold p u) d v := rep_shr shr_hold d v (rep_blw d v r) r
theorem reps_hold {p : Addr} {u : HO} {d : List D} {v : List V} (r : Reps N w d v) : Reps N (w.hold p u) d v := reps_shr shr_hold d v (reps_blw d v r) r
theorem obRep_hold {p : Addr} {u : HO} : ∀ {o : O} {x : Option HO}, ObRep N w o x → ObRep N (w.hold p u) o x
  | .lst xs, _, ⟨vs, e, r⟩ => ⟨vs, e, reps_hold r⟩
  | .dct xs, _, ⟨vs, e, r⟩ => ⟨vs, e, repd_shr shr_hold xs vs (repd_blw xs vs r) r⟩
  | .ins c xs, _, ⟨dx, vs, e, r⟩ => ⟨dx, vs, e, repf_shr shr_hold xs vs (repf_blw xs vs r) r⟩
theorem relE_hold {p : Addr} {u : HO} {ρ : Env} {σ : St} (r : RelE N w ρ σ) : RelE N (w.hold p u) ρ σ := ⟨r.1, fun i d e => by
  obtain ⟨v, h1, h2⟩ := r.2 i d e
  exact ⟨v, h1, rep_hold h2⟩, r.x⟩
theorem RelH.free (r : RelH N w h H) {p : Addr} (hp : H p = none) : w.im p = none ∧ w.pv p = none ∧ p ∉ w.io := by
  refine ⟨?_, ?_, fun hm => ?_⟩
  · cases q : w.im p with
    | none => rfl
    | some o =>
      have z := r.imm p o q
      rw [hp] at z
      cases z
  · cases q : w.pv p with
    | none => rfl
    | some o =>
      have z := (r.prv p o q).1
      rw [hp] at z
      cases z
  · obtain ⟨n, hn, e⟩ := List.getElem_of_mem hm
    have e2 : w.io[n]? = some p := by rw [List.getElem?_eq_getElem hn, e]
    have hn2 : n < h.length := by rw [← r.len]; exact hn
    have z := r.obj n p h[n] e2 (List.getElem?_eq_getElem hn2)
    rw [hp] at z
    cases q : h[n] with
    | lst xs => rw [q] at z; obtain ⟨_, e, _⟩ := z; cases e
    | dct xs => rw [q] at z; obtain ⟨_, e, _⟩ := z; cases e
    | ins c xs => rw [q] at z; obtain ⟨_, _, e, _⟩ := z; cases e
/-- a thing of one's own is laid or changed -/
theorem RelH.hold (hx : N.Cold) (r : RelH N w h H) {p : Addr} {u : HO} (h1 : w.im p = none) (h2 : p ∉ w.io) (h3 : ∀ ps, H p ≠ some (.tbl ps)) : RelH N (w.hold p u) h (upd H p u) := by
  refine ⟨fun a o e => ?_, fun a o e => ?_, r.len, r.nod, r.sep, fun n a o e1 e2 => ?_, fun a o e => (by rw [hx.2 a] at e; cases e), fun P hP => by
    obtain ⟨⟨z1, z2⟩, ps, z, t⟩ := r.tab P hP
    have ne : P ≠ p := fun y => by rw [y] at z; exact h3 _ z
    exact ⟨⟨z1, by show upd w.pv p u P = none; rw [upd_ne ne]; exact z2⟩, ps, by rw [upd_ne ne]; exact z, t⟩⟩
  · have hap : a ≠ p := fun z => by
      subst z
      have e : w.im a = some o := e
      rw [h1] at e
      cases e
    rw [upd_ne hap]
    exact r.imm a o e
  · have e : upd w.pv p u a = some o := e
    by_cases hap : a = p
    · subst hap
      rw [upd_same] at e
      exact ⟨by rw [upd_same]; exact e, h1, h2⟩
    · rw [upd_ne hap] at e
      obtain ⟨z1, z2, z3⟩ := r.prv a o e
      exact ⟨by rw [upd_ne hap]; exact z1, z2, z3⟩
  · have hap : a ≠ p := fun z => by
      subst z
      exact h2 (List.mem_of_getElem? e1)
    rw [upd_ne hap]
    exact obRep_hold (r.obj n a o e1 e2)
theorem le_hold {w1 : Wd} {p : Addr} {u : HO} (l : w1.le w) (hp : w1.pv p = none) : w1.le (w.hold p u) := ⟨l.io, l.im, fun a o e => by
  have hap : a ≠ p := fun z => by
    subst z
    rw [hp] at e
    cases e
  show upd w.pv p u a = some o
  rw [upd_ne hap]
  exact l.pv a o e⟩
/-- given away: as an unchanging list, as an object of the plain heap -/
theorem RelH.give (hx : N.Cold) (r : RelH N w h H) {p : Addr} {vs : List V} {xs : List D} (hp : Bool) (hpv : w.pv p = some (.lst vs)) (q : Reps N w xs vs) (hz : xs.length ≤ SZ) {w1 : Wd} (l : w1.le w) (hn : w1.pv p = none) {W : WX} {σ : St} {Q : VK} (po : Post N (Rep N) W w1 σ Q (mkL hp xs h)) : Q (.ref p) H := by
  obtain ⟨z1, z2, z3⟩ := r.prv p _ hpv
  unfold mkL at po
  rw [if_pos hz] at po
  cases hp with
  | false =>
    have sh : Shr h.length w ⟨w.io, upd w.im p (.lst vs), fun a => if a = p then none else w.pv a⟩ := ⟨fun _ _ _ e => e, fun a o e => by
      have hap : a ≠ p := fun z => by
        subst z
        rw [z2] at e
        cases e
      show upd w.im p _ a = some o
      rw [upd_ne hap]
      exact e⟩
    have lw : w1.le ⟨w.io, upd w.im p (.lst vs), fun a => if a = p then none else w.pv a⟩ := ⟨l.io, fun a o e => sh.im a o (l.im a o e), fun a o e => by
      have hap : a ≠ p := fun z => by
        subst z
        rw [hn] at e
        cases e
      show (if a = p then none else w.pv a) = some o
      rw [if_neg hap]
      exact l.pv a o e⟩
    refine po _ H _ lw ?_ ⟨p, vs, rfl, upd_same, reps_shr sh xs vs (by rw [← r.len]; exact reps_blw xs vs q) q⟩
    refine ⟨fun a o e => ?_, fun a o e => ?_, r.len, r.nod, fun a ha => ?_, fun n a o e1 e2 => ?_, fun a o e => (by rw [hx.2 a] at e; cases e), fun P hP => by
      obtain ⟨⟨y1, y2⟩, ps, z, t⟩ := r.tab P hP
      have ne : P ≠ p := fun y => by rw [y, z1] at z; cases z
      exact ⟨⟨by show upd w.im p (.lst vs) P = none; rw [upd_ne ne]; exact y1, by show (if P = p then none else w.pv P) = none; rw [if_neg ne]; exact y2⟩, ps, z, t⟩⟩
    · have e : upd w.im p (.lst vs) a = some o := e
      by_cases hap : a = p
      · subst hap
        rw [upd_same] at e
        rw [← e]
        exact z1
      · rw [upd_ne hap] at e
        exact r.imm a o e
    · have e : (if a = p then none else w.pv a) = some o := e
      by_cases hap : a = p
      · rw [if_pos hap] at e
        cases e
      · rw [if_neg hap] at e
        obtain ⟨y1, y2, y3⟩ := r.prv a o e
        refine ⟨y1, ?_, y3⟩
        show upd w.im p _ a = none
        rw [upd_ne hap]
        exact y2
    · have hap : a ≠ p := fun z => by
        subst z
        exact z3 ha
      show upd w.im p _ a = none
      rw [upd_ne hap]
      exact r.sep a ha
    · have e3 := r.obj n a o e1 e2
      cases o with
      | lst ys =>
        obtain ⟨us, y1, y2⟩ := e3
        exact ⟨us, y1, reps_shr sh ys us (by rw [← r.len]; exact reps_blw ys us y2) y2⟩
      | dct ys =>
        obtain ⟨us, y1, y2⟩ := e3
        exact ⟨us, y1, repd_shr sh ys us (by rw [← r.len]; exact repd_blw ys us y2) y2⟩
      | ins c ys =>
        obtain ⟨dx, us, y1, y2⟩ := e3
        exact ⟨dx, us, y1, repf_shr sh ys us (by rw [← r.len]; exact repf_blw ys us y2) y2⟩
  | true =>
    have hio : ∀ (n : Nat) (a : Addr), w.io[n]? = some a → (w.io ++ [p])[n]? = some a := fun n a e => by
      rw [List.getElem?_append_left (List.getElem?_eq_some_iff.mp e).1]
      exact e
    have sh : Shr h.length w ⟨w.io ++ [p], w.im, fun a => if a = p then none else w.pv a⟩ := ⟨fun n a _ e => hio n a e, fun a o e => e⟩
    have lw : w1.le ⟨w.io ++ [p], w.im, fun a => if a = p then none else w.pv a⟩ := ⟨by
      obtain ⟨m, e⟩ := l.io
      exact ⟨m ++ [p], by rw [← List.append_assoc, ← e]⟩, l.im, fun a o e => by
      have hap : a ≠ p := fun z => by
        subst z
        rw [hn] at e
        cases e
      show (if a = p then none else w.pv a) = some o
      rw [if_neg hap]
      exact l.pv a o e⟩
    have at_p : (w.io ++ [p])[h.length]? = some p := by
      rw [← r.len]
      exact List.getElem?_concat_length
    refine po _ H _ lw ?_ ⟨p, at_p, rfl⟩
    refine ⟨r.imm, fun a o e => ?_, ?_, ?_, fun a ha => ?_, fun n a o e1 e2 => ?_, fun a o e => (by rw [hx.2 a] at e; cases e), fun P hP => by
      obtain ⟨⟨y1, y2⟩, ps, z, t⟩ := r.tab P hP
      have ne : P ≠ p := fun y => by rw [y, z1] at z; cases z
      exact ⟨⟨y1, by show (if P = p then none else w.pv P) = none; rw [if_neg ne]; exact y2⟩, ps, z, t⟩⟩
    · have e : (if a = p then none else w.pv a) = some o := e
      by_cases hap : a = p
      · rw [if_pos hap] at e
        cases e
      · rw [if_neg hap] at e
        obtain ⟨y1, y2, y3⟩ := r.prv a o e
        refine ⟨y1, y2, fun hm => ?_⟩
        rcases List.mem_append.mp hm with hm | hm
        · exact y3 hm
        · exact hap (by simpa using hm)
    · show (w.io ++ [p]).length = (h ++ [O.lst xs]).length
      rw [List.length_append, List.length_append, r.len]
      rfl
    · show (w.io ++ [p]).Nodup
      rw [List.nodup_append]
      exact ⟨r.nod, by simp, fun a ha b hb => by
        have hb : b = p := by simpa using hb
        subst hb
        exact fun e => z3 (by rw [← e]; exact ha)⟩
    · rcases List.mem_append.mp ha with ha | ha
      · exact r.sep a ha
      · have ha : a = p := by simpa using ha
        subst ha
        exact z2
    · have e1 : (w.io ++ [p])[n]? = some a := e1
      by_cases hn : n < w.io.length
      · rw [List.getElem?_append_left hn] at e1
        rw [List.getElem?_append_left (by rw [← r.len]; exact hn)] at e2
        have e3 := r.obj n a o e1 e2
        cases o with
        | lst ys =>
          obtain ⟨us, y1, y2⟩ := e3
          exact ⟨us, y1, reps_shr sh ys us (by rw [← r.len]; exact reps_blw ys us y2) y2⟩
        | dct ys =>
          obtain ⟨us, y1, y2⟩ := e3
          exact ⟨us, y1, repd_shr sh ys us (by rw [← r.len]; exact repd_blw ys us y2) y2⟩
        | ins c ys =>
          obtain ⟨dx, us, y1, y2⟩ := e3
          exact ⟨dx, us, y1, repf_shr sh ys us (by rw [← r.len]; exact repf_blw ys us y2) y2⟩
      · have hn2 : n = w.io.length := by
          have := (List.getElem?_eq_some_iff.mp e1).1
          rw [List.length_append] at this
          simp at this
          omega
        subst hn2
        rw [List.getElem?_concat_length] at e1
        cases e1
        rw [r.len, List.getElem?_concat_length] at e2
        cases e2
        exact ⟨vs, z1, reps_shr sh xs vs (by rw [← r.len]; exact reps_blw xs vs q) q⟩
end
/-! ### the own names of a comprehension -/
theorem wipe_in {σ : St} {i : Nat} : ∀ {vs : List Nat}, i ∈ vs → (wipe σ vs)[i]? = if i < σ.length then some none else none
  | [], h => by cases h
  | v :: vs, h => by
    unfold wipe
    by_cases e : v = i
    · subst e
      by_cases hl : v < σ.length
      · rw [if_pos hl, List.getElem?_set_self (by rw [wipe_length]; exact hl)]
      · rw [if_neg hl]
        exact List.getElem?_eq_none (by rw [List.length_set, wipe_length]; omega)
    · rw [List.getElem?_set_ne e]
      rcases List.mem_cons.mp h with z | z
      · exact absurd z.symm e
      · exact wipe_in z
theorem wipe_set {σ : St} {i : Nat} {x : Option V} {vs : List Nat} (h : i ∈ vs) : wipe (σ.set i x) vs = wipe σ vs := by
  apply List.ext_getElem?
  intro j
  by_cases hj : j ∈ vs
  · rw [wipe_in hj, wipe_in hj, List.length_set]
  · rw [wipe_out hj, wipe_out hj]
    exact List.getElem?_set_ne (fun e => hj (by rw [← e]; exact h))
theorem wipe_wipe {σ : St} {vs : List Nat} : wipe (wipe σ vs) vs = wipe σ vs := by
  apply List.ext_getElem?
  intro j
  by_cases hj : j ∈ vs
  · rw [wipe_in hj, wipe_in hj, wipe_length]
  · rw [wipe_out hj]
theorem relE_wipe {N : Nm} (hx : N.Cold) {w : Wd} {ρ : Env} {σ : St} (r : RelE N w ρ σ) : ∀ vs : List Nat, RelE N w (wipeE ρ vs) (wipe σ vs)
  | [] => r
  | v :: vs => by
    have ih := relE_wipe hx r vs
    unfold wipeE wipe
    refine ⟨by rw [List.length_set, List.length_set, ih.1], fun i d e => ?_, fun i a e => by rw [hx.1] at e; cases e⟩
    by_cases hi : v = i
    · subst hi
      by_cases hl : v < (wipeE ρ vs).length
      · rw [List.getElem?_set_self hl] at e
        cases e
      · rw [List.getElem?_eq_none (by rw [List.length_set]; omega)] at e
        cases e
    · rw [List.getElem?_set_ne hi] at e
      rw [List.getElem?_set_ne hi]
      exact ih.2 i d e
/-- the targets in the layer: one name, two names -/
def gC (K : PySem.W.Frag) : List Nat → TG
  | [i] => gName i
  | [i, j] => L2.gTup K 2 (gCons (gName i) (gCons (gName j) gNil))
  | _ => fun _ _ _ _ => False
def isOk : List Nat → Bool
  | [_] => true
  | [_, _] => true
  | _ => false
theorem gC_ok {N : Nm} (hx : N.Cold) {w : Wd} {ρ ρ1 : Env} {σ : St} {h h1 : Hs} {H : Hp} {d : D} {v : V} {is vs : List Nat} {Q : St → Hp → Prop} (r : RelH N w h H) (re : RelE N w ρ σ) (q : Rep N w d v) (hi : ∀ i ∈ is, i ∈ vs) (hk : isOk is = true)
    (e : cTg is d ρ h = .ok ρ1 h1) (hq : ∀ σ2, RelE N w ρ1 σ2 → wipe σ2 vs = wipe σ vs → h1 = h → Q σ2 H) : gC N.K is v σ H Q := by
  match is, hk with
  | [i], _ =>
    cases e
    exact hq _ (re.set hx.1 q) (wipe_set (hi i (by simp))) rfl
  | [i, j], _ =>
    cases d with
    | tup xs =>
      obtain ⟨a, us, rfl, ha, hr⟩ := q
      have e : (if xs.length = 2 then gTup.go [gVar i, gVar j] xs ρ h else .no) = R.ok ρ1 h1 := e
      split at e
      · rename_i hl
        match xs, hl with
        | [x, y], _ =>
          obtain ⟨u1, u2, rfl, q1, q2⟩ := reps2 hr
          cases e
          refine ⟨a, [u1, u2], rfl, r.sqT ha, rfl, u1, [u2], rfl, u2, [], rfl, rfl, ?_⟩
          exact hq _ ((re.set hx.1 q1).set hx.1 q2) (by rw [wipe_set (hi j (by simp)), wipe_set (hi i (by simp))]) rfl
      · cases e
    | _ => cases e
abbrev W0 : WX := fun _ _ _ _ => False
section
variable {X : Cx} {N : Nm} {W : WX} {m : M D} {t : M Bool} {it : DN.It} {elt tg iter : Expr} {ifs : List Expr} {scope : Scope} {own : List (Str × Nat)} {is : List Nat} {pos : Pos} {hp : Bool}
theorem td_lc (hx : N.Cold) {vs : List Nat} (hi : ∀ i ∈ is, i ∈ vs) (hk : isOk is = true) (σ : St) (H : Hp) (Q : VK) (tt : TD N (mLc hp vs is it t m) W σ H Q) : tLc (TDI N it W) (gC N.K is) (TDt N t W0) (TD N m W0) vs σ H Q := by
  obtain ⟨w, ρ, h, r1, r2, p⟩ := tt
  refine TDg.imp (td_bind (m := it) r1 r2 p) fun J H1 ⟨w1, h1, x, l1, q1, q2, q3, p1⟩ => ?_
  obtain ⟨xs, chk⟩ := x
  have q3 : JOk N w1 J xs chk := q3
  have p1 : Post N (Rep N) W w1 σ Q (match lcGo chk vs (cTg is) t m xs ρ h1 with | .ok ys h2 => mkL hp ys h2 | _ => .no) := p1
  intro D hD
  obtain ⟨f1, f2, f3⟩ := q1.free hD
  refine ⟨fun i k H => ∃ w h acc av, w1.le w ∧ RelH N w h H ∧ w.pv D = some (.lst av) ∧ Reps N w acc av ∧ k = xs.length - i ∧ i ≤ xs.length ∧ Post N (Rep N) W w1 σ Q (match lcGo chk vs (cTg is) t m (xs.drop i) ρ h with | .ok ys h2 => mkL hp (acc ++ ys) h2 | _ => .no),
    ⟨xs.length, w1.hold D (.lst []), h1, [], [], le_hold (Wd.le.refl w1) f2, q1.hold hx f1 f3 (fun ps z => by rw [hD] at z; cases z), upd_same, rfl, by omega, Nat.zero_le _, p1⟩, fun i k H2 tt => ?_⟩
  obtain ⟨w2, h2, acc, av, l2, s1, s2, s3, rfl, hi2, p2⟩ := tt
  by_cases he : i = xs.length
  · subst he
    rw [List.drop_length] at p2
    unfold lcGo at p2
    by_cases hc : chk h2
    · rw [if_pos hc] at p2
      refine .inl ⟨(q3 w2 h2 H2 _ (Wd.np_le l2) s1 hc).1 rfl, ?_⟩
      have p2 : Post N (Rep N) W w1 σ Q (mkL hp (acc ++ []) h2) := p2
      rw [List.append_nil] at p2
      have hz : acc.length ≤ SZ := by
        unfold mkL at p2
        split at p2
        · assumption
        · exact p2.elim
      exact s1.give hx hp s2 s3 hz l2 f2 p2
    · rw [if_neg hc] at p2
      exact p2.elim
  · have hlt : i < xs.length := by omega
    rw [List.drop_eq_getElem_cons hlt] at p2
    unfold lcGo at p2
    by_cases hc : chk h2
    · rw [if_pos hc] at p2
      obtain ⟨go, yld⟩ := (q3 w2 h2 H2 i (Wd.np_le l2) s1 hc).2 xs[i] (List.getElem?_eq_getElem hlt)
      refine .inr ⟨go, fun H' => ∃ w h acc av, w1.le w ∧ RelH N w h H' ∧ w.pv D = some (.lst av) ∧ Reps N w acc av ∧ Post N (Rep N) W w1 σ Q (match lcGo chk vs (cTg is) t m (xs.drop (i + 1)) ρ h with | .ok ys h2 => mkL hp (acc ++ ys) h2 | _ => .no), fun H' tt => ?_, fun x H' hy => ?_⟩
      · obtain ⟨w3, h3, acc3, av3, y1, y2, y3, y4, y5⟩ := tt
        exact ⟨xs.length - (i + 1), by omega, w3, h3, acc3, av3, y1, y2, y3, y4, rfl, hlt, y5⟩
      · obtain ⟨w3, l3, t1, t2⟩ := yld x H' hy
        have l13 := l2.trans l3
        have re3 : RelE N w3 (wipeE ρ vs) (wipe σ vs) := relE_wipe hx (q2.up l13) vs
        cases e1 : cTg is xs[i] (wipeE ρ vs) h2 with
        | xc c fs h' => rw [e1] at p2; exact p2.elim
        | no => rw [e1] at p2; exact p2.elim
        | ok ρ1 hh1 =>
          rw [e1] at p2
          dsimp only at p2
          refine gC_ok hx t1 re3 t2 hi hk e1 fun σ2 re4 hw hh => ?_
          refine ⟨by rw [hw, wipe_wipe], ?_⟩
          subst hh
          refine ⟨w3, ρ1, hh1, t1, re4, ?_⟩
          cases e2 : t ρ1 hh1 with
          | xc c fs h' => rw [e2] at p2; exact p2.elim
          | no => rw [e2] at p2; exact p2.elim
          | ok b h4 =>
            rw [e2] at p2
            intro w4 H4 b' l4 u1 u2
            cases u2
            cases b with
            | false =>
              dsimp only at p2
              rw [if_neg (by simp)]
              exact ⟨w4, h4, acc, av, l13.trans l4, u1, l4.pv _ _ (l3.pv _ _ s2), Reps.up (l3.trans l4) _ _ s3, p2⟩
            | true =>
              rw [if_pos rfl]
              refine ⟨w4, ρ1, h4, u1, re4.up l4, ?_⟩
              dsimp only at p2
              cases e3 : m ρ1 h4 with
              | xc c fs h' => rw [e3] at p2; exact p2.elim
              | no => rw [e3] at p2; exact p2.elim
              | ok y h5 =>
                rw [e3] at p2
                dsimp only at p2
                intro w5 H5 yv l5 u3 u4
                have lpv : w5.pv D = some (.lst av) := l5.pv _ _ (l4.pv _ _ (l3.pv _ _ s2))
                obtain ⟨z1, z2, z3⟩ := u3.prv D _ lpv
                have racc : Reps N w5 acc av := Reps.up ((l3.trans l4).trans l5) _ _ s3
                cases e4 : lcGo chk vs (cTg is) t m (xs.drop (i + 1)) ρ h5 with
                | xc c fs h' => rw [e4] at p2; exact p2.elim
                | no => rw [e4] at p2; exact p2.elim
                | ok ys h6 =>
                  rw [e4] at p2
                  have p2 : Post N (Rep N) W w1 σ Q (mkL hp (acc ++ (y :: ys)) h6) := p2
                  have hz : (acc ++ (y :: ys)).length ≤ SZ := by
                    unfold mkL at p2
                    split at p2
                    · assumption
                    · exact p2.elim
                  rw [List.length_append, List.length_cons] at hz
                  refine ⟨av, z1, by rw [racc.length, ← SZ_eq]; omega, w5.hold D (.lst (av ++ [yv])), h5, acc ++ [y], av ++ [yv], le_hold ((l13.trans l4).trans l5) f2, u3.hold hx z2 z3 (fun ps z => by rw [z1] at z; cases z), upd_same, ?_, ?_⟩
                  · exact Reps.append (reps_hold racc) ⟨yv, [], rfl, rep_hold u4, rfl⟩
                  · rw [e4]
                    show Post N (Rep N) W w1 σ Q (mkL hp (acc ++ [y] ++ ys) h6)
                    rw [List.append_assoc]
                    exact p2
    · rw [if_neg hc] at p2
      exact p2.elim
theorem pts_imp {Y : Cx} {ifs : List Expr} {t t' : TT} (h : PTs Y ifs t) (k : ∀ σ H Q, t' σ H Q → t σ H Q) : PTs Y ifs t' := ⟨fun pins s σ H Q I q => h.run pins s σ H Q I (k σ H Q q)⟩
theorem snd_tests0 {Y : Cx} : PTs Y [] (TDt N tYesM W0) := pts_imp pts_nil fun σ H Q t => by
  obtain ⟨w, ρ, h, r1, r2, p⟩ := t
  exact p w H true (Wd.le.refl w) r1 rfl
theorem snd_tests1 {Y : Cx} {c : Expr} (hc : PT Y c (TDt N t W0)) : PTs Y [c] (TDt N t W0) := pts_one hc
/-- what a block's parts must keep -/
structure BlkS (X : Cx) (N : Nm) (scope : Scope) (tg : Expr) (ifs : List Expr) (elt : Expr) (is : List Nat) (t : M Bool) (m : M D) : Prop where
  g : ∀ (s : Shared) (H : Hp) (C : Addr) (cl : List (Str × Addr)) (fp : List Addr), PG (X.blk s H scope (compEnvC scope cl C X.env) fp) tg (gC X.K is)
  t : ∀ (s : Shared) (H : Hp) (C : Addr) (cl : List (Str × Addr)) (fp : List Addr), PTs (X.blk s H scope (compEnvC scope cl C X.env) fp) ifs (TDt N t W0)
  e : ∀ (s : Shared) (H : Hp) (C : Addr) (cl : List (Str × Addr)) (fp : List Addr), PE (X.blk s H scope (compEnvC scope cl C X.env) fp) elt (TD N m W0)
theorem snd_lc (hx : N.Cold) (hK : X.K = N.K) (hc : X.calm = true) (hN : X.N.Nodup) (hi : PI X tg iter (TDI N it W)) (ok : BlkOk X.N X.env.scope scope own) (hb : BlkS X N scope tg ifs elt is t m) (hin : ∀ i ∈ is, i ∈ own.map (·.2)) (hk : isOk is = true)
    (hs : ∀ x, foldedSetIterable iter X.env x = pure x) : PE X (.ListComp elt [⟨tg, iter, ifs, 0⟩] scope pos) (TD N (mLc hp (own.map (·.2)) is it t m) W) :=
  pe_imp (pe_lc hc hN hi ok hb.g hb.t hb.e hs) (by rw [hK]; exact td_lc hx hin hk)
theorem snd_setlc (hx : N.Cold) {i : Nat} {y : Str} {py spos : Pos} (hK : X.K = N.K) (hc : X.calm = true) (hN : X.N.Nodup) (hy : X.N[i]? = some y) (hyl : X.env.scope.names.lookup y = some .local) (hsw : swapsWith (.ListComp elt [⟨tg, iter, ifs, 0⟩] scope pos) (some (.Name y py)) spos.line X.env = pure true)
    (hi : PI X tg iter (TDI N it W)) (ok : BlkOk X.N X.env.scope scope own) (hb : BlkS X N scope tg ifs elt is t m) (hin : ∀ i ∈ is, i ∈ own.map (·.2)) (hk : isOk is = true)
    (hs : ∀ x, foldedSetIterable iter X.env x = pure x) : PS X (.Assign [.Name y py] (.ListComp elt [⟨tg, iter, ifs, 0⟩] scope pos) spos) (TDS N (sAsg (mLc hp (own.map (·.2)) is it t m) (gVar i)) W) :=
  ps_imp (ps_setLc hc hN hy hyl hsw hi ok hb.g hb.t hb.e hs) fun Dn σ H tt => by
    have z := td_asg Dn σ H tt
    have z2 : TD N (mLc hp (own.map (·.2)) is it t m) W σ H fun x H1 => gName i x σ H1 Dn.nx := TDg.imp z fun v H1 q => by
      obtain ⟨w, ρ, h, d, r1, r2, q, p⟩ := q
      exact p w _ H1 (Wd.le.refl w) r1 (r2.set hx.1 q)
    rw [hK]
    exact td_lc hx hin hk σ H _ z2
end
end DN

set_option Elab.async false
set_option linter.all false
set_option maxRecDepth 100000
set_option maxHeartbeats 2000000
/-! D13: all of a generator expression, at the layer: what it makes may call defs. -/
namespace DN
open PySem PySem.Spec
open L2 hiding It
open PyProof.Rows hiding St
open GxR (TabB TabG Tabbed inv_tab sh_eta)
open GenW (wpAny_gsz setGen_size)

abbrev wakeA (A : Around) : Around := A.in1.in1
/-- the context of a generator expression's frame that starts at s; pn: its own object -/
abbrev gCx (X : Cx) (s : Shared) (H : Hp) (cenv : PySem.Env) (fp : List Addr) (pn : List (Addr × Obj)) : Cx :=
  { X with A := (wakeA X.A).deeper cenv, s_0 := s, H_0 := H, env := cenv, outer := X.stack, stack := cenv :: X.stack, ex := fp, fn := fun _ => false, pn := pn, xe := fun _ _ => False }
abbrev gEnv (X : Cx) (scope : Scope) (C : Addr) (code : Value) : PySem.Env := genEnv scope (cloFrom X.env.cells scope.names []) C code builtinsNs X.env
theorem over_gen {A : Around} {elt : Expr} {gens : List Comprehension} {scope : Scope} {pos : Pos} {it acc : Value} {env : PySem.Env} : A.over (.compLoop (.GeneratorExp elt gens scope pos) 0 it acc env) [] = A.deeper env := by
  first
    | rfl
    | (obtain ⟨hd, d, fr, gs, u⟩ := A; simp [Around.over, Around.deeper, marksOver, frameCount, unitsOf, envsOf, guardsOf, pushEnvs, pushGuards, Code.envs, Code.env?, Code.isFrame, Code.guards, Code.isGuard, Code.weight, Code.frames, Code.isCreation, Code.isCaller, Code.cUnits])
theorem over_gen0 {A : Around} {elt : Expr} {gens : List Comprehension} {scope : Scope} {pos : Pos} {it acc : Value} {env : PySem.Env} : A.over (.compStart (.GeneratorExp elt gens scope pos) 0 it acc env) [] = A.deeper env := by
  first
    | rfl
    | (obtain ⟨hd, d, fr, gs, u⟩ := A; simp [Around.over, Around.deeper, marksOver, frameCount, unitsOf, envsOf, guardsOf, pushEnvs, pushGuards, Code.envs, Code.env?, Code.isFrame, Code.guards, Code.isGuard, Code.weight, Code.frames, Code.isCreation, Code.isCaller, Code.cUnits])
theorem inv_same {X : Cx} {pins : List (Addr × Obj)} {σ : L2.St} {H : Hp} {s s' : Shared} (I : Inv X pins σ H s) (h : s'.heap = s.heap) (o : s'.os = s.os) (b : AllBare s'.gens) : Inv X pins σ H s' :=
  ⟨I.ok, o.trans I.os, b, by rw [h]; exact I.base, by rw [h]; exact I.loc, by rw [h]; exact I.cell, I.free, I.freeC, by rw [h]; exact I.pin, by rw [h]; exact I.hok, I.len⟩
section
variable {X : Cx} {pins : List (Addr × Obj)} {σ : L2.St} {H : Hp} {s : Shared}
theorem gen_start {scope : Scope} {own : List (Str × Nat)} {fp : List Addr} {code it : Value} {h' : Heap} {go : Obj} {g' : Array GenState} {tk : Nat} (I : Inv X pins σ H s) (ok : BlkOk X.N X.env.scope scope own) (hcell : ∀ y ∈ scope.names, y.2 ≠ .cell) (hN : X.N.Nodup)
    (hh : X.A.handled = none) (hfp : ∀ b ∈ fp, FpOk X pins H b ∧ b < s.heap.objs.size) (hns : h'.Ns s.heap.objs.size (fun y => if y = ".0" then some it else none)) (hsb : Heap.SameBut s.heap.objs.size (s.heap.push { cls := .type "frame", data := .dict #[] }) h')
    (hgo : ∀ v, go.data ≠ .cell v) (hg : AllBare g') (hgp : ∀ h : Heap, (h.push go).get? h.objs.size = some go) :
    Inv (gCx X s H (gEnv X scope s.heap.objs.size code) fp [(h'.objs.size, go)]) [] (wipe σ (own.map (·.2))) H { s with gens := g', toks := tk, heap := h'.push go } := by
  have hfree : ∀ y ∈ scope.names, y.2 = .free → ∃ c, X.env.cells.lookup y.1 = some c := fun y hy e => by
    rcases ok.free y hy e with k | k
    · exact I.ok.has _ (.inl k)
    · exact I.ok.has _ (.inr k)
  have hsz : h'.objs.size = s.heap.objs.size + 1 := by rw [hsb.1, Heap.size_push]
  have kp0 : ∀ b o, s.heap.get? b = some o → h'.get? b = some o := fun b o e => hsb.extBut b o (Nat.ne_of_lt (Heap.lt_size e)) (Heap.get?_push_of_some _ e)
  have kp : ∀ b o, s.heap.get? b = some o → (h'.push go).get? b = some o := fun b o e => Heap.get?_push_of_some _ (kp0 b o e)
  generalize hcenv : gEnv X scope s.heap.objs.size code = cenv
  have hL : cenv.locals = s.heap.objs.size := by rw [← hcenv]; rfl
  have hcl : cenv.cells = cloFrom X.env.cells scope.names [] := by rw [← hcenv]; rfl
  have hsc : cenv.scope = scope := by rw [← hcenv]; rfl
  have cm : ∀ {y c}, (y, c) ∈ cloFrom X.env.cells scope.names [] → X.env.cells.lookup y = some c ∧ c < s.heap.objs.size := fun {y c} hm => by
    rcases cloFrom_mem hm with hm | ⟨h1, rfl⟩
    · cases hm
    · obtain ⟨c, hc⟩ := hfree _ h1 rfl
      rw [hc]
      obtain ⟨w, z⟩ := I.cell _ _ hc
      exact ⟨rfl, z.lt⟩
  have mem : ∀ {y c}, cenv.cells.lookup y = some c → X.env.cells.lookup y = some c ∧ c < s.heap.objs.size := fun {y c} e => by
    rw [hcl] at e
    exact cm (PySem.mem_of_lookup e)
  have look : ∀ {y}, scope.names.lookup y = some .free → ∃ c, cenv.cells.lookup y = some c ∧ X.env.cells.lookup y = some c := fun {y} hl => by
    have hy : (y, NameKind.free) ∈ scope.names := PySem.mem_of_lookup hl
    obtain ⟨c', e'⟩ := mem_lookup (cloFrom_has (cells := X.env.cells) (acc := []) hy)
    rw [← hcl] at e'
    exact ⟨c', e', (mem e').1⟩
  have kindOf : ∀ y, cenv.kindOf y = scope.names.lookup y := fun y => by unfold Env.kindOf; rw [hsc]
  have okB : (gCx X s H cenv fp [(h'.objs.size, go)]).Ok := by
    refine ⟨I.ok.mod, by show cenv.scope.kind = _; rw [hsc]; exact ok.kind, by show cenv.globals = _; rw [← hcenv]; exact I.ok.glob, by show cenv.builtins = _; rw [← hcenv]; rfl, by show s.heap.objs.size ≤ cenv.locals; rw [hL]; exact Nat.le_refl _,
      fun y z c e1 e2 => ?_, fun y hy => ?_, fun y c z e => (by cases z), fun _ => hh, ?_, .inr ⟨rfl, ?_⟩, fun b hb => ⟨?_, fun y c e z => ?_⟩, I.bs, Nat.le_trans I.ok.bsz I.sz, fun b o e hb => ?_, fun b hb z => ?_, I.stack, I.stkFree⟩
    · exact I.ok.inj y z c (mem e1).1 (mem e2).1
    · rcases hy with hy | hy
      · have hy : cenv.kindOf y = some .cell := hy
        rw [kindOf] at hy
        exact absurd rfl (hcell _ (PySem.mem_of_lookup hy))
      · have hy : cenv.kindOf y = some .free := hy
        rw [kindOf] at hy
        obtain ⟨c, h1, _⟩ := look hy
        exact ⟨c, h1⟩
    · exact Around.frames_deeper (show (wakeA X.A).frames = some X.stack from I.ok.frames)
    · show cenv.frame = some cenv.locals
      rw [← hcenv]
      rfl
    · show b ≠ cenv.locals
      rw [hL]; exact Nat.ne_of_lt (hfp b hb).2
    · exact (hfp b hb).1.2.2.2.2.1 y c (mem e).1 z
    · rcases (hfp b hb).1.2.2.2.1 with z | z
      · exact I.ok.noex b o e z
      · exact absurd (Nat.lt_of_lt_of_le (Heap.lt_size e) (Nat.le_trans I.ok.bsz z)) (Nat.lt_irrefl _)
    · rcases List.mem_cons.mp (I.stkSub b z) with z | z
      · exact (hfp b hb).1.2.1 z
      · exact (hfp b hb).1.2.2.1 z
  have fresh : ∀ b, s.heap.objs.size ≤ b → H b = none := fun b hb => I.hok.fresh hb
  refine ⟨okB, rfl, hg, Un.kept kp, ⟨fun y => if y = ".0" then some it else none, ?_, fun i y av e1 e2 e3 => ?_⟩, fun y c e => ?_, ?_, fun y c e => ?_, fun p hp => ?_, I.hok.kept kp, by rw [wipe_length]; exact I.len⟩
  · show Heap.Ns _ cenv.locals _
    rw [hL]
    exact hns.push _
  · obtain ⟨e2, hne⟩ := wipe_some e2
    have no : ¬ (scope.names.lookup y = some .local ∨ scope.names.lookup y = some .cell) := fun hh => by
      have key : ∀ k, scope.names.lookup y = some k → (k = .local ∨ k = .cell) → False := fun k hk hk' => by
        rcases ok.own _ (PySem.mem_of_lookup hk) hk' with e' | e'
        · obtain ⟨p, hp, hpy⟩ := List.mem_map.mp e'
          have e3 := ok.ix p hp
          have : p.1 = y := hpy
          rw [this] at e3
          exact hne (List.mem_map.mpr ⟨p, hp, nodup_ix hN e3 e1⟩)
        · exact e' (List.mem_of_getElem? e1)
      rcases hh with hh | hh
      · exact key _ hh (.inl rfl)
      · exact key _ hh (.inr rfl)
    have hfr : scope.names.lookup y = some .free := by
      have e3 : Vis cenv.scope y := e3
      rw [hsc] at e3
      rcases e3 with e3 | e3 | e3
      · exact absurd (.inl e3) no
      · exact absurd (.inr e3) no
      · exact e3
    obtain ⟨m, hn, hl⟩ := I.loc
    have hvis : Vis X.env.scope y := (ok.free _ (PySem.mem_of_lookup hfr) rfl).elim (fun k => .inr (.inl k)) (fun k => .inr (.inr k))
    obtain ⟨w, r, q⟩ := hl i y av e1 e2 hvis
    refine ⟨w, r, .inr ⟨.inr (by show cenv.kindOf y = _; rw [kindOf]; exact hfr), ?_⟩⟩
    obtain ⟨c, h1, h2⟩ := look hfr
    rcases q with ⟨k, _⟩ | ⟨_, c', e', z⟩
    · have k : X.env.scope.names.lookup y = some .local := k
      rcases ok.free _ (PySem.mem_of_lookup hfr) rfl with k' | k' <;> rw [show X.env.scope.names.lookup y = _ from k'] at k <;> cases k
    · rw [h2] at e'; cases e'
      exact ⟨c, h1, z.keeps kp⟩
  · obtain ⟨w, z⟩ := I.cell y c (mem e).1
    exact ⟨w, z.keeps kp⟩
  · show H cenv.locals = none
    rw [hL]; exact fresh _ (Nat.le_refl _)
  · exact I.freeC y c (mem e).1
  · have e : p = (h'.objs.size, go) := by
      have : p ∈ [(h'.objs.size, go)] ++ [] := hp
      simpa using this
    subst e
    refine ⟨hgp h', fresh _ (by rw [hsz]; exact Nat.le_succ _), ?_, ?_, hgo⟩
    · show h'.objs.size ≠ cenv.locals
      rw [hL, hsz]
      exact Nat.succ_ne_self _
    · intro hb
      have hb : h'.objs.size ∈ frs X.stack := hb
      rcases List.mem_cons.mp (I.stkSub _ hb) with z | z
      · have h1 := I.lt
        rw [← z, hsz] at h1
        exact absurd h1 (Nat.not_lt.mpr (Nat.le_succ _))
      · obtain ⟨_, o, ho, _⟩ := I.ok.funs.mem z
        have h1 := Nat.lt_of_lt_of_le (Heap.lt_size ho) I.sz
        rw [hsz] at h1
        exact absurd h1 (Nat.not_lt.mpr (Nat.le_succ _))
end
/-! ### the run -/
section
variable {X : Cx}
def GBack (X : Cx) (H3 : Hp) (s3 : Shared) (fp : List Addr) (a : Addr) (g : Nat) (H' : Hp) (s : Shared) : Prop :=
  s.os = s3.os ∧ AllBare s.gens ∧ Un (frs X.stack) fp H3 H' s3.heap s.heap ∧ HOk X.prog X.w H' s.heap ∧ s.heap.NoLimit ∧ s.heap.IsGen a g
def GYp (X : Cx) (H3 : Hp) (s3 : Shared) (fp : List Addr) (a : Addr) (g : Nat) (Q : VK) : Protocol := fun n s₀ v s kap =>
  ∃ (b : Bool) (H' : Hp), v = .bool b ∧ GBack X H3 s3 fp a g H' s ∧ (b = false → Q (.bl false) H') ∧ (b = true → ∀ s'' : Shared, s''.heap = s.heap → s''.os = s.os → AllBare s''.gens → kap (.send .none) s'')
def GEp (X : Cx) (H3 : Hp) (s3 : Shared) (fp : List Addr) (a : Addr) (g : Nat) (Q : VK) : Nat → Shared → Shared → Prop := fun n s₀ s => ∃ H', GBack X H3 s3 fp a g H' s ∧ Q (.bl true) H'
/-- what each turn asks -/
def GTurn (J : L2.It) (g : TG) (tt : TT) (te : TE) (vs : List Nat) (σ : L2.St) (Q : VK) (W : Nat → Nat → Hp → Prop) : Prop := ∀ i m H, W i m H →
  (J.stop i H ∧ Q (.bl true) H) ∨ (J.go i H ∧ ∃ Nx : Hp → Prop, (∀ H', Nx H' → ∃ m', m' < m ∧ W (i + 1) m' H') ∧ ∀ x H', J.yld i H x H' → g x (wipe σ vs) H' fun σ2 H2 => wipe σ2 vs = wipe σ vs ∧ tt σ2 H2 fun b H3 =>
    if b = true then te σ2 H3 fun y H4 => ∃ k, y = .bl k ∧ (if k = true then Nx H4 else Q (.bl false) H4) else Nx H3)
theorem seg_gl {A : Around} {elt tg iter : Expr} {ifs : List Expr} {scope : Scope} {own : List (Str × Nat)} {pos : Pos} {it a : Addr} {gi : Nat} {fp : List Addr} {tn : Nat → Heap → Prop} {J : L2.It} {g : TG} {tt : TT} {te : TE} {σ : L2.St} {H3 : Hp} {s3 : Shared} {code : Value} {go : Obj} {Q : VK} {W : Nat → Nat → Hp → Prop}
    (hA : A = wakeA X.A) (hc : X.calm = true) (hco : scope.isCoroutine = false) (T : Turn X.prog X.w X.K tg J fp it tn)
    (pg : PG (gCx X s3 H3 (gEnv X scope s3.heap.objs.size code) fp [(a, go)]) tg g) (pt : PTs (gCx X s3 H3 (gEnv X scope s3.heap.objs.size code) fp [(a, go)]) ifs tt) (pe : PE (gCx X s3 H3 (gEnv X scope s3.heap.objs.size code) fp [(a, go)]) elt te)
    (hfp : ∀ b ∈ fp, a ≠ b) (hgen : ∀ h : Heap, h.get? a = some go → h.IsGen a gi)
    (turn : GTurn J g tt te (own.map (·.2)) σ Q W) :
    ∀ (m n i : Nat) (s₀ s : Shared) (H : Hp), m < n → W i m H → Inv (gCx X s3 H3 (gEnv X scope s3.heap.objs.size code) fp [(a, go)]) [] (wipe σ (own.map (·.2))) H s → tn i s.heap → (∀ b ∈ fp, H b = none) →
      Seg (model X.prog X.w) A (fun n s₀ r s₁ => r = .ok .next ∧ GEp X H3 s3 fp a gi Q n s₀ s₁) (GYp X H3 s3 fp a gi Q) n s₀
        (.compLoop (.GeneratorExp elt [⟨tg, iter, ifs, 0⟩] scope pos) 0 (.ref it) .none (gEnv X scope s3.heap.objs.size code))
        ((model X.prog X.w).den (.compLoop (.GeneratorExp elt [⟨tg, iter, ifs, 0⟩] scope pos) 0 (.ref it) .none (gEnv X scope s3.heap.objs.size code))) [] s := by
  subst hA
  generalize hce : gEnv X scope s3.heap.objs.size code = ce at pg pt pe ⊢
  have hov : (wakeA X.A).over (.compLoop (.GeneratorExp elt [⟨tg, iter, ifs, 0⟩] scope pos) 0 (.ref it) .none ce) [] = (gCx X s3 H3 ce fp [(a, go)]).A := over_gen
  have hcoE : ce.scope.isCoroutine = false := by rw [← hce]; exact hco
  have stat : ∀ {σ' : L2.St} {H' : Hp} {s' : Shared}, Inv (gCx X s3 H3 ce fp [(a, go)]) [] σ' H' s' → (∀ b ∈ fp, H' b = none) → ∀ b ∈ fp, FpOk (gCx X s3 H3 ce fp [(a, go)]) [] H' b := fun {σ' H' s'} I' hn b hb =>
    ⟨hn b hb, (I'.ok.exf b hb).1, I'.ok.exfs b hb, .inl hb, fun x c e => (I'.ok.exf b hb).2 x c e, fun p hp => by
      have e : p = (a, go) := by
        have : p ∈ [(a, go)] ++ [] := hp
        simpa using this
      rw [e]
      exact hfp b hb⟩
  have back : ∀ {pins : List (Addr × Obj)} {σ' : L2.St} {H' : Hp} {s' : Shared}, Inv (gCx X s3 H3 ce fp [(a, go)]) pins σ' H' s' → GBack X H3 s3 fp a gi H' s' := fun {pins σ' H' s'} I' =>
    ⟨I'.os, I'.bare, I'.base, I'.hok, I'.nolimit, hgen _ (I'.pin (a, go) (List.mem_append_left _ (by show (a, go) ∈ [(a, go)]; exact List.mem_cons_self))).1⟩
  intro m
  induction m using Nat.strongRecOn with
  | ind m ih =>
    intro n i s₀ s H hmn w I st hn
    show Seg _ (wakeA X.A) _ _ _ s₀ _ ((compTurn (.GeneratorExp elt [⟨tg, iter, ifs, 0⟩] scope pos) 0 (.ref it) .none ce).onRaise (leaving ce)) [] s
    rw [compTurn_gen, Sem.onRaise_eq_wrap]
    refine seg_bind_wrap (wpAny_standAt ?_)
    rcases turn i m H w with ⟨stop, qq⟩ | ⟨goo, Nx, hNx, step⟩
    · refine seg_bind_wrap ?_
      rw [hov]
      refine thnF (T.done (gCx X s3 H3 ce fp [(a, go)]) rfl rfl rfl hc i [] s _ H (fun _ _ => False) I (stat I hn) st stop) fun r s6 ⟨hr, I6⟩ => ?_
      subst hr
      exact seg_end (.ok .next) ⟨rfl, H, back I6, qq⟩
    · refine seg_bind_wrap ?_
      rw [hov]
      refine thnF (T.item (gCx X s3 H3 ce fp [(a, go)]) rfl rfl rfl hc i [] s _ H (fun _ _ => False) I (stat I hn) st goo) fun r s6 ⟨u, hr, h6⟩ => ?_
      subst hr
      refine seg_bind_wrap ?_
      rw [hov]
      refine thnF h6 fun _ s7 ⟨x, H7, I7, r7, y7, st7, n7⟩ => ?_
      have I7' := I7.pinned (stat I7 n7) (T.obj _ _ st7)
      refine seg_bind_wrap ?_
      rw [hov]
      refine thnF (pg.run _ s7 _ H7 x u _ I7' r7 (step x H7 y7)) fun _ s8 ⟨σ8, H8, I8, hw8, q8⟩ => ?_
      refine seg_bind_wrap ?_
      rw [hov]
      refine thnF (pt.run _ s8 σ8 H8 _ I8 q8) fun b s9 ⟨H9, I9, q9⟩ => ?_
      have fin : ∀ {s' : Shared} {H' : Hp} {n' : Nat} {s₀ : Shared}, Inv (gCx X s3 H3 ce fp [(a, go)]) ([] ++ pinsAt fp s7.heap) σ8 H' s' → Nx H' → m ≤ n' →
          Seg (model X.prog X.w) (wakeA X.A) (fun n s₀ r s₁ => r = .ok .next ∧ GEp X H3 s3 fp a gi Q n s₀ s₁) (GYp X H3 s3 fp a gi Q) n' s₀
            (.compLoop (.GeneratorExp elt [⟨tg, iter, ifs, 0⟩] scope pos) 0 (.ref it) .none ce) ((model X.prog X.w).den (.compLoop (.GeneratorExp elt [⟨tg, iter, ifs, 0⟩] scope pos) 0 (.ref it) .none ce)) [] s' := fun {s' H' n' s₀} I' nx hle => by
        obtain ⟨m', hm, w'⟩ := hNx H' nx
        have pin' : ∀ b ∈ fp, ∀ o, s7.heap.get? b = some o → s'.heap.get? b = some o ∧ H' b = none := fun b hb o e =>
          let z := I'.pin (b, o) (List.mem_append_right _ (List.mem_append_right _ (mem_pinsAt hb e)))
          ⟨z.1, z.2.1⟩
        have hl : (wipe σ (own.map (·.2))).length = σ8.length := by rw [← hw8, wipe_length]
        refine ih m' hm n' (i + 1) s₀ s' H' (by omega) w' ((I'.unpinned (pins := [])).weak hl (fun j v e => ?_)) (T.keep _ _ _ st7 fun b hb o e => (pin' b hb o e).1) fun b hb => ?_
        · rw [← hw8] at e
          exact (wipe_some e).1
        · obtain ⟨o, e, _⟩ := T.obj _ _ st7 b hb
          exact (pin' b hb o e).2
      cases b with
      | false =>
        simp only [Bool.false_eq_true, if_false] at q9 ⊢
        exact seg_again rfl (fin I9 q9 (by omega))
      | true =>
        simp only [if_true] at q9 ⊢
        have hy : ∀ v, yieldOut ce v = yieldValue v := fun v => by simp only [yieldOut, hcoE, Bool.false_eq_true, if_false]
        simp only [hy]
        rw [Sem.bind_eq_wrap', Sem.bind_eq_wrap', Sem.wrap_wrap, Sem.wrap_wrap]
        refine seg_wrap ?_
        rw [hov]
        refine thnF (pe.run _ s9 σ8 H9 _ I9 q9) fun z s10 ⟨yv, H10, I10, r10, k, ek, q10⟩ => ?_
        subst ek
        obtain rfl : z = Value.bool k := r10
        cases n with
        | zero => omega
        | succ n =>
          refine seg_at (seg_yield rfl rfl rfl ⟨k, H10, rfl, back I10, fun hk => ?_, fun hk s'' e1 e2 e3 => ?_⟩)
          · subst hk
            simpa using q10
          · subst hk
            rw [if_pos rfl] at q10
            exact seg_again rfl (fin (inv_same I10 e1 e2 e3) q10 (by omega))
theorem all_drain {A : Around} {H3 : Hp} {s3 : Shared} {fp : List Addr} {a : Addr} {g : Nat} {Q : VK} {R : Result → Shared → Prop} (hh : A.handled = none) (hd : A.depth < recursionLimit)
    (hend : ∀ s' H' b, GBack X H3 s3 fp a g H' s' → Q (.bl b) H' → R (.ok (.ret (.bool b))) s') :
    ∀ (n : Nat) (s : Shared), s.heap.IsGen a g → s.heap.NoLimit →
      (∃ gs, s.gens[g]? = some gs ∧ gs.Goes (model X.prog X.w) A.in1.in1 (fun n s₀ r s₁ => r = .ok .next ∧ GEp X H3 s3 fp a g Q n s₀ s₁) (GYp X H3 s3 fp a g Q) n (.send .none) (s.setGen g .running)) →
      codeAny (model X.prog X.w) A (.builtin "all.loop" ⟨[.ref a], []⟩) R s := by
  have keepB : ∀ {s₁ : Shared} {H' : Hp} {x : GenState} {h' : Heap}, GBack X H3 s3 fp a g H' s₁ → x.bare = true → (∀ b o, s₁.heap.get? b = some o → h'.get? b = some o) → GBack X H3 s3 fp a g H' { s₁.setGen g x with heap := h' } := fun {s₁ H' x h'} ⟨b1, b2, b3, b4, b5, b6⟩ hx hk =>
    ⟨b1, allBare_setGen b2 hx, b3.trans (Un.kept hk), b4.kept hk, b5.keeps hk, b6.keeps hk⟩
  intro n
  induction n with
  | zero =>
    intro s hg hl ⟨gs, hgs, hgo⟩
    refine codeAny_builtin F.entry_all_loop ?_
    rw [Around.under_plainId F.plain_all_loop _]
    show wpAny _ A.in1 (pyNext (.ref a) >>= _) _ _ s
    refine wpAny_bind (wpAny_pyNext_genexpQ (A := A.in1) hh hl hd hg hgs hgo (fun v s₁ gs' hb hv => ?_) (fun s₁ hp h' hk => ?_))
    · obtain ⟨b, H', rfl, bk, q1, q2⟩ := hv
      cases b with
      | true =>
        refine wpAny_bind (wpAny_holding (wpAny_truthy_bool ?_))
        exact (q2 rfl s₁ rfl rfl bk.2.1).elim
      | false =>
        refine wpAny_bind (wpAny_holding (wpAny_truthy_bool ?_))
        refine wpAny_bind (wpAny_letGo ?_)
        simp only [Bool.false_eq_true, if_false]
        exact wpAny_bind (wpAny_rule (wpAny_pure (hend _ H' false (keepB bk hb fun _ _ e => e) (q1 rfl))))
    · obtain ⟨H', bk, q⟩ := hp
      exact wpAny_bind (wpAny_rule (wpAny_pure (hend _ H' true (keepB bk rfl hk) q)))
  | succ n ih =>
    intro s hg hl ⟨gs, hgs, hgo⟩
    have hgl : g < s.gens.size := (Array.getElem?_eq_some_iff.mp hgs).1
    refine codeAny_builtin F.entry_all_loop ?_
    rw [Around.under_plainId F.plain_all_loop _]
    show wpAny _ A.in1 (pyNext (.ref a) >>= _) _ _ s
    refine wpAny_bind (wpAny_gsz (n := g + 1) hgl (wpAny_pyNext_genexpQ (A := A.in1) hh hl hd hg hgs hgo (fun v s₁ gs' hb hv => ?_) (fun s₁ hp h' hk => ?_)))
    · intro hsz
      obtain ⟨b, H', rfl, bk, q1, q2⟩ := hv
      cases b with
      | true =>
        refine wpAny_bind (wpAny_holding (wpAny_truthy_bool ?_))
        refine wpAny_bind (wpAny_letGo ?_)
        simp only [if_true]
        have hsz1 : g < s₁.gens.size := by
          have q : (s₁.setGen g gs').gens.size = s₁.gens.size := setGen_size _ _ _
          have hsz' : g + 1 ≤ (s₁.setGen g gs').gens.size := hsz
          omega
        refine wpAny_pure ⟨plainId_quiet F.plain_all_loop _, ih (s₁.setGen g gs') bk.2.2.2.2.2 bk.2.2.2.2.1 ⟨gs', setGen_at hsz1, ?_⟩⟩
        exact q2 rfl ((s₁.setGen g gs').setGen g .running) rfl rfl (allBare_setGen (allBare_setGen bk.2.1 hb) rfl)
      | false =>
        refine wpAny_bind (wpAny_holding (wpAny_truthy_bool ?_))
        refine wpAny_bind (wpAny_letGo ?_)
        simp only [Bool.false_eq_true, if_false]
        exact wpAny_bind (wpAny_rule (wpAny_pure (hend _ H' false (keepB bk hb fun _ _ e => e) (q1 rfl))))
    · intro _
      obtain ⟨H', bk, q⟩ := hp
      exact wpAny_bind (wpAny_rule (wpAny_pure (hend _ H' true (keepB bk rfl hk) q)))
/-- all(elt for tg in iter if ..), the def's table at P -/
def tAll (P : Addr) (wi : TI) (g : TG) (tt : TT) (te : TE) (vs : List Nat) : TE := fun σ H Q => wi σ H fun J H1 => TabG H1 P ∧ ∀ H2, Tabbed P H1 H2 → ∃ W : Nat → Nat → Hp → Prop, (∃ m, W 0 m H2) ∧ GTurn J g tt te vs σ Q W
theorem pe_all {c P : Addr} {elt tg iter : Expr} {ifs : List Expr} {scope : Scope} {own : List (Str × Nat)} {p pos gpos : Pos} {wi : TI} {g : TG} {tt : TT} {te : TE}
    (hc : X.calm = true) (hd : X.A.depth < recursionLimit) (hN : X.N.Nodup) (hg : Gl X "all") (hm : X.mg "all" = none) (TB : TabB X.base X.mg c P) (hcode : X.env.code = .ref c) (hi : PI X tg iter wi) (ok : BlkOk X.N X.env.scope scope own)
    (hco : scope.isCoroutine = false) (hcell : ∀ y ∈ scope.names, y.2 ≠ .cell) (hdot : scope.names.lookup (".0" : Str) = some NameKind.local)
    (hpg : ∀ (s : Shared) (H : Hp) (C : Addr) (code : Value) (fp : List Addr) (pn : List (Addr × Obj)), PG (gCx X s H (gEnv X scope C code) fp pn) tg g) (hpt : ∀ (s : Shared) (H : Hp) (C : Addr) (code : Value) (fp : List Addr) (pn : List (Addr × Obj)), PTs (gCx X s H (gEnv X scope C code) fp pn) ifs tt)
    (hpe : ∀ (s : Shared) (H : Hp) (C : Addr) (code : Value) (fp : List Addr) (pn : List (Addr × Obj)), PE (gCx X s H (gEnv X scope C code) fp pn) elt te)
    (hs : ∀ v, genFold iter X.env v = pure v)
    (he : starEach [.GeneratorExp elt [⟨tg, iter, ifs, 0⟩] scope gpos] X.env = (false, eval (.GeneratorExp elt [⟨tg, iter, ifs, 0⟩] scope gpos) X.env) :: starEach [] X.env := by rfl) :
    PE X (.Call (.Name "all" p) [.GeneratorExp elt [⟨tg, iter, ifs, 0⟩] scope gpos] [] pos) (tAll P wi g tt te (own.map (·.2))) := by
  refine ⟨fun pins s σ H Q I h => ?_⟩
  have hh : X.A.handled = none := I.ok.hd hc
  have hfree : ∀ y ∈ scope.names, y.2 = .free → ∃ c, X.env.cells.lookup y.1 = some c := fun y hy e => by
    rcases ok.free y hy e with k | k
    · exact I.ok.has _ (.inl k)
    · exact I.ok.has _ (.inr k)
  refine wpAny_Call_Name_kw (ld_blt I hg hm (show bootBuiltins "all" = some (.builtin "all") by decide +kernel) ?_)
  refine PyProof.Rows.callWith_builtin1 ?_ he (by rfl)
  rw [he]
  show wpAny _ _ (spliced ((false, eval (.GeneratorExp elt [⟨tg, iter, ifs, 0⟩] scope gpos) X.env) :: backTo pos (starEach [] X.env))) _ _ s
  refine Calls.spliced_cons ?_
  refine wpAny_GeneratorExp_make hco (closure_ok hfree) hcell hdot ok.kind hd (thn (hi.run pins s σ H _ I h) fun xv s1 hx => thn hx fun itv s2 h2 => ?_) hs
  obtain ⟨it, fp, tn, J, H2, e, I2, T, st2, f2, ⟨ps, hP, ht⟩, q⟩ := h2
  subst e
  refine ⟨I2.nolimit, ?_⟩
  have hPs : s2.heap.get? P = some { cls := .none, data := .fields ps } := I2.hok P _ hP
  have cd : PySem.W.CodeHd s2.heap c P := TB.code.keeps fun b u e => I2.bk b u e
  have sz : ∀ b ∈ fp, b < s2.heap.objs.size := fun b hb => by
    obtain ⟨o, e, _⟩ := T.obj _ _ st2 b hb
    exact Heap.lt_size e
  have nfP : ∀ b ∈ fp, b ≠ P := fun b hb z => by
    have := (f2 b hb).1
    rw [z, hP] at this
    cases this
  -- behind the code object
  have cont : ∀ (code : Value) (h3 : Heap) (tk : Nat) (ps' : Array Value), Heap.ExtBut P s2.heap h3 → s2.heap.objs.size ≤ h3.objs.size → h3.get? P = some { cls := .none, data := .fields ps' } → (∃ more, ps' = ps ++ more) → TriplesOk ps'.toList →
      wpAny (model X.prog X.w) X.A (builtinsFor X.env.globals X.env.builtins) (fun bi s₄ => ∀ h', h'.Ns s₄.heap.objs.size (fun y => if y = ".0" then some (.ref it) else none) → Heap.SameBut s₄.heap.objs.size (s₄.heap.push { cls := .type "frame", data := .dict #[] }) h' →
        wpAny (model X.prog X.w) X.A (spliced (backTo pos (starEach [] X.env))) (fun vs s₁ => wpAny (model X.prog X.w) X.A (call (.builtin "all") (Value.ref h'.objs.size :: vs)) (EP X pins σ Q) X.xe s₁) X.xe { s₄ with
            gens := s₄.gens.push (.fresh (.compStart (.GeneratorExp elt [⟨tg, iter, ifs, 0⟩] scope gpos) 0 (.ref it) .none (genEnv scope (cloFrom X.env.cells scope.names []) s₄.heap.objs.size code bi X.env))),
            toks := s₄.toks + 1 + 1 + 1,
            heap := h'.push { cls := .type "generator", data := .fields #[.int s₄.gens.size 0, .str "<genexpr>" (s₄.toks + 1), .str (X.env.qual ++ "<genexpr>") (s₄.toks + 1 + 1)] } }) X.xe { s2 with heap := h3, toks := tk } := by
    intro code h3 tk ps' hx hsz hP3 hmore ht3
    obtain ⟨bm, ob, e1, e2, e3, e4, e5, e6, e7, e8⟩ := TB.bm
    have keep3 : ∀ b u, b ≠ P → s2.heap.get? b = some u → h3.get? b = some u := fun b u hb e => hx b u hb e
    obtain ⟨more, em⟩ := hmore
    have I3 : Inv X pins σ (upd H2 P (.tbl (ps ++ more))) { s2 with heap := h3, toks := tk } := by
      have J3 := inv_tab (more := more) (h' := h3) (g' := s2.gens) (d' := s2.drawn) (t' := tk) I2 hP keep3 (by rw [← em]; exact hP3) I2.bare
      exact J3
    refine wpAny_builtinsFor (m := X.mg) (by rw [I2.ok.glob]; exact (I2.mod.glob.keeps I2.bk).extBut hx TB.gP) e1 e2 (keep3 _ _ e4 (I2.bk _ _ e5)) e6 e7 e8 ?_
    intro h' hns hsb
    refine Calls.spliced_nil ?_
    generalize hs3 : ({ s2 with heap := h3, toks := tk } : Shared) = s3 at I3 hns hsb ⊢
    have eh3 : s3.heap = h3 := by rw [← hs3]
    obtain ⟨W, ⟨m0, w0⟩, turn⟩ := q (upd H2 P (.tbl (ps ++ more))) ⟨⟨ps ++ more, upd_same, by rw [← em]; exact ht3⟩, fun b hb => upd_ne hb⟩
    have f3 : ∀ b ∈ fp, FpOk X pins (upd H2 P (.tbl (ps ++ more))) b ∧ b < s3.heap.objs.size := fun b hb =>
      ⟨⟨by rw [upd_ne (nfP b hb)]; exact (f2 b hb).1, (f2 b hb).2⟩, by rw [eh3]; exact Nat.lt_of_lt_of_le (sz b hb) hsz⟩
    have st3 : tn 0 s3.heap := T.keep _ _ _ st2 fun b hb o e => by rw [eh3]; exact keep3 b o (nfP b hb) e
    generalize hH3 : upd H2 P (.tbl (ps ++ more)) = H3 at I3 w0 turn f3
    have hsz' : h'.objs.size = s3.heap.objs.size + 1 := by rw [hsb.1, Heap.size_push]
    have kp0 : ∀ b o, s3.heap.get? b = some o → h'.get? b = some o := fun b o e => hsb.extBut b o (Nat.ne_of_lt (Heap.lt_size e)) (Heap.get?_push_of_some _ e)
    generalize hgo : ({ cls := .type "generator", data := .fields #[.int s3.gens.size 0, .str "<genexpr>" (s3.toks + 1), .str (X.env.qual ++ "<genexpr>") (s3.toks + 1 + 1)] } : Obj) = go
    have goat : ∀ h : Heap, (h.push go).get? h.objs.size = some go := fun h => by
      rw [← hgo]
      exact Heap.get?_push_size _ rfl
    have gogen : ∀ h : Heap, h.get? h'.objs.size = some go → h.IsGen h'.objs.size s3.gens.size := fun h e => ⟨go, _, _, e, by rw [← hgo], by rw [← hgo], by rw [← hgo]⟩
    have I4 : ∀ (g' : Array GenState) (tk' : Nat), AllBare g' → Inv (gCx X s3 H3 (gEnv X scope s3.heap.objs.size code) fp [(h'.objs.size, go)]) [] (wipe σ (own.map (·.2))) H3 { s3 with gens := g', toks := tk', heap := h'.push go } := fun g' tk' hb =>
      gen_start (code := code) (it := .ref it) (own := own) I3 ok hcell hN hh f3 hns hsb (fun v z => by rw [← hgo] at z; cases z) hb goat
    have st4 : tn 0 (h'.push go) := T.keep _ _ _ st3 fun b hb o e => Heap.get?_push_of_some _ (kp0 b o e)
    have nf4 : ∀ b ∈ fp, H3 b = none := fun b hb => (f3 b hb).1.1
    have seg := seg_gl (A := wakeA X.A) (iter := iter) (ifs := ifs) (pos := gpos) (own := own) (σ := σ) (s3 := s3) (H3 := H3) (a := h'.objs.size) (gi := s3.gens.size) (code := code) (go := go) (Q := Q) (W := W) rfl hc hco T (hpg _ _ _ _ _ _) (hpt _ _ _ _ _ _) (hpe _ _ _ _ _ _)
      (fun b hb z => by have h1 := (f3 b hb).2; rw [← z, hsz'] at h1; exact absurd h1 (Nat.not_lt.mpr (Nat.le_succ _))) gogen turn
    -- the generator, ready
    have hbare : AllBare (s3.gens.push (.fresh (.compStart (.GeneratorExp elt [⟨tg, iter, ifs, 0⟩] scope gpos) 0 (.ref it) .none (gEnv X scope s3.heap.objs.size code)))) := AllBare.push I3.bare rfl
    refine call_function_tree F.kind_all F.plain_all F.entry_all (F.args_all1 _) ?_
    unfold Builtin.«all»
    refine wpAny_bind (wpAny_of_eq (a := Value.ref h'.objs.size) rfl ?_)
    refine wpAny_bind (wpAny_pyIter_gen (gogen _ (goat h')) ?_)
    refine wpAny_pure ⟨plainId_quiet F.plain_all_loop _, ?_⟩
    refine all_drain (X := X) (H3 := H3) (s3 := s3) (fp := fp) (g := s3.gens.size) (Q := Q) hh hd (fun s' H' b bk qb => ?_) (m0 + 1) _ (gogen _ (goat h')) ?_ ⟨_, Array.getElem?_push_size .., rfl, ?_⟩
    · obtain ⟨b1, b2, b3, b4, b5, b6⟩ := bk
      exact ⟨.bl b, H', I3.call' (ch := fp) b1 b3 b4 b2 (fun b hb => ⟨(f3 b hb).1.2.2.2.1, (f3 b hb).1.2.1, (f3 b hb).1.2.2.2.2.1, (f3 b hb).1.2.2.2.2.2⟩), rfl, qb⟩
    · exact (I4 _ 0 hbare).nolimit
    · -- the start
      show Seg _ (wakeA X.A) _ _ _ _ _ ((compStart (.GeneratorExp elt [⟨tg, iter, ifs, 0⟩] scope gpos) 0 (.ref it) .none (gEnv X scope s3.heap.objs.size code)).onRaise (leaving (gEnv X scope s3.heap.objs.size code))) [] _
      have loop : ∀ s₀ s : Shared, s.heap = h'.push go → s.os = s3.os → AllBare s.gens → Seg (model X.prog X.w) (wakeA X.A) (fun n s₀ r s₁ => r = .ok .next ∧ GEp X H3 s3 fp h'.objs.size s3.gens.size Q n s₀ s₁) (GYp X H3 s3 fp h'.objs.size s3.gens.size Q) (m0 + 1) s₀
          (.compLoop (.GeneratorExp elt [⟨tg, iter, ifs, 0⟩] scope gpos) 0 (.ref it) .none (gEnv X scope s3.heap.objs.size code)) ((model X.prog X.w).den (.compLoop (.GeneratorExp elt [⟨tg, iter, ifs, 0⟩] scope gpos) 0 (.ref it) .none (gEnv X scope s3.heap.objs.size code))) [] s := fun s₀ s e1 e2 e3 =>
        seg m0 (m0 + 1) 0 s₀ s H3 (Nat.lt_succ_self _) w0 (inv_same (I4 _ 0 hbare) e1 e2 e3) (by rw [e1]; exact st4) nf4
      unfold compStart
      rw [Sem.onRaise_eq_wrap]
      show Seg _ (wakeA X.A) _ _ _ _ _ ((ask >>= _).wrap _ _ _ _) [] _
      have bare2 := fun (x : GenState) (hx : x.bare = true) => allBare_setGen (s := { s3 with gens := s3.gens.push (.fresh (.compStart (.GeneratorExp elt [⟨tg, iter, ifs, 0⟩] scope gpos) 0 (.ref it) .none (gEnv X scope s3.heap.objs.size code))), toks := s3.toks + 1 + 1 + 1, heap := h'.push go }) (g := s3.gens.size) (x := x) hbare hx
      refine seg_bind_wrap (wpAny_askSetting ?_)
      split
      · exact seg_again rfl (loop _ _ rfl rfl (bare2 .running rfl))
      · refine seg_bind_wrap (wpAny_rule ?_)
        show Seg _ (wakeA X.A) _ _ _ _ _ ((standAt iter.pos >>= _).wrap _ _ _ _) [] _
        refine seg_bind_wrap (wpAny_standAt (seg_bind_wrap ?_))
        exact T.self _ 0 _ _ _ (show tn 0 (h'.push go) from st4) (seg_again rfl (loop _ _ rfl rfl (bare2 .running rfl)))
  cases hf : codeAmong gpos ps.toList with
  | none =>
    refine wpAny_genexprCodeX hcode (cd.code hPs ht) (cd.tab hPs) hf fun c' h' tk hx hge hlt hco' _ htab' _ => ?_
    obtain ⟨o1, vs, f1, tf, fl, tg, inF, tx, tt, op, _, _, _, _, _, _, _, _, _, htr, _⟩ := hco'
    exact cont _ h' tk _ hx (Nat.le_trans hge (Nat.le_of_lt hlt)) htab'.2 ⟨_, rfl⟩ htr
  | some cv =>
    refine wpAny_genexprCode_hit hcode (cd.code hPs ht) hf ?_
    exact cont cv s2.heap s2.toks ps (Heap.ExtBut.refl _ _) (Nat.le_refl _) hPs ⟨#[], by simp⟩ ht
end
end DN

set_option Elab.async false
set_option linter.all false
set_option maxRecDepth 100000
set_option maxHeartbeats 2000000
/-! D14: all of a generator expression, as a meaning. -/
namespace DN
open PySem PySem.Spec
open L2 hiding It
open PyProof.Rows hiding St
open GxR (TabB TabG Tabbed inv_tab sh_eta)
open Classical in
noncomputable def allGo (chk : Hs → Prop) (own : List Nat) (g : Tg) (t : M Bool) (e : M D) : List D → Env → Hs → R D
  | [], _, h => if chk h then .ok (.bl true) h else .no
  | x :: xs, σ, h => if chk h then (match g x (wipeE σ own) h with
    | .ok σ1 h1 => (match t σ1 h1 with
      | .ok true h2 => (match e σ1 h2 with
        | .ok (.bl true) h3 => allGo chk own g t e xs σ h3
        | .ok (.bl false) h3 => .ok (.bl false) h3
        | _ => .no)
      | .ok false h2 => allGo chk own g t e xs σ h2
      | _ => .no)
    | _ => .no) else .no
noncomputable def mAll (own : List Nat) (is : List Nat) (it : It) (t : M Bool) (e : M D) : M D := fun σ h => (it σ h).bind fun p h1 => allGo p.2 own (cTg is) t e p.1 σ h1
section
variable {X : Cx} {N : Nm} {W : WX} {m : M D} {t : M Bool} {it : DN.It} {elt tg iter : Expr} {ifs : List Expr} {scope : Scope} {own : List (Str × Nat)} {is : List Nat} {pos : Pos}
theorem RelH.tabbed {w : Wd} {h : Hs} {H H2 : Hp} {P : Addr} (r : RelH N w h H) (hP : P ∈ N.tb) (tt : Tabbed P H H2) : RelH N w h H2 := by
  obtain ⟨⟨z1, z2⟩, ps, z, t⟩ := r.tab P hP
  obtain ⟨⟨ps2, y1, y2⟩, y3⟩ := tt
  refine ⟨fun a o e => ?_, fun a o e => ?_, r.len, r.nod, r.sep, fun n a o e1 e2 => ?_, fun a fv e => ?_, fun P' hP' => ?_⟩
  · have ne : a ≠ P := fun y => by rw [y, z1] at e; cases e
    rw [y3 a ne]
    exact r.imm a o e
  · have ne : a ≠ P := fun y => by rw [y, z2] at e; cases e
    rw [y3 a ne]
    exact r.prv a o e
  · have ne : a ≠ P := fun y => by rw [y] at e1; exact absurd z (tab_io r e1)
    rw [y3 a ne]
    exact r.obj n a o e1 e2
  · have q := r.kep a fv e
    have ne : a ≠ P := fun y => by rw [y, z] at q; cases q
    rw [y3 a ne]
    exact q
  · obtain ⟨q1, ps', q2, q3⟩ := r.tab P' hP'
    by_cases ne : P' = P
    · rw [ne] at q1 ⊢
      exact ⟨q1, ps2, y1, y2⟩
    · exact ⟨q1, ps', by rw [y3 P' ne]; exact q2, q3⟩
theorem td_all {P : Addr} (hP : P ∈ N.tb) (hx : N.Cold) {vs : List Nat} (hi : ∀ i ∈ is, i ∈ vs) (hk : isOk is = true) (σ : St) (H : Hp) (Q : VK) (tt : TD N (mAll vs is it t m) W σ H Q) : tAll P (TDI N it W) (gC N.K is) (TDt N t W0) (TD N m W0) vs σ H Q := by
  obtain ⟨w, ρ, h, r1, r2, p⟩ := tt
  refine TDg.imp (td_bind (m := it) r1 r2 p) fun J H1 ⟨w1, h1, x, l1, q1, q2, q3, p1⟩ => ?_
  obtain ⟨xs, chk⟩ := x
  have q3 : JOk N w1 J xs chk := q3
  have p1 : Post N (Rep N) W w1 σ Q (allGo chk vs (cTg is) t m xs ρ h1) := p1
  obtain ⟨_, ps, z, tz⟩ := q1.tab P hP
  refine ⟨⟨ps, z, tz⟩, fun H2 tb => ?_⟩
  have q1 := q1.tabbed hP tb
  refine ⟨fun i k H => ∃ w h, w1.le w ∧ RelH N w h H ∧ k = xs.length - i ∧ i ≤ xs.length ∧ Post N (Rep N) W w σ Q (allGo chk vs (cTg is) t m (xs.drop i) ρ h),
    ⟨xs.length, w1, h1, Wd.le.refl w1, q1, by omega, Nat.zero_le _, p1⟩, fun i k H2 tt => ?_⟩
  obtain ⟨w2, h2, l2, s1, rfl, hi2, p2⟩ := tt
  by_cases he : i = xs.length
  · subst he
    rw [List.drop_length] at p2
    unfold allGo at p2
    by_cases hc : chk h2
    · rw [if_pos hc] at p2
      exact .inl ⟨(q3 w2 h2 H2 _ (Wd.np_le l2) s1 hc).1 rfl, p2 w2 H2 (.bl true) (Wd.le.refl w2) s1 rfl⟩
    · rw [if_neg hc] at p2
      exact p2.elim
  · have hlt : i < xs.length := by omega
    rw [List.drop_eq_getElem_cons hlt] at p2
    unfold allGo at p2
    by_cases hc : chk h2
    · rw [if_pos hc] at p2
      obtain ⟨go, yld⟩ := (q3 w2 h2 H2 i (Wd.np_le l2) s1 hc).2 xs[i] (List.getElem?_eq_getElem hlt)
      refine .inr ⟨go, fun H' => ∃ w h, w1.le w ∧ RelH N w h H' ∧ Post N (Rep N) W w σ Q (allGo chk vs (cTg is) t m (xs.drop (i + 1)) ρ h), fun H' tt => ?_, fun x H' hy => ?_⟩
      · obtain ⟨w3, h3, y1, y2, y5⟩ := tt
        exact ⟨xs.length - (i + 1), by omega, w3, h3, y1, y2, rfl, hlt, y5⟩
      · obtain ⟨w3, l3, t1, t2⟩ := yld x H' hy
        have l13 := l2.trans l3
        have re3 : RelE N w3 (wipeE ρ vs) (wipe σ vs) := relE_wipe hx (q2.up l13) vs
        cases e1 : cTg is xs[i] (wipeE ρ vs) h2 with
        | xc c fs h' => rw [e1] at p2; exact p2.elim
        | no => rw [e1] at p2; exact p2.elim
        | ok ρ1 h3 =>
          rw [e1] at p2
          dsimp only at p2
          refine gC_ok hx t1 re3 t2 hi hk e1 fun σ2 re hw eh => ?_
          subst eh
          refine ⟨hw.trans wipe_wipe, w3, ρ1, h3, t1, re, ?_⟩
          cases e2 : t ρ1 h3 with
          | xc c fs h' => rw [e2] at p2; exact p2.elim
          | no => rw [e2] at p2; exact p2.elim
          | ok b h4 =>
            rw [e2] at p2
            try dsimp only at p2
            intro w4 H4 b' l4 u1 u2
            have u2 : b = b' := u2
            subst u2
            cases b with
            | false =>
              rw [if_neg (by simp)]
              exact ⟨w4, h4, l13.trans l4, u1, Post.up ((l3.trans l4)) p2⟩
            | true =>
              rw [if_pos rfl]
              dsimp only at p2
              refine ⟨w4, ρ1, h4, u1, re.up l4, ?_⟩
              cases e3 : m ρ1 h4 with
              | xc c fs h' => rw [e3] at p2; exact p2.elim
              | no => rw [e3] at p2; exact p2.elim
              | ok y h5 =>
                rw [e3] at p2
                try dsimp only at p2
                intro w5 H5 yv l5 u3 u4
                cases y with
                | bl k =>
                  obtain rfl := u4
                  refine ⟨k, rfl, ?_⟩
                  cases k with
                  | true =>
                    rw [if_pos rfl]
                    exact ⟨w5, h5, (l13.trans l4).trans l5, u3, Post.up ((l3.trans l4).trans l5) p2⟩
                  | false =>
                    rw [if_neg (by simp)]
                    exact p2 w5 H5 (.bl false) ((l3.trans l4).trans l5) u3 rfl
                | _ => exact p2.elim
    · rw [if_neg hc] at p2
      exact p2.elim
structure GenS (X : Cx) (N : Nm) (scope : Scope) (tg : Expr) (ifs : List Expr) (elt : Expr) (is : List Nat) (t : M Bool) (m : M D) : Prop where
  g : ∀ (s : Shared) (H : Hp) (C : Addr) (code : Value) (fp : List Addr) (pn : List (Addr × Obj)), PG (gCx X s H (gEnv X scope C code) fp pn) tg (gC X.K is)
  t : ∀ (s : Shared) (H : Hp) (C : Addr) (code : Value) (fp : List Addr) (pn : List (Addr × Obj)), PTs (gCx X s H (gEnv X scope C code) fp pn) ifs (TDt N t W0)
  e : ∀ (s : Shared) (H : Hp) (C : Addr) (code : Value) (fp : List Addr) (pn : List (Addr × Obj)), PE (gCx X s H (gEnv X scope C code) fp pn) elt (TD N m W0)
theorem snd_all {c P : Addr} {p gpos : Pos} (hP : P ∈ N.tb) (hx : N.Cold) (hK : X.K = N.K) (hc : X.calm = true) (hd : X.A.depth < recursionLimit) (hN : X.N.Nodup) (hg : Gl X "all") (hm : X.mg "all" = none) (TB : TabB X.base X.mg c P) (hcode : X.env.code = .ref c)
    (hi : PI X tg iter (TDI N it W)) (ok : BlkOk X.N X.env.scope scope own) (hco : scope.isCoroutine = false) (hcell : ∀ y ∈ scope.names, y.2 ≠ .cell) (hdot : scope.names.lookup (".0" : Str) = some NameKind.local) (hb : GenS X N scope tg ifs elt is t m) (hin : ∀ i ∈ is, i ∈ own.map (·.2)) (hk : isOk is = true)
    (hs : ∀ v, genFold iter X.env v = pure v) : PE X (.Call (.Name "all" p) [.GeneratorExp elt [⟨tg, iter, ifs, 0⟩] scope gpos] [] pos) (TD N (mAll (own.map (·.2)) is it t m) W) :=
  pe_imp (pe_all hc hd hN hg hm TB hcode hi ok hco hcell hdot hb.g hb.t hb.e hs rfl) (by rw [hK]; exact td_all hP hx hin hk)
end
end DN

set_option Elab.async false
set_option linter.all false
set_option maxRecDepth 100000
set_option maxHeartbeats 4000000
/-! D15: an own exception whose __init__ says super().__init__(..) and stores its arguments: the __init__ as a def. -/
namespace DN
open PySem PySem.Spec PySem.W PySem.Calls
open L2 hiding It
open PyProof.Rows hiding St
/-- what the written part says of such a class C and its __init__ at fI -/
structure SupC (P : Program) (K : PySem.W.Frag) (C fI : Addr) (fd : FuncData) (ns : List Str) : Prop where
  t : OexC K C
  init : PySem.W.findIn K (.ref C) "__init__" = some (some (.ref fI))
  ty : PySem.W.typeIn K (.ref fI) = some (.type "function")
  fn : ∃ name qual params body scope dV kV doc pm an cda ct cc oc od osl, fd = ksFn name qual params body scope dV kV doc pm an (.ref cda) ct cc ∧ K.lookup fI = some ⟨oc, od, .func fd, osl⟩ ∧ PySem.W.codeIn K (.ref cda) qual = true ∧
    (∃ ccl cdd fvs ccs file tf, K.lookup cda = some ⟨ccl, cdd, .fields fvs, ccs⟩ ∧ fvs[2]? = some (.str file tf) ∧ ((P.main.file : Str) == file) = true) ∧
    (∃ cl cld csl, K.lookup cc = some ⟨cl, cld, .cell (some (.ref C)), csl⟩)
  mro : PySem.W.mroIn K C (.ref C) = some true
  opq : PySem.W.nsIn K cStatics "thirdparty.any" = some none
  sup : ks_superIn K C C "__init__" = some (some (.builtin "ValueError.__init__"))
  sub : PySem.W.subIn K (.ref C) (.type "ValueError") = some true
  no : ∀ n ∈ ns, PySem.W.findIn K (.ref C) n = some none
  top : (P.main.scope.names.lookup ("super" : Str)).isSome = false
/-- super().__init__ bound to e, called -/
theorem call_mw {prog : Program} {w : World} {A : Around} {E : Value → Shared → Prop} {h : Heap} {g : Array GenState} {d : Drawn} {t : Nat} {os : OsState} {nm q : Str} {C N : Addr} {bs bm : List Value} {hdct : Bool} {sn : List Str} {sub : List Value} {ab : Bool} {col : Option Bool} {dd : Option Addr} {k0 k1 k2 k3 k5 : Option Value}
    {u e t0 : Addr} {rest : List Value} {Q : Value → Shared → Prop}
    (hC : h.get? C = some (excClassObj nm q C N bs bm hdct sn sub ab col dd k0 k1 k2 k3 k5 "ValueError.__new__")) (he : h.get? e = some (HandSPX.excO C t0)) (hu : h.get? u = some (kxs_mw "ValueError.__init__" e)) (hrest : rest.length ≤ sizeLine)
    (hq : ∀ h' t1, (∀ b o, b ≠ e → h.get? b = some o → h'.get? b = some o) → h'.get? e = some (HandSPX.excO C t1) → Q .none ⟨h', g, d, t, os⟩) :
    wpAny (model prog w) A (call (.ref u) rest) Q E ⟨h, g, d, t, os⟩ := by
  refine wpAny_call (codeAny_of_tree ?_)
  show wpAny _ A.in1 (callAny (.ref u) ⟨rest, []⟩) _ _ _
  simp only [callAny]
  refine wpAny_bind (wpAny_load hu ?_)
  simp only [kxs_mw, show (Value.type "method-wrapper" == Value.type "method" || Value.type "method-wrapper" == Value.type "builtin_function_or_method" || Value.type "method-wrapper" == Value.type "method-wrapper") = true by decide, if_true]
  refine KFB.if_so (by decide) ?_
  refine wpAny_bind (check_bound_init PySem.F.excBase_ValueError.toExcCallFacts hC he rfl ?_)
  refine wpAny_bind (wpAny_pure (wpAny_pure ?_))
  refine ⟨plainId_quiet PySem.F.excBase_ValueError.init.plain _, codeAny_builtin PySem.F.excBase_ValueError.initEntry ?_⟩
  exact exc_init_tree (cls := .ref C) (t0 := t0) (dv := none) (c2 := .none) (c3 := .none) (b4 := .bool false) he hrest fun h' k e' _ => hq h' _ k e'
section
variable {P : Program} {w : World} {K : PySem.W.Frag} {C fI cc cda : Addr} {A : Around} {E : Value → Shared → Prop} {s : Shared} {mg mb m : Str → Option Value}
  {name qual : Str} {params : Arguments} {body : List Stmt} {scope : Scope} {dV kV doc pm ct : Value} {an : Option Addr} {L e t0 : Addr}
/-- the first row: super().__init__(args) -/
theorem sup_row {fd : FuncData} {ns : List Str} {args : List Expr} {us : List Value} {p0 p1 ap p2 p3 : Pos} {pl : Sem Bool} {Q : Flow → Shared → Prop} {x0 : Str} {oc : Value} {od : Option Addr} {osl : Array (Option Value)} {fvs : Array Value} {ccl : Value} {cdd : Option Addr} {ccs : Array (Option Value)} {file : Str} {tf : Tok} {cl : Value} {cld : Option Addr} {csl : Array (Option Value)}
    (S : SupC P K C fI fd ns) (X : K.In s.heap) (hG : s.heap.Ns mainGlobals mg) (hB : s.heap.Ns builtinsNs mb) (hmg : mg "super" = none) (hmb : mb "super" = some (.type "super"))
    (efd : fd = ksFn name qual params body scope dV kV doc pm an (.ref cda) ct cc) (hf : K.lookup fI = some ⟨oc, od, .func fd, osl⟩)
    (hcode : K.lookup cda = some ⟨ccl, cdd, .fields fvs, ccs⟩) (hvs : fvs[2]? = some (.str file tf)) (hfile : ((P.main.file : Str) == file) = true) (hcell : K.lookup cc = some ⟨cl, cld, .cell (some (.ref C)), csl⟩)
    (hp : ∃ ar, (params.posonlyargs ++ params.args).head? = some ar ∧ ar.arg = x0) (hks : scope.names.lookup ("super" : Str) = some .globalImplicit) (hkc : scope.names.lookup ("__class__" : Str) = some .free) (hka : scope.names.lookup x0 = some .local) (hk : scope.kind = .function)
    (hL : s.heap.Ns L m) (hself : m x0 = some (.ref e)) (hE : s.heap.get? e = some (HandSPX.excO C t0)) (hn : us.length ≤ sizeLine)
    (hne : ∀ h' : Heap, True) (hLe : L ≠ e)
    (he : eval (.Call (.Attribute (.Call (.Name "super" p0) [] [] p1) "__init__" ap) args [] p2) (ksEnv qual scope L fI (.ref cda) cc) = (do
      let ov ← attributeBase (.Call (.Name "super" p0) [] [] p1) "__init__" (ksEnv qual scope L fI (.ref cda) cc) (eval (.Call (.Name "super" p0) [] [] p1) (ksEnv qual scope L fI (.ref cda) cc))
      standAt ap.atName
      let (f, first) ← holding [ov] (getMethod ov "__init__" pl)
      callWith p2 f first (backTo p2 (starEach args (ksEnv qual scope L fI (.ref cda) cc))) []))
    (hargs : ∀ (s1 : Shared) (Q' : Args → Shared → Prop) (f : Value), s1.heap.Ns L m → Q' ⟨us, []⟩ s1 → wpAny (model P w) A (evalArgs f true (backTo p2 (starEach args (ksEnv qual scope L fI (.ref cda) cc))) []) Q' E s1)
    (hpl : (backTo p2 (starEach args (ksEnv qual scope L fI (.ref cda) cc))).any (·.1) = false)
    (h : ∀ h' t1 tk', (∀ b o, b ≠ e → s.heap.get? b = some o → h'.get? b = some o) → h'.get? e = some (HandSPX.excO C t1) → Q .next { s with heap := h', toks := tk' }) :
    PySem.wpAt (model P w) A (.func body (ksEnv qual scope L fI (.ref cda) cc)) (exec (.Expr (.Call (.Attribute (.Call (.Name "super" p0) [] [] p1) "__init__" ap) args [] p2) p3) (ksEnv qual scope L fI (.ref cda) cc)) Q E s := by
  obtain ⟨hh, g, d, t, os⟩ := s
  obtain ⟨nm, q, N, bs, bm, sn, sub, ab, col, dd, k0, k1, k2, k3, k5, hC, hbm⟩ := S.t.cls
  have hCat : hh.get? C = some (excClassObj nm q C N bs bm true sn sub ab col dd k0 k1 k2 k3 k5 "ValueError.__new__") := X _ _ hC
  have hcl : PySem.W.clsIn K C = some { name := nm, bases := bs, mro := .ref C :: bm, ns := N, qualname := q, hasDict := true, slotNames := sn, subclasses := sub, abstract := ab, collection := col, hasDel := false } := by unfold PySem.W.clsIn; rw [hC] <;> rfl
  have I : InstAt hh e (HandSPX.excO C t0) C none := ⟨hE, rfl, rfl, trivial⟩
  refine ks_wpAt_Expr_any (ks_wpAt_MethodCall ?_ he) (hi := by unfold interactive; rw [show (ksEnv qual scope L fI (.ref cda) cc).scope.kind = .function from hk]; rfl) (hs := by rfl)
  subst efd
  obtain ⟨ar, hp1, hp2⟩ := hp
  subst hp2
  refine ks_wpAt_super_base (env := ksEnv qual scope L fI (.ref cda) cc) hks hkc (by decide) rfl (X _ _ hf) rfl hp1 rfl (X _ _ hcode) rfl hvs hfile S.top ?_
  refine ks_loadName_global hk hks (loadGlobal_builtin (env := ksEnv qual scope L fI (.ref cda) cc) hG hmg hB hmb ⟨rfl, ?_⟩)
  refine wpAny_loadName_free hk hkc rfl ⟨_, X _ _ hcell, rfl⟩ ?_
  refine wpAny_loadName_local hk hka hL hself ?_
  refine ks_wpAny_isType_cls hCat rfl ⟨rfl, ?_⟩
  refine ks_wpAny_call_super hCat rfl hE rfl (fun c z => by cases z) (looks_mroIn X S.mro) (fun h1 e1 k1' => ?_)
  have X1 : K.In h1 := X.keeps k1'
  have hE1 := k1' _ _ hE
  have sup := S.sup
  unfold ks_superIn at sup
  rw [hcl] at sup
  have I1 : InstAt h1 e (HandSPX.excO C t0) C none := ⟨hE1, rfl, rfl, trivial⟩
  refine kxs_getMethod kxs_ValueError e1 (looks_opaque X1 S.opq) (l₀ := .ref C :: bm) ?_ rfl X1 sup (I1.type.andThen (looks_subIn X1 S.sub)) (ks_ne X1 I1 hcl) (by decide) ?_
  · exact fun A Q E s k q => wpAny_bind ((looks_clsIn X1 hcl) A _ E s k (wpAny_pure q))
  · -- the call
    have k2' : ∀ b o, hh.get? b = some o → (h1.push (kxs_mw "ValueError.__init__" e)).get? b = some o := fun b o z => Heap.get?_push_of_some _ (k1' b o z)
    refine kxs_callWith (i := "ValueError.__init__") (x := e) hpl ?_
    refine hargs ⟨h1.push (kxs_mw "ValueError.__init__" e), g, d, t + 1, os⟩ _ _ (hL.keeps k2') ⟨Heap.get?_push_size _ rfl, ?_⟩
    refine call_mw (k2' _ _ hCat) (k2' _ _ hE) (Heap.get?_push_size _ rfl) hn (fun h' t1 k e' => ?_)
    exact h h' t1 _ (fun b o hb z => k b o hb (k2' b o z)) e'
/-- self.f = x, the first field -/
theorem sup_set1 {fd : FuncData} {ns : List Str} {env : PySem.Env} {c : Code} {x0 x f : Str} {q0 q1 q2 q3 : Pos} {u : Value} {Q : Flow → Shared → Prop} (S : SupC P K C fI fd ns) (hf : f ∈ ns) (X : K.In s.heap) (hk : env.scope.kind = .function) (hk0 : env.kindOf x0 = some .local) (hkx : env.kindOf x = some .local)
    (hL : s.heap.Ns env.locals m) (h0 : m x0 = some (.ref e)) (hx : m x = some u) (hd0 : (x0 == ("__debug__" : Str)) = false) (hdx : (x == ("__debug__" : Str)) = false) (hE : s.heap.get? e = some (HandSPX.excO C t0))
    (h : ∀ h' tk' dx, (∀ b o, b ≠ e → s.heap.get? b = some o → h'.get? b = some o) → s.heap.objs.size ≤ dx → dx ≠ e → h'.get? e = some ({ cls := .ref C, dict := some dx, data := .fields #[.ref t0, .none, .none, .none, .bool false, .none] } : Obj) → h'.Ns1 dx (fun y => if y = f then some u else none) → Q .next { s with heap := h', toks := tk' }) :
    PySem.wpAt (model P w) A c (exec (.Assign [.Attribute (.Name x0 q0) f q1] (.Name x q2) q3) env) Q E s := by
  obtain ⟨hh, g, d, t, os⟩ := s
  obtain ⟨nm, q, N, bs, bm, sn, sub, ab, col, dd, k0, k1, k2, k3, k5, hC, hbm⟩ := S.t.cls
  have hcl : PySem.W.clsIn K C = some { name := nm, bases := bs, mro := .ref C :: bm, ns := N, qualname := q, hasDict := true, slotNames := sn, subclasses := sub, abstract := ab, collection := col, hasDel := false } := by unfold PySem.W.clsIn; rw [hC] <;> rfl
  refine ks_wpAt_Assign_Attr (wpAt_of_wpAny (wpAny_Name (wpAny_loadName_local hk hkx hL hx ?_) hdx)) (by rfl)
  refine wpAny_Name (wpAny_loadName_local hk hk0 hL h0 ?_) hd0
  refine PySem.W.set_plain X (ox := HandSPX.excO C t0) (od := none) ⟨hE, rfl, rfl, trivial⟩ S.t.sa ?_
  exact PySem.HandSPX.exc_osa X hE hcl (show PySem.HandSPX.refsVE (.ref C :: bm) = true from hbm) rfl (S.no f hf) fun h' tk' dx k dn dne hx hn => h h' tk' dx k dn dne hx hn
/-- self.f = x, a further field -/
theorem sup_set2 {fd : FuncData} {ns nl : List Str} {env : PySem.Env} {c : Code} {x0 x f : Str} {q0 q1 q2 q3 : Pos} {u : Value} {dx : Addr} {m0 : Str → Option Value} {Q : Flow → Shared → Prop} (S : SupC P K C fI fd ns) (hf : f ∈ ns) (X : K.In s.heap) (hk : env.scope.kind = .function) (hk0 : env.kindOf x0 = some .local) (hkx : env.kindOf x = some .local)
    (hL : s.heap.Ns env.locals m) (h0 : m x0 = some (.ref e)) (hx : m x = some u) (hd0 : (x0 == ("__debug__" : Str)) = false) (hdx : (x == ("__debug__" : Str)) = false)
    (hE : s.heap.get? e = some ({ cls := .ref C, dict := some dx, data := .fields #[.ref t0, .none, .none, .none, .bool false, .none] } : Obj)) (hns : s.heap.Ns1 dx m0) (hw : Within m0 nl) (hz : nl.length ≤ 1000)
    (h : ∀ h' tk', (∀ b o, b ≠ dx → s.heap.get? b = some o → h'.get? b = some o) → h'.Ns1 dx (fun y => if y = f then some u else m0 y) → Q .next { s with heap := h', toks := tk' }) :
    PySem.wpAt (model P w) A c (exec (.Assign [.Attribute (.Name x0 q0) f q1] (.Name x q2) q3) env) Q E s := by
  obtain ⟨hh, g, d, t, os⟩ := s
  obtain ⟨nm, q, N, bs, bm, sn, sub, ab, col, dd, k0, k1, k2, k3, k5, hC, hbm⟩ := S.t.cls
  have hcl : PySem.W.clsIn K C = some { name := nm, bases := bs, mro := .ref C :: bm, ns := N, qualname := q, hasDict := true, slotNames := sn, subclasses := sub, abstract := ab, collection := col, hasDel := false } := by unfold PySem.W.clsIn; rw [hC] <;> rfl
  obtain ⟨oD, _, _, hoD, _, _⟩ := hns.count hw
  refine ks_wpAt_Assign_Attr (wpAt_of_wpAny (wpAny_Name (wpAny_loadName_local hk hkx hL hx ?_) hdx)) (by rfl)
  refine wpAny_Name (wpAny_loadName_local hk hk0 hL h0 ?_) hd0
  refine PySem.W.set_plain X (ox := { cls := .ref C, dict := some dx, data := .fields #[.ref t0, .none, .none, .none, .bool false, .none] }) (od := some oD) ⟨hE, rfl, rfl, hoD⟩ S.t.sa ?_
  exact PySem.OEX.osa_old X hE hns hw hz hcl (show PySem.HandSPX.refsVE (.ref C :: bm) = true from hbm) rfl (S.no f hf) fun h' tk' k hn => h h' tk' k hn
end
/-! ### as a def -/
/-- the promise of such an __init__: the new exception gets its dict -/
def spX (C : Addr) (fs : List Str) : Sp := fun vs H Q _ => ∃ e ys, vs = .ref e :: ys ∧ ys.length = fs.length ∧ H e = some (exo e C none) ∧ ∀ dx, H dx = none → dx ≠ e → Q .non (upd (upd H dx (exd dx (fs.zip ys).reverse)) e (exo e C (some dx)))
theorem sup_fin {P : Program} {w : World} {outer : List PySem.Env} {H : Hp} {s : Shared} {Q : VK} {e dx C t1 : Addr} {fs : List (Str × V)} {mA : Str → Option Value} {h' : Heap} {tk : Nat} (hok : HOk P w H s.heap) (bare : AllBare s.gens) (he : H e = some (exo e C none)) (k : ∀ b o, b ≠ e → s.heap.get? b = some o → h'.get? b = some o) (hd : s.heap.objs.size ≤ dx) (hde : dx ≠ e)
    (hx : h'.get? e = some ({ cls := .ref C, dict := some dx, data := .fields #[.ref t1, .none, .none, .none, .bool false, .none] } : Obj)) (hn : h'.Ns1 dx mA) (r : ∀ f, RelO (fs.lookup f) (mA f)) (q : Q .non (upd (upd H dx (exd dx fs)) e (exo e C (some dx)))) :
    CE outer P w H s Q .none { s with heap := h', toks := tk } := by
  have hnd : H dx = none := hok.fresh hd
  have nd : ∀ {b : Addr} {o : Obj}, s.heap.get? b = some o → b ≠ dx := fun {b o} q => Nat.ne_of_lt (Nat.lt_of_lt_of_le (Heap.lt_size q) hd)
  have na : ∀ {b : Addr}, H b = none → b ≠ e := fun {b} n z => by
    rw [z, he] at n
    cases n
  refine ⟨.non, _, rfl, bare, ?_, fun b o q => ?_, rfl, q⟩
  · exact {
      keep := fun b o q n _ _ => k b o (na n) q
      slot := fun b o q n _ _ => ⟨o.slots, k b o (na n) q⟩
      free := fun b o q n _ => by rw [upd_ne (na n), upd_ne (nd q)]; exact n
      there := fun b o q _ => by
        by_cases hb : b = e
        · exact ⟨_, by rw [hb]; exact hx⟩
        · exact ⟨o, k b o hb q⟩
      tups := fun b xs q => by rw [upd_ne (at_ne he q exo_tup), upd_ne (ne_of_none q hnd)]; exact q
      frzs := fun b o v q => by rw [upd_ne (at_ne he q exo_frz), upd_ne (ne_of_none q hnd)]; exact q
      tbls := fun b ps q => ⟨#[], by rw [upd_ne (at_ne he q exo_tbl), upd_ne (ne_of_none q hnd), q]; simp⟩ }
  · by_cases hb : b = e
    · subst hb
      rw [upd_same] at q
      cases q
      exact exo_ok hx
    · rw [upd_ne hb] at q
      by_cases hd : b = dx
      · subst hd
        rw [upd_same] at q
        cases q
        exact exd_ok hn r
      · rw [upd_ne hd] at q
        exact (hok b o q).stay (fun c v hc z => k c v (by
            rcases hc with hc | hc
            · rw [hc]
              exact hb
            · exact at_ne he hc exo_own) z)
          (fun c hc => by rw [upd_ne (at_ne he hc exo_own), upd_ne (ne_of_none hc hnd)]; exact hc) (fun c xs hc => by rw [upd_ne (at_ne he hc exo_tup), upd_ne (ne_of_none hc hnd)]; exact hc)
section
variable {P : Program} {w : World} {K : PySem.W.Frag} {C fI : Addr} {mg : Str → Option Value} {base : Heap} {fd : FuncData}
/-- what the text of such an __init__ is: its scope -/
structure SupScope (ps : List Str) (params : Arguments) (scope : Scope) : Prop where
  hp : ∃ ar, (params.posonlyargs ++ params.args).head? = some ar ∧ some ar.arg = ps.head?
  sup : scope.names.lookup ("super" : Str) = some .globalImplicit
  cls : scope.names.lookup ("__class__" : Str) = some .free
  loc : ∀ x ∈ ps, scope.names.lookup x = some .local
  kind : scope.kind = .function
  co : scope.isCoroutine = false
  gen : scope.isGenerator = false
  cell : ∀ x ∈ scope.names, x.2 ≠ .cell
  dbg : ∀ x ∈ ps, (x == ("__debug__" : Str)) = false
  nd : ps.Nodup
theorem names1 {env : PySem.Env} {p2 q : Pos} {x : Str} {u : Value} {m : Str → Option Value} {M : Model} {A : Around} {E : Value → Shared → Prop} (hk : env.scope.kind = .function) (hkx : env.kindOf x = some .local) (hx : m x = some u) (hdx : (x == ("__debug__" : Str)) = false) {L : Addr} (hl : env.locals = L)
    (s1 : Shared) (Q' : Args → Shared → Prop) (f : Value) (hL : s1.heap.Ns L m) (hq : Q' ⟨[u], []⟩ s1) : wpAny M A (evalArgs f true (backTo p2 (starEach [.Name x q] env)) []) Q' E s1 := by
  show wpAny M A (evalArgs f true ((false, eval (.Name x q) env) :: []) []) Q' E s1
  refine evalArgs_plain (Calls.spliced_cons (wpAny_Name (wpAny_loadName_local hk hkx (by rw [hl]; exact hL) hx ?_) hdx))
  exact Calls.spliced_nil hq
theorem names2 {env : PySem.Env} {p2 q q' : Pos} {x y : Str} {u v : Value} {m : Str → Option Value} {M : Model} {A : Around} {E : Value → Shared → Prop} (hk : env.scope.kind = .function) (hkx : env.kindOf x = some .local) (hx : m x = some u) (hdx : (x == ("__debug__" : Str)) = false) (hky : env.kindOf y = some .local) (hy : m y = some v) (hdy : (y == ("__debug__" : Str)) = false) {L : Addr} (hl : env.locals = L)
    (s1 : Shared) (Q' : Args → Shared → Prop) (f : Value) (hL : s1.heap.Ns L m) (hq : Q' ⟨[u, v], []⟩ s1) : wpAny M A (evalArgs f true (backTo p2 (starEach [.Name x q, .Name y q'] env)) []) Q' E s1 := by
  show wpAny M A (evalArgs f true ((false, eval (.Name x q) env) :: (false, eval (.Name y q') env) :: []) []) Q' E s1
  refine evalArgs_plain (Calls.spliced_cons (wpAny_Name (wpAny_loadName_local hk hkx (by rw [hl]; exact hL) hx ?_) hdx))
  refine Calls.spliced_cons (wpAny_Name (wpAny_loadName_local hk hky (by rw [hl]; exact hL) hy ?_) hdy)
  exact Calls.spliced_nil hq
theorem relO1 {f : Str} {y : V} {u : Value} (ry : RelV y u) : ∀ g, RelO (([(f, y)] : List (Str × V)).lookup g) (if g = f then some u else none) := relO_put (fs := []) (mA := fun _ => none) ry fun g => True.intro
/-- one field -/
theorem sup_fn1 {CX : CXT} {k : Nat} {name qual : Str} {params : Arguments} {body : List Stmt} {scope : Scope} {x0 x1 f1 : Str} {p0 p1 ap p2 p3 a1 q0 q1 q2 q3 : Pos} {pl : PySem.Env → Sem Bool} (S : SupC P K C fI fd [f1]) (SS : SupScope [x0, x1] params scope) (hmg : mg "super" = none)
    (hfd : fd.name = name ∧ fd.qualname = qual ∧ fd.params = params ∧ fd.body = .stmts body ∧ fd.scope = scope)
    (hb : body = [.Expr (.Call (.Attribute (.Call (.Name "super" p0) [] [] p1) "__init__" ap) [.Name x1 a1] [] p2) p3, .Assign [.Attribute (.Name x0 q0) f1 q1] (.Name x1 q2) q3])
    (he : ∀ env : PySem.Env, eval (.Call (.Attribute (.Call (.Name "super" p0) [] [] p1) "__init__" ap) [.Name x1 a1] [] p2) env = (do
      let ov ← attributeBase (.Call (.Name "super" p0) [] [] p1) "__init__" env (eval (.Call (.Name "super" p0) [] [] p1) env)
      standAt ap.atName
      let (f, first) ← holding [ov] (getMethod ov "__init__" (pl env))
      callWith p2 f first (backTo p2 (starEach [.Name x1 a1] env)) [])) : FnOk P w K mg base CX (k + 1) fI fd [x0, x1] (spX C [f1]) := by
  refine ⟨fun vs H Q E ⟨e, ys, e1, e2, _⟩ => by rw [e1, List.length_cons, e2]; rfl, fun A outer s H args us vs Q E hr e0 hbt rv hsp => ?_⟩
  obtain ⟨e, ys, rfl, hy, hE, hq⟩ := hsp
  obtain ⟨name', qual', params', body', scope', dV, kV, doc, pm, an, cda, ct, cc, oc, od, osl, efd, hf, hcd, ⟨ccl, cdd, fvs, ccs, file, tf, hcode, hvs, hfile⟩, cl, cld, csl, hcell⟩ := S.fn
  obtain ⟨z1, z2, z3, z4, z5⟩ := hfd
  rw [efd] at z1 z2 z3 z4 z5
  have z4 : FuncBody.stmts body' = .stmts body := z4
  injection z4 with z4
  have z1 : name' = name := z1
  have z2 : qual' = qual := z2
  have z3 : params' = params := z3
  have z5 : scope' = scope := z5
  subst z1 z2 z3 z5
  rw [hb] at z4
  subst z4
  match ys, hy with
  | [y], _ =>
    cases rv with
    | cons r0 rv =>
      cases rv with
      | cons r1 rv =>
        cases rv
        rename_i u0 u1
        obtain rfl : u0 = Value.ref e := r0
        have X : K.In s.heap := e0.mod.kin.keeps fun b o z => (e0.bs b o z).1
        have lim : s.heap.NoLimit := e0.mod.nolimit.keeps fun b o z => (e0.bs b o z).1
        have hG : s.heap.Ns mainGlobals mg := e0.mod.glob.keeps fun b o z => (e0.bs b o z).1
        obtain ⟨mb, hB0, hmb⟩ := e0.mod.blt
        have hB : s.heap.Ns builtinsNs mb := hB0.keeps fun b o z => (e0.bs b o z).1
        obtain ⟨t0, hEo⟩ := exo_at e0.hok hE
        have l0 := SS.loc x0 (by simp)
        have l1 := SS.loc x1 (by simp)
        have d0 := SS.dbg x0 (by simp)
        have d1 := SS.dbg x1 (by simp)
        have ne : x1 ≠ x0 := fun z => by have := SS.nd; rw [z] at this; simp at this
        subst efd
        refine ks_codeAny_call_defAt hr.depth (X _ _ hf) rfl lim (PySem.W.codeRec_of X hcd) rfl hbt SS.cell (fun z hz => ?_) (fun h₀ hns hk => ?_) SS.co SS.gen SS.kind
        · exact SS.loc _ (List.of_mem_zip hz).1
        · have m0 : ([x0, x1].zip [Value.ref e, u1]).reverse.lookup x0 = some (.ref e) := by
            show List.lookup x0 [(x1, u1), (x0, Value.ref e)] = _
            have : (x0 == x1) = false := by simpa using Ne.symm ne
            simp [List.lookup, this]
          have m1 : ([x0, x1].zip [Value.ref e, u1]).reverse.lookup x1 = some u1 := by
            show List.lookup x1 [(x1, u1), (x0, Value.ref e)] = _
            simp [List.lookup]
          have Le : s.heap.objs.size ≠ e := Nat.ne_of_gt (Heap.lt_size hEo)
          have key := fun (Q : Flow → Shared → Prop) (E : Value → Shared → Prop) (h : _) => sup_row (w := w) (A := A.deeper (callEnv (ksFn name' qual' params' [.Expr (.Call (.Attribute (.Call (.Name "super" p0) [] [] p1) "__init__" ap) [.Name x1 a1] [] p2) p3, .Assign [.Attribute (.Name x0 q0) f1 q1] (.Name x1 q2) q3] scope' dV kV doc pm an (.ref cda) ct cc) s.heap.objs.size fI)) (Q := Q) (E := E) (p3 := p3) (s := { s with heap := h₀, toks := s.toks + ([x0, x1].zip [Value.ref e, u1]).length }) (L := s.heap.objs.size) (us := [u1]) S (X.keeps hk) (hG.keeps hk) (hB.keeps hk) hmg ((hmb _ (by decide)).trans (by decide +kernel)) rfl hf hcode hvs hfile hcell
            (by obtain ⟨ar, p1, p2⟩ := SS.hp; exact ⟨ar, p1, Option.some.inj p2⟩) SS.sup SS.cls l0 SS.kind hns m0 (hk _ _ hEo) (by show 1 ≤ sizeLine; decide) (fun _ => trivial) Le (he _)
            (fun s1 Q' f hL hq' => names1 (env := ksEnv qual' scope' s.heap.objs.size fI (.ref cda) cc) (L := s.heap.objs.size) SS.kind l1 m1 d1 rfl s1 Q' f hL hq') rfl h
          refine ks_wpAt_execs_cons ?_
          refine key _ _ fun h' t1 tk' k' hE' => ?_
          have keep : ∀ b o, b ≠ e → s.heap.get? b = some o → h'.get? b = some o := fun b o hb z => k' b o hb (hk b o z)
          have X' : K.In h' := fun b o z => keep b o (fun y => by
            have := X b o z
            rw [y, hEo] at this
            have q := (e0.mod.kin b o z)
            have q2 := (e0.bs b o q).2
            rw [y, hE] at q2
            cases q2) (X b o z)
          have hL' : h'.Ns s.heap.objs.size (fun x => ([x0, x1].zip [Value.ref e, u1]).reverse.lookup x) := by
            obtain ⟨o, es, ep, ho, r⟩ := hns
            exact ⟨o, es, ep, k' _ _ Le ho, r⟩
          refine ks_wpAt_execs_cons ?_
          refine sup_set1 (f := f1) S (by simp) X' SS.kind l0 l1 hL' m0 m1 d0 d1 hE' fun h2 tk2 dx k2 dn dne hx hn => ?_
          refine wpAt_of_wpAny (wpAny_execs_nil ?_)
          refine sup_fin (s := s) (fs := [(f1, y)]) e0.hok e0.bare hE (fun b o hb z => k2 b o hb (keep b o hb z)) (Nat.le_trans ?_ dn) dne hx hn (relO1 r1) (hq dx (e0.hok.fresh (Nat.le_trans ?_ dn)) dne)
          all_goals
            have q := hL'.lt
            exact Nat.le_of_lt q
/-- two fields -/
theorem sup_fn2 {CX : CXT} {k : Nat} {name qual : Str} {params : Arguments} {body : List Stmt} {scope : Scope} {x0 x1 x2 f1 f2 : Str} {p0 p1 ap p2 p3 a1 a2 q0 q1 q2 q3 r0 r1 r2 r3 : Pos} {pl : PySem.Env → Sem Bool} (S : SupC P K C fI fd [f1, f2]) (SS : SupScope [x0, x1, x2] params scope) (hmg : mg "super" = none) (hff : f1 ≠ f2)
    (hfd : fd.name = name ∧ fd.qualname = qual ∧ fd.params = params ∧ fd.body = .stmts body ∧ fd.scope = scope)
    (hb : body = [.Expr (.Call (.Attribute (.Call (.Name "super" p0) [] [] p1) "__init__" ap) [.Name x1 a1, .Name x2 a2] [] p2) p3, .Assign [.Attribute (.Name x0 q0) f1 q1] (.Name x1 q2) q3, .Assign [.Attribute (.Name x0 r0) f2 r1] (.Name x2 r2) r3])
    (he : ∀ env : PySem.Env, eval (.Call (.Attribute (.Call (.Name "super" p0) [] [] p1) "__init__" ap) [.Name x1 a1, .Name x2 a2] [] p2) env = (do
      let ov ← attributeBase (.Call (.Name "super" p0) [] [] p1) "__init__" env (eval (.Call (.Name "super" p0) [] [] p1) env)
      standAt ap.atName
      let (f, first) ← holding [ov] (getMethod ov "__init__" (pl env))
      callWith p2 f first (backTo p2 (starEach [.Name x1 a1, .Name x2 a2] env)) [])) : FnOk P w K mg base CX (k + 1) fI fd [x0, x1, x2] (spX C [f1, f2]) := by
  refine ⟨fun vs H Q E ⟨e, ys, e1, e2, _⟩ => by rw [e1, List.length_cons, e2]; rfl, fun A outer s H args us vs Q E hr e0 hbt rv hsp => ?_⟩
  obtain ⟨e, ys, rfl, hy, hE, hq⟩ := hsp
  obtain ⟨name', qual', params', body', scope', dV, kV, doc, pm, an, cda, ct, cc, oc, od, osl, efd, hf, hcd, ⟨ccl, cdd, fvs, ccs, file, tf, hcode, hvs, hfile⟩, cl, cld, csl, hcell⟩ := S.fn
  obtain ⟨z1, z2, z3, z4, z5⟩ := hfd
  rw [efd] at z1 z2 z3 z4 z5
  have z4 : FuncBody.stmts body' = .stmts body := z4
  injection z4 with z4
  have z1 : name' = name := z1
  have z2 : qual' = qual := z2
  have z3 : params' = params := z3
  have z5 : scope' = scope := z5
  subst z1 z2 z3 z5
  rw [hb] at z4
  subst z4
  match ys, hy with
  | [y, y'], _ =>
    cases rv with
    | cons rr0 rv =>
      cases rv with
      | cons rr1 rv =>
        cases rv with
        | cons rr2 rv =>
          cases rv
          rename_i u0 u1 u2
          obtain rfl : u0 = Value.ref e := rr0
          have X : K.In s.heap := e0.mod.kin.keeps fun b o z => (e0.bs b o z).1
          have lim : s.heap.NoLimit := e0.mod.nolimit.keeps fun b o z => (e0.bs b o z).1
          have hG : s.heap.Ns mainGlobals mg := e0.mod.glob.keeps fun b o z => (e0.bs b o z).1
          obtain ⟨mb, hB0, hmb⟩ := e0.mod.blt
          have hB : s.heap.Ns builtinsNs mb := hB0.keeps fun b o z => (e0.bs b o z).1
          obtain ⟨t0, hEo⟩ := exo_at e0.hok hE
          have l0 := SS.loc x0 (by simp)
          have l1 := SS.loc x1 (by simp)
          have l2 := SS.loc x2 (by simp)
          have d0 := SS.dbg x0 (by simp)
          have d1 := SS.dbg x1 (by simp)
          have d2 := SS.dbg x2 (by simp)
          have nd := SS.nd
          simp only [List.nodup_cons, List.mem_cons, List.not_mem_nil, or_false, not_or, not_false_eq_true, List.nodup_nil, and_true] at nd
          obtain ⟨⟨n1, n2⟩, n3⟩ := nd
          subst efd
          refine ks_codeAny_call_defAt hr.depth (X _ _ hf) rfl lim (PySem.W.codeRec_of X hcd) rfl hbt SS.cell (fun z hz => ?_) (fun h₀ hns hk => ?_) SS.co SS.gen SS.kind
          · exact SS.loc _ (List.of_mem_zip hz).1
          · have b01 : (x0 == x1) = false := by simpa using n1
            have b02 : (x0 == x2) = false := by simpa using n2
            have b12 : (x1 == x2) = false := by simpa using n3
            have m0 : ([x0, x1, x2].zip [Value.ref e, u1, u2]).reverse.lookup x0 = some (.ref e) := by
              show List.lookup x0 [(x2, u2), (x1, u1), (x0, Value.ref e)] = _
              simp [List.lookup, b01, b02]
            have m1 : ([x0, x1, x2].zip [Value.ref e, u1, u2]).reverse.lookup x1 = some u1 := by
              show List.lookup x1 [(x2, u2), (x1, u1), (x0, Value.ref e)] = _
              simp [List.lookup, b12]
            have m2 : ([x0, x1, x2].zip [Value.ref e, u1, u2]).reverse.lookup x2 = some u2 := by
              show List.lookup x2 [(x2, u2), (x1, u1), (x0, Value.ref e)] = _
              simp [List.lookup]
            have Le : s.heap.objs.size ≠ e := Nat.ne_of_gt (Heap.lt_size hEo)
            have key := fun (Q : Flow → Shared → Prop) (E : Value → Shared → Prop) (h : _) => sup_row (w := w) (A := A.deeper (callEnv (ksFn name' qual' params' [.Expr (.Call (.Attribute (.Call (.Name "super" p0) [] [] p1) "__init__" ap) [.Name x1 a1, .Name x2 a2] [] p2) p3, .Assign [.Attribute (.Name x0 q0) f1 q1] (.Name x1 q2) q3, .Assign [.Attribute (.Name x0 r0) f2 r1] (.Name x2 r2) r3] scope' dV kV doc pm an (.ref cda) ct cc) s.heap.objs.size fI)) (Q := Q) (E := E) (p3 := p3) (s := { s with heap := h₀, toks := s.toks + ([x0, x1, x2].zip [Value.ref e, u1, u2]).length }) (L := s.heap.objs.size) (us := [u1, u2]) S (X.keeps hk) (hG.keeps hk) (hB.keeps hk) hmg ((hmb _ (by decide)).trans (by decide +kernel)) rfl hf hcode hvs hfile hcell
              (by obtain ⟨ar, p1, p2⟩ := SS.hp; exact ⟨ar, p1, Option.some.inj p2⟩) SS.sup SS.cls l0 SS.kind hns m0 (hk _ _ hEo) (by show 2 ≤ sizeLine; decide) (fun _ => trivial) Le (he _)
              (fun s1 Q' f hL hq' => names2 (env := ksEnv qual' scope' s.heap.objs.size fI (.ref cda) cc) (L := s.heap.objs.size) SS.kind l1 m1 d1 l2 m2 d2 rfl s1 Q' f hL hq') rfl h
            refine ks_wpAt_execs_cons ?_
            refine key _ _ fun h' t1 tk' k' hE' => ?_
            have keep : ∀ b o, b ≠ e → s.heap.get? b = some o → h'.get? b = some o := fun b o hb z => k' b o hb (hk b o z)
            have kne : ∀ b o, K.lookup b = some o → b ≠ e := fun b o z y => by
              have q := (e0.mod.kin b o z)
              have q2 := (e0.bs b o q).2
              rw [y, hE] at q2
              cases q2
            have X' : K.In h' := fun b o z => keep b o (kne b o z) (X b o z)
            have hL' : h'.Ns s.heap.objs.size (fun x => ([x0, x1, x2].zip [Value.ref e, u1, u2]).reverse.lookup x) := by
              obtain ⟨o, es, ep, ho, r⟩ := hns
              exact ⟨o, es, ep, k' _ _ Le ho, r⟩
            refine ks_wpAt_execs_cons ?_
            refine sup_set1 (f := f1) S (by simp) X' SS.kind l0 l1 hL' m0 m1 d0 d1 hE' fun h2 tk2 dx k2 dn dne hx hn => ?_
            have sz : s.heap.objs.size ≤ h'.objs.size := Nat.le_of_lt hL'.lt
            have dL : s.heap.objs.size ≠ dx := Nat.ne_of_lt (Nat.lt_of_lt_of_le hL'.lt dn)
            have keep2 : ∀ b o, b ≠ e → s.heap.get? b = some o → h2.get? b = some o := fun b o hb z => k2 b o hb (keep b o hb z)
            have X2 : K.In h2 := fun b o z => keep2 b o (kne b o z) (X b o z)
            have hL2 : h2.Ns s.heap.objs.size (fun x => ([x0, x1, x2].zip [Value.ref e, u1, u2]).reverse.lookup x) := by
              obtain ⟨o, es, ep, ho, r⟩ := hL'
              exact ⟨o, es, ep, k2 _ _ Le ho, r⟩
            have rel1 := relO1 (f := f1) rr1
            refine ks_wpAt_execs_cons ?_
            refine sup_set2 (f := f2) (nl := [f1]) S (by simp) X2 SS.kind l0 l2 hL2 m0 m2 d0 d2 hx hn (within_of (fs := [(f1, y)]) rel1) (by show 1 ≤ 1000; decide) fun h3 tk3 k3 hn3 => ?_
            refine wpAt_of_wpAny (wpAny_execs_nil ?_)
            have ndx : ∀ b o, s.heap.get? b = some o → b ≠ dx := fun b o z => Nat.ne_of_lt (Nat.lt_of_lt_of_le (Heap.lt_size z) (Nat.le_trans sz dn))
            exact sup_fin (s := s) (fs := [(f2, y'), (f1, y)]) e0.hok e0.bare hE (fun b o hb z => k3 b o (ndx b o z) (keep2 b o hb z)) (Nat.le_trans sz dn) dne (k3 _ _ (Ne.symm dne) hx) hn3 (relO_put (fs := [(f1, y)]) rr2 rel1) (hq dx (e0.hok.fresh (Nat.le_trans sz dn)) dne)
end
end DN

set_option Elab.async false
set_option linter.all false
set_option maxRecDepth 100000
set_option maxHeartbeats 2000000
/-! D10: raise. -/
namespace DN
open PySem PySem.Spec
open L2 hiding It
open PyProof.Rows hiding St
section
variable {X : Cx} {N : Nm} {W : WX}
/-- C(), C an own class without __init__ -/
theorem pmk_own0 {C : Addr} {x : Str} {p pos : Pos} (q : PySem.W.excIn X.K C He.veBase "ValueError.__new__" = true) (gC : X.mg x = some (.ref C)) (kC : PySem.W.keepIn X.K (.ref C) = true) (r : Raises X (.ref C)) (hg : Gl X x)
    (hdb : (x == ("__debug__" : Str)) = false) : PMk X (.Call (.Name x p) [] [] pos) (fun _ H Q => Q (.ref C) none H) := by
  intro pins s σ H Q I h
  refine wpAny_Call_Name_kw (ld_glob I hg gC ?_ hdb)
  refine PySem.W.callWith_K0 I.kIn kC ?_
  show wpAny _ _ (call (.ref C) []) _ _ _
  obtain ⟨bm, N, nm, qn, bs, hdct, sn, sub, ab, col, dd, k0, k1, k2, k3, k5, mN, hC, hN, hni, T⟩ := exc_obj I.kIn q
  refine wpAny_call_exc_subT PySem.F.excBase_ValueError T hC hN hni (fun h' e hm => ?_) (Nat.zero_le _)
  exact mk_of I hm r h (I.hok.gone hm.new)
theorem snd_raise0 {i : Nat} {x : Str} {p pos pos' : Pos} (hc : X.calm = true) (tk : Takes X W) (q : PySem.W.excIn X.K (N.ca i) He.veBase "ValueError.__new__" = true) (gC : X.mg x = some (.ref (N.ca i))) (kC : PySem.W.keepIn X.K (.ref (N.ca i)) = true) (r : Raises X (.ref (N.ca i))) (hg : Gl X x)
    (hdb : (x == ("__debug__" : Str)) = false) : PS X (.Raise (some (.Call (.Name x p) [] [] pos)) none pos') (TDS N (sRaise i) W) := by
  exact ⟨fun pins s σ H Dn I ⟨w, ρ, h, r1, r2, z⟩ => (ps_raise hc tk (pmk_own0 q gC kC r hg hdb)).run pins s σ H Dn I (z w σ H (.ref (N.ca i)) none (Wd.le.refl w) r1 r2 ⟨rfl, rfl⟩)⟩
end
section
variable {X : Cx} {N : Nm} {W : WX}
/-- something new that the plain heap does not know -/
theorem RelH.extra {w : Wd} {h : Hs} {H : Hp} {p : Addr} {u : HO} (r : RelH N w h H) (hp : H p = none) : RelH N w h (upd H p u) := by
  have ne : ∀ {a : Addr} {o : HO}, H a = some o → a ≠ p := fun {a o} e y => by rw [y, hp] at e; cases e
  refine ⟨fun a o e => by rw [upd_ne (ne (r.imm a o e))]; exact r.imm a o e, fun a o e => by rw [upd_ne (ne (r.prv a o e).1)]; exact r.prv a o e, r.len, r.nod, r.sep, fun n a o e1 e2 => ?_, fun a fv e => by rw [upd_ne (ne (r.kep a fv e))]; exact r.kep a fv e, fun P hP => ?_⟩
  · have z := r.obj n a o e1 e2
    rw [upd_ne (fun y => ?_)]
    · exact z
    · rw [y, hp] at z
      cases o with
      | lst xs => obtain ⟨_, e, _⟩ := z; cases e
      | dct xs => obtain ⟨_, e, _⟩ := z; cases e
      | ins c xs => obtain ⟨_, _, e, _⟩ := z; cases e
  · obtain ⟨z1, ps, z, t⟩ := r.tab P hP
    exact ⟨z1, ps, by rw [upd_ne (ne z)]; exact z, t⟩
theorem repf_zip {w : Wd} : ∀ {ks : List Nat} {ds : List D} {vs : List V}, Reps N w ds vs → ds.length = ks.length → Repf N w (ks.zip ds) ((ks.map N.attr).zip vs)
  | [], [], _, r, _ => by
    obtain rfl := r
    rfl
  | k :: ks, d :: ds, _, r, l => by
    obtain ⟨v, vs, rfl, r1, r2⟩ := r
    exact ⟨v, _, rfl, r1, repf_zip r2 (Nat.succ.inj l)⟩
  | [], _ :: _, _, _, l => by cases l
  | _ :: _, [], _, _, l => by cases l
theorem repf_append {w : Wd} : ∀ {fs gs : List (Nat × D)} {us vs : List (Str × V)}, Repf N w fs us → Repf N w gs vs → Repf N w (fs ++ gs) (us ++ vs)
  | [], _, _, _, h, q => by
    have h : _ = [] := h
    subst h
    exact q
  | (k, x) :: fs, _, _, _, h, q => by
    obtain ⟨v, r, rfl, h1, h2⟩ := h
    exact ⟨v, _, rfl, h1, repf_append h2 q⟩
theorem repf_rev {w : Wd} : ∀ {fs : List (Nat × D)} {vs : List (Str × V)}, Repf N w fs vs → Repf N w fs.reverse vs.reverse
  | [], _, h => by
    have h : _ = [] := h
    subst h
    exact rfl
  | (k, x) :: fs, _, h => by
    obtain ⟨v, r, rfl, h1, h2⟩ := h
    rw [List.reverse_cons, List.reverse_cons]
    exact repf_append (repf_rev h2) ⟨v, [], rfl, h1, rfl⟩
/-- raise C(..), its __init__ stores its arguments -/
theorem snd_raiseX {i k : Nat} {ks : List Nat} {x : Str} {e : Expr} {es : List Expr} {ml : M (List D)} {p pos pos' : Pos} {fI : Addr} {fd : FuncData} {ps : List Str} (hc : X.calm = true) (tk : Takes X W) (T : OexC X.K (N.ca i)) (iC : PySem.W.findIn X.K (.ref (N.ca i)) "__init__" = some (some (.ref fI))) (tI : PySem.W.typeIn X.K (.ref fI) = some (.type "function"))
    (F1 : FnOk X.prog X.w X.K X.mg X.base (L2.CX X.prog X.w) k fI fd ps (spX (N.ca i) (ks.map N.attr))) (hr : Room (k + 1) X.A) (hb : Binds X.K fd ps []) (gC : X.mg x = some (.ref (N.ca i))) (hg : Gl X x) (hkn : ks ≠ []) (ha : PA X (e :: es) (TDs N ml W))
    (hdb : (x == ("__debug__" : Str)) = false) (he : starEach (e :: es) X.env = (false, eval e X.env) :: starEach es X.env) (hpl : (backTo pos (starEach es X.env)).any (·.1) = false) (hkl : ks.length ≤ 1000) :
    PS X (.Raise (some (.Call (.Name x p) (e :: es) [] pos)) none pos') (TDS N (sRaiseX i ks ml) W) := by
  have hx : Passes (L2.CX X.prog X.w) X (fun _ _ _ => False) := fun pins σ H s e s' I c => by
    obtain ⟨_, _, _, _, _, _, _, _, _, _, _, _, z⟩ := c
    exact z.elim
  refine ⟨fun pins s σ H Dn I t => (ps_raise hc tk (pmk_oex T iC tI F1 hr hb .nil hx hg gC ha hdb he hpl)).run pins s σ H Dn I ?_⟩
  obtain ⟨w, ρ, h, r1, r2, z⟩ := t
  refine TDg.imp (td_out (m := ml) r1 r2 z) fun vs H1 ⟨w1, h1, ds, l1, q1, q2, q3, p1⟩ => ?_
  by_cases hl : ds.length = ks.length
  · rw [if_pos hl] at p1
    refine ⟨by rw [q3.length, hl]; exact hkl, fun a ha => ?_⟩
    refine ⟨a, vs, by rw [List.append_nil], by rw [q3.length, hl, List.length_map], upd_same, fun dx hdx dne => ⟨rfl, dx, _, upd_same, by rw [upd_ne dne, upd_same], ?_, ?_⟩⟩
    · have z := hdx
      rw [upd_ne dne] at z
      exact z
    · have z := hdx
      rw [upd_ne dne] at z
      have eH : upd (del (upd (upd (upd H1 a (exo a (N.ca i) none)) dx (exd dx ((ks.map N.attr).zip vs).reverse)) a (exo a (N.ca i) (some dx))) a) dx (.xd ((ks.map N.attr).zip vs).reverse) = upd H1 dx (.xd ((ks.map N.attr).zip vs).reverse) := by
        funext b
        by_cases hbd : b = dx
        · rw [hbd, upd_same, upd_same]
        · rw [upd_ne hbd, upd_ne hbd]
          by_cases hba : b = a
          · rw [hba, del_same, ha]
          · rw [del_ne hba, upd_ne hba, upd_ne hbd, upd_ne hba]
      rw [eH]
      refine p1 w1 σ _ (.ref (N.ca i)) (some dx) (Wd.le.refl w1) (q1.extra z) q2 ⟨rfl, ?_⟩
      have rf := repf_rev (repf_zip q3 hl)
      cases e : (ks.zip ds).reverse with
      | nil =>
        exfalso
        have q := congrArg List.length e
        rw [List.length_reverse, List.length_zip, hl] at q
        simp at q
        exact hkn q
      | cons f fs =>
        rw [e] at rf
        exact ⟨dx, _, rfl, upd_same, rf⟩
  · rw [if_neg hl] at p1
    exact p1.elim
end
section
variable {X : Cx} {N : Nm} {W : WX}
theorem snd_par {i j : Nat} {x y : Str} {a b : Expr} {ml : M (List D)} {px py pt pos : Pos} {kt k2 pt2} (hxs : N.xs = none) (hc : X.calm = true) (hN : X.N.Nodup) (hi : X.N[i]? = some x) (hj : X.N[j]? = some y) (hij : i ≠ j)
    (hx : X.env.scope.names.lookup x = some .local) (hy : X.env.scope.names.lookup y = some .local) (ha : PA X [a, b] (TDs N ml W))
    (hw : swappedStores [.Tuple [.Name x px, .Name y py] kt pt] (.Tuple [a, b] k2 pt2) X.env = pure (some [x, y])) :
    PS X (.Assign [.Tuple [.Name x px, .Name y py] kt pt] (.Tuple [a, b] k2 pt2) pos) (TDS N (sPar i j ml) W) :=
  ps_imp (ps_par hc hN hi hj hij hx hy ha hw) fun Dn σ H t => by
    obtain ⟨w, ρ, h, r1, r2, p⟩ := t
    refine TDg.imp (td_out (m := ml) r1 r2 p) fun vs H1 ⟨w1, h1, ds, l1, q1, q2, q3, p1⟩ => ?_
    match ds, q3, p1 with
    | [u, v], q3, p1 =>
      obtain ⟨v1, r, rfl, h1', v2, r', rfl, h2', e⟩ := q3
      cases e
      exact ⟨v1, v2, rfl, p1 w1 _ H1 (Wd.le.refl w1) q1 ((q2.set hxs h1').set hxs h2')⟩
    | [], _, p1 => exact p1.elim
    | [_], _, p1 => exact p1.elim
    | _ :: _ :: _ :: _, _, p1 => exact p1.elim
end
end DN

set_option Elab.async false
set_option linter.all false
set_option maxRecDepth 100000
set_option maxHeartbeats 2000000
/-! D17: instances: fields, methods, making. -/
namespace DN
open PySem PySem.Spec
open L2 hiding It
open PyProof.Rows hiding St
/-- a field is put: in its place, or behind -/
def fput (k : Nat) (v : D) : List (Nat × D) → List (Nat × D)
  | [] => [(k, v)]
  | (j, x) :: r => if j = k then (j, v) :: r else (j, x) :: fput k v r
/-- the names of fields that are known -/
def fOk (na : Nat) (fs : List (Nat × D)) : Bool := fs.all fun q => decide (q.1 < na)
/-- o.f: ok tells the classes that have no such name -/
def mFld (na k : Nat) (ok : Nat → Bool) (m : M D) : M D := fun σ h => (m σ h).bind fun x h1 => match x with
  | .ref p => (match h1[p]? with
    | some (.ins c fs) => if ok c && (fOk na fs && decide (k < na)) then (match fs.lookup k with
      | some d => .ok d h1
      | none => .no) else .no
    | _ => .no)
  | _ => .no
/-- o.f = v -/
def sFldS (na k : Nat) (ok : Nat → Bool) (m o : M D) : B := fun σ h => (m σ h).out σ fun v h1 => (o σ h1).out σ fun x h2 => match x with
  | .ref p => (match h2[p]? with
    | some (.ins c fs) => if ok c && (fOk na fs && (decide (k < na) && decide (fs.length < 1000))) then .nx σ (h2.set p (.ins c (fput k v fs))) else .no
    | _ => .no)
  | _ => .no
/-- o.m(..): mt tells each class's def and its arity -/
def mMth1 (na : Nat) (C : Calls) (mt : Nat → Option (Nat × Nat)) (o : M D) (as : M (List D)) : M D := fun σ h => (o σ h).bind fun x h1 => match x with
  | .ref p => (match h1[p]? with
    | some (.ins c fs) => (match mt c with
      | some (f, ar) => if fOk na fs then (as σ h1).bind fun ds h2 => (if ds.length + 1 = ar then C f (.ref p :: ds) h2 else .no) else .no
      | none => .no)
    | _ => .no)
  | _ => .no
/-- C(..) -/
def mkEnd (p : Nat) : R D → R D
  | .ok .non h => .ok (.ref p) h
  | .xc c fs h => .xc c fs h
  | _ => .no
def mMake (C : Calls) (c f ar : Nat) (as : M (List D)) : M D := fun σ h => (as σ h).bind fun ds h1 => if ds.length + 1 = ar then mkEnd h1.length (C f (.ref h1.length :: ds) (h1 ++ [.ins c []])) else .no
section
variable {N : Nm}
theorem fOk_at {na : Nat} {fs : List (Nat × D)} (h : fOk na fs = true) : ∀ q ∈ fs, q.1 < na := fun q hq => of_decide_eq_true (List.all_eq_true.mp h q hq)
theorem repf_look {w : Wd} {na k : Nat} {d : D} (hk : k < na) (inj : ∀ i j, i < na → j < na → N.attr i = N.attr j → i = j) : ∀ {fs : List (Nat × D)} {fv : List (Str × V)}, Repf N w fs fv → (∀ q ∈ fs, q.1 < na) → fs.lookup k = some d → ∃ v, fv.lookup (N.attr k) = some v ∧ Rep N w d v
  | [], _, _, _, e => by cases e
  | (j, x) :: fs, _, r, hj, e => by
    obtain ⟨v, r', rfl, h1, h2⟩ := r
    by_cases hkj : k = j
    · subst hkj
      have e : some x = some d := by simpa [List.lookup] using e
      cases e
      exact ⟨v, by simp [List.lookup], h1⟩
    · have e1 : (k == j) = false := by simpa using hkj
      have e : fs.lookup k = some d := by simpa [List.lookup, e1] using e
      obtain ⟨v', h3, h4⟩ := repf_look hk inj h2 (fun q hq => hj q (List.mem_cons_of_mem _ hq)) e
      have e2 : (N.attr k == N.attr j) = false := by
        have : N.attr k ≠ N.attr j := fun z => hkj (inj k j hk (hj (j, x) List.mem_cons_self) z)
        simpa using this
      exact ⟨v', by simp [List.lookup, e2, h3], h4⟩
theorem repf_put {w : Wd} {na k : Nat} {d : D} {v : V} (hk : k < na) (inj : ∀ i j, i < na → j < na → N.attr i = N.attr j → i = j) (hv : Rep N w d v) : ∀ {fs : List (Nat × D)} {fv : List (Str × V)}, Repf N w fs fv → (∀ q ∈ fs, q.1 < na) → Repf N w (fput k d fs) (putF (N.attr k) v fv)
  | [], _, r, _ => by
    have r : _ = [] := r
    subst r
    exact ⟨v, [], rfl, hv, rfl⟩
  | (j, x) :: fs, _, r, hj => by
    obtain ⟨u, r', rfl, h1, h2⟩ := r
    unfold fput putF
    by_cases hkj : j = k
    · subst hkj
      rw [if_pos rfl, if_pos rfl]
      exact ⟨v, r', rfl, hv, h2⟩
    · rw [if_neg hkj, if_neg fun z => hkj (inj j k (hj (j, x) List.mem_cons_self) hk z)]
      exact ⟨u, _, rfl, h1, repf_put hk inj hv h2 fun q hq => hj q (List.mem_cons_of_mem _ hq)⟩
theorem repf_none {w : Wd} {na : Nat} {m : Str} (hm : ∀ i, i < na → N.attr i ≠ m) : ∀ {fs : List (Nat × D)} {fv : List (Str × V)}, Repf N w fs fv → (∀ q ∈ fs, q.1 < na) → fv.lookup m = none
  | [], _, r, _ => by
    have r : _ = [] := r
    subst r
    rfl
  | (j, x) :: fs, _, r, hj => by
    obtain ⟨u, r', rfl, h1, h2⟩ := r
    have e2 : (m == N.attr j) = false := by
      have : m ≠ N.attr j := fun z => hm j (hj (j, x) List.mem_cons_self) z.symm
      simpa using this
    simp [List.lookup, e2, repf_none hm h2 fun q hq => hj q (List.mem_cons_of_mem _ hq)]
theorem repf_len {w : Wd} : ∀ {fs : List (Nat × D)} {fv : List (Str × V)}, Repf N w fs fv → fv.length = fs.length
  | [], _, r => by
    have r : _ = [] := r
    subst r
    rfl
  | (j, x) :: fs, _, r => by
    obtain ⟨u, r', rfl, h1, h2⟩ := r
    rw [List.length_cons, List.length_cons, repf_len h2]
/-- an instance of the plain heap, at the layer -/
theorem RelH.ins {w : Wd} {h : Hs} {H : Hp} (r : RelH N w h H) {p c : Nat} {fs : List (Nat × D)} {v : V} (q : Rep N w (.ref p) v) (e : h[p]? = some (.ins c fs)) : ∃ a dx fv, v = .ref a ∧ w.io[p]? = some a ∧ H a = some (.ins (N.ca c) dx fv) ∧ Repf N w fs fv := by
  obtain ⟨a, e1, rfl⟩ := q
  obtain ⟨dx, fv, e2, rf⟩ := r.obj p a _ e1 e
  exact ⟨a, dx, fv, rfl, e1, e2, rf⟩
end
section
variable {X : Cx} {N : Nm} {W : WX} {ma mo : M D} {mr : M (List D)} {e o value : Expr} {es : List Expr} {pos ap p : Pos} {na k : Nat} {ok : Nat → Bool} {f : Str}
theorem snd_fld (hK : X.K = N.K) (inj : ∀ i j, i < na → j < na → N.attr i = N.attr j → i = j) (hf : N.attr k = f) (hok : ∀ c, ok c = true → Cls X.K (N.ca c) ∧ NoAttr X.K (N.ca c) f) (he : PE X e (TD N ma W)) (hb : attributeBase e f X.env (eval e X.env) = eval e X.env) : PE X (.Attribute e f pos) (TD N (mFld na k ok ma) W) :=
  pe_imp (pe_fld he hb) fun σ H Q t => by
    obtain ⟨w, ρ, h, r1, r2, pp⟩ := t
    refine TDg.imp (td_bind (m := ma) r1 r2 pp) fun v H1 ⟨w1, h1, x, l1, q1, q2, q3, p1⟩ => ?_
    split at p1
    · rename_i pl
      split at p1
      · rename_i c fs hp
        split at p1
        · rename_i hg
          rw [Bool.and_eq_true, Bool.and_eq_true] at hg
          obtain ⟨g1, g2, g3⟩ := hg
          split at p1
          · rename_i d hd
            obtain ⟨a, dx, fv, rfl, e1, e2, rf⟩ := q1.ins q3 hp
            obtain ⟨v, h3, h4⟩ := repf_look (of_decide_eq_true g3) inj rf (fOk_at g2) hd
            rw [hf] at h3
            obtain ⟨c1, c2⟩ := hok c g1
            exact ⟨a, N.ca c, dx, fv, v, rfl, e2, c1, c2, h3, p1 w1 H1 v (Wd.le.refl w1) q1 h4⟩
          · exact p1.elim
        · exact p1.elim
      · exact p1.elim
    · exact p1.elim
theorem snd_sfld (inj : ∀ i j, i < na → j < na → N.attr i = N.attr j → i = j) (hf : N.attr k = f) (hok : ∀ c, ok c = true → Cls X.K (N.ca c) ∧ NoAttr X.K (N.ca c) f) (he : PE X o (TD N mo W)) (hv : PE X value (TD N ma W)) (hs : swapsWith value (some (.Attribute o f ap)) pos.line X.env = pure false) : PS X (.Assign [.Attribute o f ap] value pos) (TDS N (sFldS na k ok ma mo) W) :=
  ps_imp (ps_fld he hv hs) fun Dn σ H t => by
    obtain ⟨w, ρ, h, r1, r2, pp⟩ := t
    refine TDg.imp (td_out (m := ma) r1 r2 pp) fun y H1 ⟨w1, h1, v, l1, q1, q2, q3, p1⟩ => ?_
    refine TDg.imp (td_out (m := mo) q1 q2 p1) fun x H2 ⟨w2, h2, xo, l2, s1, s2, s3, p2⟩ => ?_
    split at p2
    · rename_i pl
      split at p2
      · rename_i c fs hp
        split at p2
        · rename_i hg
          rw [Bool.and_eq_true, Bool.and_eq_true, Bool.and_eq_true] at hg
          obtain ⟨g1, g2, g3, g4⟩ := hg
          obtain ⟨a, dx, fv, rfl, e1, e2, rf⟩ := s1.ins s3 hp
          obtain ⟨c1, c2⟩ := hok c g1
          have rp := repf_put (of_decide_eq_true g3) inj (Rep.up l2 v y q3) rf (fOk_at g2)
          rw [hf] at rp
          refine ⟨a, N.ca c, dx, fv, rfl, e2, c1, c2, by rw [repf_len rf]; exact of_decide_eq_true g4, ?_⟩
          exact p2 w2 σ _ (Wd.le.refl w2) (s1.put e1 ⟨dx, _, rfl, rp⟩) s2
        · exact p2.elim
      · exact p2.elim
    · exact p2.elim
end
/-! ### methods -/
theorem mth_eq {o : Expr} {m : Str} {ap pos : Pos} {env : PySem.Env} {args : List Expr} (hb : attributeBase o m env (eval o env) = eval o env) (hf : methodCallForm args.length (backTo pos (starEach args env)) (backToKw pos (keywordEach [] env)) = true) (hl : (ap.endLine == pos.line) = true) :
    eval (.Call (.Attribute o m ap) args [] pos) env = (do
      let ov ← eval o env
      standAt ap.atName
      let (f, first) ← holding [ov] (getMethod ov m (plainOf o env))
      callWith pos f first (backTo pos (starEach args env)) (backToKw pos (keywordEach [] env))) := by
  have e : eval (.Call (.Attribute o m ap) args [] pos) env = (do
      let ov ← attributeBase o m env (eval o env)
      standAt ap.atName
      methodCall o m ap pos env ov args.length (backTo pos (starEach args env)) (backToKw pos (keywordEach [] env))) := by
    cases args <;> rfl
  rw [e, hb]
  congr 1
  funext ov
  congr 1
  funext _
  exact mcall_line hf hl
/-- the class of the receiver is known when it is asked; all that its method must keep -/
structure MthAt (X : Cx) (C : Addr) (m : Str) (g : Addr) (sp : Sp) : Prop where
  c : Cls X.K C
  m : Meth X.K C m g
  f : ∃ k fd ps, FnOk X.prog X.w X.K X.mg X.base (L2.CX X.prog X.w) k g fd ps sp ∧ Room k X.A ∧ Binds X.K fd ps []
def tMthS (X : Cx) (E : St → XK) (m : Str) (ta : TE) (t : TA) : TE := fun σ H Q => ta σ H fun x H1 => ∃ a C dx fs g sp, x = .ref a ∧ H1 a = some (.ins C dx fs) ∧ fs.lookup m = none ∧ MthAt X C m g sp ∧ t σ H1 fun vs H2 => sp (.ref a :: vs) H2 Q (E σ)
theorem pe_mthS {X : Cx} {E : St → XK} {o e : Expr} {m : Str} {ap pos : Pos} {es : List Expr} {ta : TE} {t : TA} (he : PE X o ta) (hx : ∀ σ, PassesAt (L2.CX X.prog X.w) X σ (E σ)) (ha : PA X (e :: es) t) (hb : attributeBase o m X.env (eval o X.env) = eval o X.env) (hf : methodCallForm (e :: es).length (backTo pos (starEach (e :: es) X.env)) (backToKw pos (keywordEach [] X.env)) = true) (hl : (ap.endLine == pos.line) = true)
    (hst : starEach (e :: es) X.env = (false, eval e X.env) :: starEach es X.env) (hpl : (backTo pos (starEach es X.env)).any (·.1) = false) : PE X (.Call (.Attribute o m ap) (e :: es) [] pos) (tMthS X E m ta t) := by
  refine ⟨fun pins s σ H Q I h => ?_⟩
  refine PySem.W.methodCall_KW (thn (he.run pins s σ H _ I h) fun u s1 ⟨x, H1, I1, rx, a, C, dx, fs, g, sp, ex, ea, l, M, q⟩ => ?_) (mth_eq hb hf hl)
  subst ex
  obtain rfl : u = Value.ref a := rx
  obtain ⟨k, fd, ps, F, hr, hbd⟩ := M.f
  refine getmeth_ok I1 ea M.c M.m l ?_
  refine PySem.W.callWith_K (first := [.ref a]) (h₀ := X.base) I.ok.mod.kin M.m.kp (thn (ha.run pos pins s1 σ H1 _ I1 q) fun us s2 ⟨vs, H2, I2, r, q2⟩ => ⟨I2.kIn, ?_⟩) hst hpl
  exact run_fnS (us := .ref a :: us) (vs := .ref a :: vs) F hr hbd (hx σ) I2 (.cons rfl r) q2
theorem pe_mthS0 {X : Cx} {E : St → XK} {o : Expr} {m : Str} {ap pos : Pos} {ta : TE} (he : PE X o ta) (hx : ∀ σ, PassesAt (L2.CX X.prog X.w) X σ (E σ)) (hb : attributeBase o m X.env (eval o X.env) = eval o X.env) (hl : (ap.endLine == pos.line) = true) : PE X (.Call (.Attribute o m ap) [] [] pos) (tMthS X E m ta tNil) := by
  refine ⟨fun pins s σ H Q I h => ?_⟩
  refine PySem.W.methodCall_KW (thn (he.run pins s σ H _ I h) fun u s1 ⟨x, H1, I1, rx, a, C, dx, fs, g, sp, ex, ea, l, M, q⟩ => ?_) (mth_eq hb rfl hl)
  subst ex
  obtain rfl : u = Value.ref a := rx
  obtain ⟨k, fd, ps, F, hr, hbd⟩ := M.f
  refine getmeth_ok I1 ea M.c M.m l ?_
  exact PySem.W.callWith_K0 (first := [.ref a]) I1.kIn M.m.kp (run_fnS (us := [.ref a]) (vs := [.ref a]) F hr hbd (hx σ) I1 (.cons rfl .nil) q)
/-! ### making -/
structure MakAt (X : Cx) (C g : Addr) (sp : Sp) : Prop where
  m : Mk X.K C g
  f : ∃ k fd ps, FnOk X.prog X.w X.K X.mg X.base (L2.CX X.prog X.w) k g fd ps sp ∧ Room (k + 1) X.A ∧ Binds X.K fd ps []
def tMakS (C : Addr) (sp : Sp) (E : St → XK) (t : TA) : TE := fun σ H Q => t σ H fun vs H1 => ∀ x dx, H1 x = none → H1 dx = none → dx ≠ x → sp (.ref x :: vs) (upd (upd H1 dx (.own x)) x (.ins C dx [])) (fun v H2 => v = .non ∧ Q (.ref x) H2) (E σ)
theorem run_makS {X : Cx} {E : St → XK} {C g : Addr} {sp : Sp} {pins : List (Addr × Obj)} {σ : St} {H : Hp} {s : Shared} {Q : VK} {us : List Value} {vs : List V} (M : MakAt X C g sp) (hx : PassesAt (L2.CX X.prog X.w) X σ (E σ)) (I : Inv X pins σ H s) (r : Vals vs us)
    (h : ∀ x dx, H x = none → H dx = none → dx ≠ x → sp (.ref x :: vs) (upd (upd H dx (.own x)) x (.ins C dx [])) (fun v H2 => v = .non ∧ Q (.ref x) H2) (E σ)) : wpAny (model X.prog X.w) X.A (call (.ref C) us) (EP X pins σ Q) X.xe s := by
  obtain ⟨k, fd, ps, F, hr, hb⟩ := M.f
  generalize hz : s.heap.objs.size = z at h
  have I2 := Inv.made (C := C) I
  have n1 : H (s.heap.objs.size + 1) = none := I.hok.fresh (Nat.le_succ _)
  have n0 : H s.heap.objs.size = none := I.hok.fresh (Nat.le_refl _)
  have q := h (s.heap.objs.size + 1) s.heap.objs.size n1 n0 (Nat.ne_of_lt (Nat.lt_succ_self _))
  have rv : Vals (V.ref (s.heap.objs.size + 1) :: vs) (Value.ref (s.heap.objs.size + 1) :: us) := .cons rfl r
  have ln : (Value.ref (s.heap.objs.size + 1) :: us ++ []).length = ps.length := by
    rw [List.append_nil, ← rv.length]
    exact F.len _ _ _ _ q
  have bd := hb { s with heap := (s.heap.push PySem.W.emptyDict).push (PySem.W.instObj C s.heap.objs.size) } (Value.ref (s.heap.objs.size + 1) :: us) I2.kIn ln
  rw [List.append_nil] at bd
  have run := F.run _ X.stack _ _ ⟨Value.ref (s.heap.objs.size + 1) :: us, []⟩ _ _ _ (E σ) (hr.make C us []) (I2.env0.make C us []) bd rv q
  refine wpAny_call (make_map (f := g) I.kIn M.m.makes M.m.init (beq_iff_eq.mp M.m.fn) (codeAny_mono run fun r s' hq => ?_))
  match r, hq with
  | .error er, hq => exact hx pins _ _ er s' I2 hq
  | .ok (.ret u), hq =>
    obtain ⟨v, H', I3, rv, ev, q3⟩ := I2.after hq
    subst ev
    exact ⟨rv, V.ref (s.heap.objs.size + 1), H', I3, rfl, q3⟩
  | .ok .next, hq => exact False.elim hq
  | .ok .brk, hq => exact False.elim hq
  | .ok .cont, hq => exact False.elim hq
section
variable {X : Cx} {N : Nm} {W : WX} {mo : M D} {mr : M (List D)} {e o : Expr} {es : List Expr} {pos ap p : Pos} {na c f ar : Nat} {m x : Str} {C : Calls} {mt : Nat → Option (Nat × Nat)}
theorem pe_makS {E : St → XK} {Ca g : Addr} {sp : Sp} {t : TA} (M : MakAt X Ca g sp) (hx : ∀ σ, PassesAt (L2.CX X.prog X.w) X σ (E σ)) (hg : Gl X x) (hm : X.mg x = some (.ref Ca)) (ha : PA X (e :: es) t) (hdb : (x == ("__debug__" : Str)) = false) (he : starEach (e :: es) X.env = (false, eval e X.env) :: starEach es X.env) (hpl : (backTo pos (starEach es X.env)).any (·.1) = false) :
    PE X (.Call (.Name x p) (e :: es) [] pos) (tMakS Ca sp E t) := by
  refine ⟨fun pins s σ H Q I h => wpAny_Call_Name_kw (ld_glob I hg hm ?_ hdb)⟩
  refine PySem.W.callWith_K (h₀ := X.base) I.ok.mod.kin M.m.kp (thn (ha.run pos pins s σ H _ I h) fun us s1 ⟨vs, H1, I1, r, q⟩ => ⟨I1.kIn, ?_⟩) he hpl
  exact run_makS M (hx σ) I1 r q
theorem pe_makS0 {E : St → XK} {Ca g : Addr} {sp : Sp} (M : MakAt X Ca g sp) (hx : ∀ σ, PassesAt (L2.CX X.prog X.w) X σ (E σ)) (hg : Gl X x) (hm : X.mg x = some (.ref Ca)) (hdb : (x == ("__debug__" : Str)) = false) : PE X (.Call (.Name x p) [] [] pos) (tMakS Ca sp E tNil) := by
  refine ⟨fun pins s σ H Q I h => wpAny_Call_Name_kw (ld_glob I hg hm ?_ hdb)⟩
  exact PySem.W.callWith_K0 I.kIn M.m.kp (run_makS (us := []) M (hx σ) I .nil h)
theorem td_mth (hm : ∀ i, i < na → N.attr i ≠ m) (hmt : ∀ c f ar, mt c = some (f, ar) → MthAt X (N.ca c) m (N.fa f) (spC N C ar f)) (σ : St) (H : Hp) (Q : VK) (t : TD N (mMth1 na C mt mo mr) W σ H Q) : tMthS X (WE W) m (TD N mo W) (TDs N mr W) σ H Q := by
  obtain ⟨w, ρ, h, r1, r2, pp⟩ := t
  refine TDg.imp (td_bind (m := mo) r1 r2 pp) fun v H1 ⟨w1, h1, xo, l1, q1, q2, q3, p1⟩ => ?_
  split at p1
  · rename_i pl
    split at p1
    · rename_i c fs hp
      split at p1
      · rename_i f ar hf
        split at p1
        · rename_i hg
          obtain ⟨a, dx, fv, rfl, e1, e2, rf⟩ := q1.ins q3 hp
          refine ⟨a, N.ca c, dx, fv, N.fa f, _, rfl, e2, repf_none hm rf (fOk_at hg), hmt c f ar hf, ?_⟩
          refine TDg.imp (td_bind (m := mr) q1 q2 p1) fun vs H2 ⟨w2, h2, ds, l2, s1, s2, s3, p2⟩ => ?_
          split at p2
          · rename_i hl
            exact ⟨w2, h2, .ref pl :: ds, s1, ⟨.ref a, vs, rfl, ⟨a, l2.at_ e1, rfl⟩, s3⟩, hl, postC_of p2⟩
          · exact p2.elim
        · exact p1.elim
      · exact p1.elim
    · exact p1.elim
  · exact p1.elim
theorem td_mak (σ : St) (H : Hp) (Q : VK) (t : TD N (mMake C c f ar mr) W σ H Q) : tMakS (N.ca c) (spC N C ar f) (WE W) (TDs N mr W) σ H Q := by
  obtain ⟨w, ρ, h, r1, r2, pp⟩ := t
  refine TDg.imp (td_bind (m := mr) r1 r2 pp) fun vs H1 ⟨w1, h1, ds, l1, q1, q2, q3, p1⟩ => ?_
  intro x dx hx hdx hne
  split at p1
  · rename_i hl
    have q1' : RelH N w1 h1 (upd H1 dx (.own x)) := q1.extra hdx
    obtain ⟨w2, l2, e2, r2⟩ := q1'.newOb (p := x) (u := .ins (N.ca c) dx []) (o := .ins c []) (by rw [upd_ne (Ne.symm hne)]; exact hx) ⟨dx, [], rfl, rfl⟩
    refine ⟨w2, _, .ref h1.length :: ds, r2, ⟨.ref x, vs, rfl, ⟨x, e2, rfl⟩, Reps.up l2 ds vs q3⟩, hl, ?_⟩
    cases er : C f (.ref h1.length :: ds) (h1 ++ [.ins c []]) with
    | no => rw [er] at p1; exact p1.elim
    | xc c2 fs2 h2 =>
      rw [er] at p1
      exact fun w' H' cls dd l r x => p1 w' H' cls dd (l2.trans l) r x
    | ok d h2 =>
      rw [er] at p1
      cases d with
      | non => exact fun w' H' v l r qv => ⟨qv, p1 w' H' (.ref x) (l2.trans l) r ⟨x, l.at_ e2, rfl⟩⟩
      | _ => exact p1.elim
  · exact p1.elim
theorem snd_mth (hm : ∀ i, i < na → N.attr i ≠ m) (hmt : ∀ c f ar, mt c = some (f, ar) → MthAt X (N.ca c) m (N.fa f) (spC N C ar f)) (tk : Takes X W) (he : PE X o (TD N mo W)) (ha : PA X (e :: es) (TDs N mr W)) (hb : attributeBase o m X.env (eval o X.env) = eval o X.env) (hf : methodCallForm (e :: es).length (backTo pos (starEach (e :: es) X.env)) (backToKw pos (keywordEach [] X.env)) = true) (hl : (ap.endLine == pos.line) = true)
    (hst : starEach (e :: es) X.env = (false, eval e X.env) :: starEach es X.env) (hpl : (backTo pos (starEach es X.env)).any (·.1) = false) : PE X (.Call (.Attribute o m ap) (e :: es) [] pos) (TD N (mMth1 na C mt mo mr) W) :=
  pe_imp (pe_mthS (E := WE W) he (fun σ => passAt tk σ) ha hb hf hl hst hpl) (td_mth hm hmt)
theorem snd_mth0 (hm : ∀ i, i < na → N.attr i ≠ m) (hmt : ∀ c f ar, mt c = some (f, ar) → MthAt X (N.ca c) m (N.fa f) (spC N C ar f)) (tk : Takes X W) (he : PE X o (TD N mo W)) (hb : attributeBase o m X.env (eval o X.env) = eval o X.env) (hl : (ap.endLine == pos.line) = true) : PE X (.Call (.Attribute o m ap) [] [] pos) (TD N (mMth1 na C mt mo mNil) W) :=
  pe_imp (pe_mthS0 (E := WE W) he (fun σ => passAt tk σ) hb hl) fun σ H Q t => TDg.imp (td_mth hm hmt σ H Q t) fun x H1 ⟨a, C, dx, fs, g, sp, z1, z2, z3, z4, w, ρ, h, r1, r2, p⟩ => ⟨a, C, dx, fs, g, sp, z1, z2, z3, z4, p w H1 [] (Wd.le.refl w) r1 rfl⟩
theorem snd_mak (M : MakAt X (N.ca c) (N.fa f) (spC N C ar f)) (tk : Takes X W) (hg : Gl X x) (hm : X.mg x = some (.ref (N.ca c))) (ha : PA X (e :: es) (TDs N mr W)) (hdb : (x == ("__debug__" : Str)) = false) (he : starEach (e :: es) X.env = (false, eval e X.env) :: starEach es X.env) (hpl : (backTo pos (starEach es X.env)).any (·.1) = false) : PE X (.Call (.Name x p) (e :: es) [] pos) (TD N (mMake C c f ar mr) W) :=
  pe_imp (pe_makS (E := WE W) M (fun σ => passAt tk σ) hg hm ha hdb he hpl) td_mak
end
end DN

set_option Elab.async false
set_option linter.all false
set_option maxRecDepth 100000
set_option maxHeartbeats 2000000
/-! D18: displays of dicts. -/
namespace DN
open PySem PySem.Spec
open L2 hiding It
open PyProof.Rows hiding St
def mList : List (M D) → M (List D)
  | [] => mNil
  | m :: ms => mCons m (mList ms)
def mergeD (kvs : List (D × D)) : List (D × D) := kvs.foldl (fun acc kv => dput acc kv.1 kv.2) []
/-- {k: v, ..}: the keys are literals -/
def mDisp (ks : List D) (ms : List (M D)) : M D := fun σ h => (mList ms σ h).bind fun ds h1 => if ks.length = ds.length ∧ ks.length ≤ 15 ∧ ks.all isKey = true then .ok (.ref h1.length) (h1 ++ [.dct (mergeD (ks.zip ds))]) else .no
section
variable {N : Nm} {w : Wd} {h : Hs} {H : Hp}
theorem RelH.giveD (hx : N.Cold) (r : RelH N w h H) {p : Addr} {ks : List (Key × V)} {kvs : List (D × D)} {u : HO} (hu : ∀ ps, u ≠ .tbl ps) (hpv : w.pv p = some u) (q : Repd N w kvs ks) {w1 : Wd} (l : w1.le w) (hn : w1.pv p = none) : ∃ w', w1.le w' ∧ w'.io[h.length]? = some p ∧ RelH N w' (h ++ [.dct kvs]) (upd H p (.dK ks)) := by
  obtain ⟨z1, z2, z3⟩ := r.prv p _ hpv
  have hio : ∀ (n : Nat) (a : Addr), w.io[n]? = some a → (w.io ++ [p])[n]? = some a := fun n a e => by
    rw [List.getElem?_append_left (List.getElem?_eq_some_iff.mp e).1]
    exact e
  have sh : Shr h.length w ⟨w.io ++ [p], w.im, fun a => if a = p then none else w.pv a⟩ := ⟨fun n a _ e => hio n a e, fun a o e => e⟩
  have lw : w1.le ⟨w.io ++ [p], w.im, fun a => if a = p then none else w.pv a⟩ := ⟨by
    obtain ⟨m, e⟩ := l.io
    exact ⟨m ++ [p], by rw [← List.append_assoc, ← e]⟩, l.im, fun a o e => by
    have hap : a ≠ p := fun z => by
      subst z
      rw [hn] at e
      cases e
    show (if a = p then none else w.pv a) = some o
    rw [if_neg hap]
    exact l.pv a o e⟩
  have at_p : (w.io ++ [p])[h.length]? = some p := by
    rw [← r.len]
    exact List.getElem?_concat_length
  refine ⟨_, lw, at_p, ?_⟩
  refine ⟨fun a o e => ?_, fun a o e => ?_, ?_, ?_, fun a ha => ?_, fun n a o e1 e2 => ?_, fun a o e => (by rw [hx.2 a] at e; cases e), fun P hP => by
    obtain ⟨⟨y1, y2⟩, ps, z, t⟩ := r.tab P hP
    have ne : P ≠ p := fun y => by rw [y, z1] at z; exact hu _ (Option.some.inj z)
    exact ⟨⟨y1, by show (if P = p then none else w.pv P) = none; rw [if_neg ne]; exact y2⟩, ps, by rw [upd_ne ne]; exact z, t⟩⟩
  · have hap : a ≠ p := fun z => by
      subst z
      have e : w.im a = some o := e
      rw [z2] at e
      cases e
    rw [upd_ne hap]
    exact r.imm a o e
  · have e : (if a = p then none else w.pv a) = some o := e
    by_cases hap : a = p
    · rw [if_pos hap] at e
      cases e
    · rw [if_neg hap] at e
      obtain ⟨y1, y2, y3⟩ := r.prv a o e
      refine ⟨by rw [upd_ne hap]; exact y1, y2, fun hm => ?_⟩
      rcases List.mem_append.mp hm with hm | hm
      · exact y3 hm
      · exact hap (by simpa using hm)
  · show (w.io ++ [p]).length = (h ++ [O.dct kvs]).length
    rw [List.length_append, List.length_append, r.len]
    rfl
  · show (w.io ++ [p]).Nodup
    rw [List.nodup_append]
    exact ⟨r.nod, by simp, fun a ha b hb => by
      have hb : b = p := by simpa using hb
      subst hb
      exact fun e => z3 (by rw [← e]; exact ha)⟩
  · rcases List.mem_append.mp ha with ha | ha
    · exact r.sep a ha
    · have ha : a = p := by simpa using ha
      subst ha
      exact z2
  · have e1 : (w.io ++ [p])[n]? = some a := e1
    by_cases hn : n < w.io.length
    · rw [List.getElem?_append_left hn] at e1
      rw [List.getElem?_append_left (by rw [← r.len]; exact hn)] at e2
      have m1 : a ∈ w.io := List.mem_of_getElem? e1
      have hap : a ≠ p := fun z => z3 (z ▸ m1)
      have e3 := r.obj n a o e1 e2
      rw [upd_ne hap]
      cases o with
      | lst ys =>
        obtain ⟨us, y1, y2⟩ := e3
        exact ⟨us, y1, reps_shr sh ys us (by rw [← r.len]; exact reps_blw ys us y2) y2⟩
      | dct ys =>
        obtain ⟨us, y1, y2⟩ := e3
        exact ⟨us, y1, repd_shr sh ys us (by rw [← r.len]; exact repd_blw ys us y2) y2⟩
      | ins c ys =>
        obtain ⟨dx, us, y1, y2⟩ := e3
        exact ⟨dx, us, y1, repf_shr sh ys us (by rw [← r.len]; exact repf_blw ys us y2) y2⟩
    · have hn2 : n = w.io.length := by
        have := (List.getElem?_eq_some_iff.mp e1).1
        rw [List.length_append] at this
        simp at this
        omega
      subst hn2
      rw [List.getElem?_concat_length] at e1
      cases e1
      rw [r.len, List.getElem?_concat_length] at e2
      cases e2
      rw [upd_same]
      exact ⟨ks, rfl, repd_shr sh kvs ks (by rw [← r.len]; exact repd_blw kvs ks q) q⟩
theorem td_pairs {W : WX} {ρ : Env} {σ : St} {Q : List (V × V) → Hp → Prop} : ∀ (l : List (V × M D)) {w : Wd} {h : Hs} {H : Hp}, RelH N w h H → RelE N w ρ σ → Post N (Reps N) W w σ (fun vs H => Q ((l.map (·.1)).zip vs) H) (mList (l.map (·.2)) ρ h) → tPairs (l.map fun p => (tC p.1, TD N p.2 W)) σ H Q
  | [], w, h, H, r1, r2, p => p w H [] (Wd.le.refl w) r1 rfl
  | (v, m) :: l, w, h, H, r1, r2, p => by
    show tC v σ H fun x H1 => TD N m W σ H1 fun y H2 => tPairs _ σ H2 _
    refine TDg.imp (td_bind (m := m) r1 r2 p) fun y H1 ⟨w1, h1, x, l1, q1, q2, q3, p1⟩ => ?_
    refine td_pairs (Q := fun ps H3 => Q ((v, y) :: ps) H3) l q1 q2 ?_
    cases e : mList (l.map (·.2)) ρ h1 with
    | no => rw [e] at p1; exact p1.elim
    | xc c fs h2 => rw [e] at p1; exact p1
    | ok xs h2 =>
      rw [e] at p1
      exact fun w' H' vs l' r rs => p1 w' H' (y :: vs) l' r ⟨y, vs, rfl, Rep.up l' x y q3, rs⟩
theorem merge_rep {w : Wd} : ∀ {kd : List D} {ks : List Key} {ds : List D} {vs : List V} {acc : List (D × D)} {acv : List (Key × V)}, Paired KeyRep kd ks → Reps N w ds vs → Repd N w acc acv → Repd N w ((kd.zip ds).foldl (fun acc kv => dput acc kv.1 kv.2) acc) (mergeK acv (ks.zip vs))
  | [], _, _, _, acc, acv, .nil, _, r => r
  | _ :: _, _, [], _, acc, acv, .cons _ _, q, r => by
    have q : _ = [] := q
    subst q
    exact r
  | d :: kd, k :: ks, x :: ds, _, acc, acv, .cons h t, ⟨v, vs, rfl, h1, h2⟩, r => merge_rep (kd := kd) (ks := ks) (ds := ds) (acc := dput acc d x) (acv := putK acv k v) t h2 (put_rep h h1 r)
theorem keys_of {w : Wd} : ∀ {kd : List D}, kd.all isKey = true → ∃ ks : List Key, Paired KeyRep kd ks
  | [], _ => ⟨[], .nil⟩
  | d :: kd, h => by
    rw [List.all_cons, Bool.and_eq_true] at h
    obtain ⟨ks, p⟩ := keys_of (w := w) h.2
    cases d with
    | int i => exact ⟨.inl i :: ks, .cons rfl p⟩
    | str s => exact ⟨.inr (toS s) :: ks, .cons rfl p⟩
    | _ => cases h.1
theorem td_disp (hx : N.Cold) {W : WX} {kd : List D} {ks : List Key} {ms : List (M D)} (hk : Paired KeyRep kd ks) (hl0 : ks.length = ms.length) (σ : St) (H : Hp) (Q : VK) (t : TD N (mDisp kd ms) W σ H Q) : tDisp (((ks.map kV).zip ms).map fun p => (tC p.1, TD N p.2 W)) σ H Q := by
  obtain ⟨w, ρ, h, r1, r2, po⟩ := t
  intro p hp
  obtain ⟨f1, f2, f3⟩ := r1.free hp
  have rh : RelH N (w.hold p (.dK [])) h (upd H p (.dK [])) := r1.hold hx f1 f3 fun ps z => by rw [hp] at z; cases z
  have e2 : ((ks.map kV).zip ms).map (·.2) = ms := List.map_snd_zip (by rw [List.length_map, hl0]; exact Nat.le_refl _)
  have e1 : ((ks.map kV).zip ms).map (·.1) = ks.map kV := List.map_fst_zip (by rw [List.length_map, hl0]; exact Nat.le_refl _)
  refine td_pairs _ rh (relE_hold r2) ?_
  rw [e2, e1]
  have po : Post N (Rep N) W w σ Q ((mList ms ρ h).bind fun ds h1 => if kd.length = ds.length ∧ kd.length ≤ 15 ∧ kd.all isKey = true then .ok (.ref h1.length) (h1 ++ [.dct (mergeD (kd.zip ds))]) else .no) := po
  cases e : mList ms ρ h with
  | no => rw [e] at po; exact po.elim
  | xc c fs h2 =>
    rw [e] at po
    exact fun w' H' cls dd l r x => po w' H' cls dd ((le_hold (Wd.le.refl w) f2).trans l) r x
  | ok ds h1 =>
    rw [e] at po
    intro w' H2 vs l r rs
    by_cases hc : kd.length = ds.length ∧ kd.length ≤ 15 ∧ kd.all isKey = true
    · have po : Post N (Rep N) W w σ Q (if kd.length = ds.length ∧ kd.length ≤ 15 ∧ kd.all isKey = true then .ok (.ref h1.length) (h1 ++ [.dct (mergeD (kd.zip ds))]) else .no) := po
      rw [if_pos hc] at po
      have pv : w'.pv p = some (.dK []) := l.pv p _ (by show upd w.pv p _ p = _; rw [upd_same])
      have kl : kd.length = ks.length := Paired.length hk
      have vl : vs.length = ks.length := by rw [rs.length, ← kl]; exact hc.1.symm
      refine ⟨(r.prv p _ pv).1, ks.zip vs, ?_, by rw [List.length_zip, vl, Nat.min_self, ← kl]; exact hc.2.1, ?_⟩
      · rw [List.zip_map_left]
        rfl
      · have mr := merge_rep (acc := []) (acv := []) hk rs (rfl : Repd N w' [] [])
        obtain ⟨w3, l3, e3, r3⟩ := r.giveD hx (u := .dK []) (fun ps z => by cases z) pv mr ((le_hold (Wd.le.refl w) f2).trans l) f2
        exact po w3 _ (.ref p) l3 r3 ⟨p, e3, rfl⟩
    · have po : Post N (Rep N) W w σ Q (if kd.length = ds.length ∧ kd.length ≤ 15 ∧ kd.all isKey = true then .ok (.ref h1.length) (h1 ++ [.dct (mergeD (kd.zip ds))]) else .no) := po
      rw [if_neg hc] at po
      exact po.elim
end
end DN

set_option Elab.async false
set_option linter.all false
set_option maxRecDepth 100000
/-! D19: text of an int, int of a text, least, greatest and sum of a list; join, split, startswith, find. -/
namespace DN
open PySem PySem.Spec
open L2 hiding It
open PyProof.Rows hiding St
def tlS (x : Str) : List Nat := x.cps.toList
theorem toS_tlS (x : Str) : toS (tlS x) = x := toS_of x
def decT (i : Int) : List Nat := tlS (toString i)
def bStr (ds : List D) (h : Hs) : R D := match ds with
  | [.int i] => if i.natAbs.log2 < 1920 then .ok (.str (decT i)) h else .no
  | [.str s] => .ok (.str s) h
  | _ => .no
def bIntS (ds : List D) (h : Hs) : R D := match ds with
  | [.str s] => (match PySem.intText? (toS s) with
    | some n => if s.length ≤ 640 then .ok (.int n) h else .no
    | none => .no)
  | ds => bInt ds h
def intsOf : List D → Option (List Int)
  | [] => some []
  | .int i :: ds => match intsOf ds with
    | some ns => some (i :: ns)
    | none => none
  | _ :: _ => none
def txtsOf : List D → Option (List (List Nat))
  | [] => some []
  | .str s :: ds => match txtsOf ds with
    | some ns => some (s :: ns)
    | none => none
  | _ :: _ => none
def maxI : List Int → Int
  | [] => 0
  | [a] => a
  | a :: b :: as => if maxI (b :: as) ≤ a then a else maxI (b :: as)
def minI : List Int → Int
  | [] => 0
  | [a] => a
  | a :: b :: as => if a ≤ minI (b :: as) then a else minI (b :: as)
def bNums (f : List Int → Int) (z : Bool) (ds : List D) (h : Hs) : R D := match ds with
  | [d] => (match lstOf h d with
    | some xs => (match intsOf xs with
      | some ns => if z || decide (0 < ns.length) then .ok (.int (f ns)) h else .no
      | none => .no)
    | none => .no)
  | _ => .no
def bSum : List D → Hs → R D := bNums List.sum true
def bMax1 : List D → Hs → R D := bNums maxI false
def bMin1 : List D → Hs → R D := bNums minI false
def joinT (a : List Nat) (ys : List (List Nat)) : List Nat := tlS (Txt.join (toS a) (ys.map toS))
def splitT (a b : List Nat) : List (List Nat) := (Txt.split (toS a) (toS b)).map tlS
def eJoin (x : D) (ds : List D) (h : Hs) : R D := match x, ds with
  | .str a, [d] => (match seqOf h d with
    | some xs => (match txtsOf xs with
      | some ys => if (ys.map List.length).sum + ys.length * a.length ≤ SZ then .ok (.str (joinT a ys)) h else .no
      | none => .no)
    | none => .no)
  | _, _ => .no
def eSplit (hp : Bool) (x : D) (ds : List D) (h : Hs) : R D := match x, ds with
  | .str a, [.str b] => if 0 < b.length ∧ a.length + 2 ≤ SZ then mkL hp ((splitT a b).map .str) h else .no
  | _, _ => .no
def eStarts (x : D) (ds : List D) (h : Hs) : R D := match x, ds with
  | .str a, [.str b] => .ok (.bl (Txt.startswith (toS a) (toS b))) h
  | _, _ => .no
def eFind (x : D) (ds : List D) (h : Hs) : R D := match x, ds with
  | .str a, [.str b] => .ok (.int (Txt.find (toS a) (toS b))) h
  | _, _ => .no
theorem ints_rep {N : Nm} {w : Wd} : ∀ {ds : List D} {ns : List Int} {vs : List V}, intsOf ds = some ns → Reps N w ds vs → vs = ns.map V.int
  | [], ns, vs, e, r => by
    cases e
    exact r
  | d :: ds, ns, vs, e, r => by
    obtain ⟨v, vs', rfl, h1, h2⟩ := r
    cases d <;> try (simp [intsOf] at e; done)
    rename_i i
    unfold intsOf at e
    split at e
    · rename_i ms em
      cases e
      have h1 : v = V.int i := h1
      rw [h1, ints_rep em h2]
      rfl
    · cases e
theorem txts_rep {N : Nm} {w : Wd} : ∀ {ds : List D} {ns : List (List Nat)} {vs : List V}, txtsOf ds = some ns → Reps N w ds vs → vs = (ns.map toS).map V.str
  | [], ns, vs, e, r => by
    cases e
    exact r
  | d :: ds, ns, vs, e, r => by
    obtain ⟨v, vs', rfl, h1, h2⟩ := r
    cases d <;> try (simp [txtsOf] at e; done)
    rename_i i
    unfold txtsOf at e
    split at e
    · rename_i ms em
      cases e
      have h1 : v = V.str (toS i) := h1
      rw [h1, txts_rep em h2]
      rfl
    · cases e
theorem reps_txts {N : Nm} {w : Wd} : ∀ {ns : List (List Nat)}, Reps N w (ns.map .str) ((ns.map toS).map V.str)
  | [] => rfl
  | s :: ns => ⟨_, _, rfl, rfl, reps_txts⟩
theorem maxI_mem : ∀ {ns : List Int}, 0 < ns.length → maxI ns ∈ ns ∧ ∀ y ∈ ns, y ≤ maxI ns
  | [a], _ => by simp [maxI]
  | a :: b :: as, _ => by
    obtain ⟨h1, h2⟩ := maxI_mem (ns := b :: as) (by simp)
    unfold maxI
    split
    · rename_i z
      refine ⟨by simp, fun y hy => ?_⟩
      rcases List.mem_cons.mp hy with rfl | hy
      · exact Int.le_refl _
      · exact Int.le_trans (h2 y hy) z
    · rename_i z
      refine ⟨List.mem_cons_of_mem _ h1, fun y hy => ?_⟩
      rcases List.mem_cons.mp hy with rfl | hy
      · omega
      · exact h2 y hy
theorem minI_mem : ∀ {ns : List Int}, 0 < ns.length → minI ns ∈ ns ∧ ∀ y ∈ ns, minI ns ≤ y
  | [a], _ => by simp [minI]
  | a :: b :: as, _ => by
    obtain ⟨h1, h2⟩ := minI_mem (ns := b :: as) (by simp)
    unfold minI
    split
    · rename_i z
      refine ⟨by simp, fun y hy => ?_⟩
      rcases List.mem_cons.mp hy with rfl | hy
      · exact Int.le_refl _
      · exact Int.le_trans z (h2 y hy)
    · rename_i z
      refine ⟨List.mem_cons_of_mem _ h1, fun y hy => ?_⟩
      rcases List.mem_cons.mp hy with rfl | hy
      · omega
      · exact h2 y hy
def rStrA : List V → Hp → VK → Prop := fun xs H Q => (∃ i, xs = [.int i] ∧ i.natAbs.log2 < 1920 ∧ Q (.str (toString i)) H) ∨ ∃ a, xs = [.str a] ∧ Q (.str a) H
theorem cb_str {X : Cx} : CallR X (.type "str") rStrA := CallR.or call_str_int SkE.call_str_str
theorem cbs_str {N : Nm} : CbS N rStrA bStr := by
  intro W w h H σ ds vs Q r q p
  unfold bStr at p
  split at p
  · obtain ⟨v, rfl, rfl⟩ := reps1 q
    split at p
    · rename_i z
      exact .inl ⟨_, rfl, z, post_val p r (by show V.str _ = V.str (toS (decT _)); rw [decT, toS_tlS])⟩
    · exact p.elim
  · obtain ⟨v, rfl, rfl⟩ := reps1 q
    exact .inr ⟨_, rfl, post_val p r rfl⟩
  · exact p.elim
def rIntA : List V → Hp → VK → Prop := fun xs H Q => ((∃ i, xs = [.int i] ∧ Q (.int i) H) ∨ ∃ k, xs = [.bl k] ∧ Q (.int (if k then 1 else 0)) H) ∨ ∃ a n, xs = [.str a] ∧ PySem.intText? a = some n ∧ a.length ≤ 640 ∧ Q (.int n) H
theorem cb_int {X : Cx} : CallR X (.type "int") rIntA := CallR.or call_int1 call_int_str
theorem cbs_intS {N : Nm} : CbS N rIntA bIntS := by
  intro W w h H σ ds vs Q r q p
  unfold bIntS at p
  split at p
  · obtain ⟨v, rfl, rfl⟩ := reps1 q
    split at p
    · rename_i n e
      split at p
      · rename_i z
        exact .inr ⟨_, n, rfl, e, by rw [toS_length]; exact z, post_val p r rfl⟩
      · exact p.elim
    · exact p.elim
  · exact .inl (cbs_int W w h H σ ds vs Q r q p)
theorem nums_of {N : Nm} {W : WX} {w : Wd} {h : Hs} {H : Hp} {σ : St} {ds : List D} {vs : List V} {Q : VK} {f : List Int → Int} {z : Bool} (r : RelH N w h H) (q : Reps N w ds vs) (p : Post N (Rep N) W w σ Q (bNums f z ds h)) : ∃ (a : Addr) (ns : List Int), vs = [V.ref a] ∧ SqL N.K H a (ns.map V.int) ∧ (z = true ∨ 0 < ns.length) ∧ Q (.int (f ns)) H := by
  unfold bNums at p
  split at p
  · obtain ⟨v, rfl, q0⟩ := reps1 q
    split at p
    · rename_i xs e1
      obtain ⟨a, us, rfl, ha, hr⟩ := r.lst q0 e1
      split at p
      · rename_i ns e2
        split at p
        · rename_i hz
          rw [ints_rep e2 hr] at ha
          exact ⟨a, ns, rfl, ha, by simpa using hz, post_val p r rfl⟩
        · exact p.elim
      · exact p.elim
    · exact p.elim
  · exact p.elim
theorem cbs_sum {N : Nm} : CbS N (rSum N.K) bSum := by
  intro W w h H σ ds vs Q r q p
  obtain ⟨a, ns, e1, e2, _, e3⟩ := nums_of r q p
  exact ⟨a, ns, e1, e2, e3⟩
theorem cbs_max1 {N : Nm} : CbS N (rMax N.K) bMax1 := by
  intro W w h H σ ds vs Q r q p
  obtain ⟨a, ns, e1, e2, e4, e3⟩ := nums_of r q p
  have l : 0 < ns.length := by simpa using e4
  refine ⟨a, ns, e1, e2, l, fun m h1 h2 => ?_⟩
  obtain ⟨g1, g2⟩ := maxI_mem l
  rw [show m = maxI ns from Int.le_antisymm (g2 m h1) (h2 _ g1)]
  exact e3
theorem cbs_min1 {N : Nm} : CbS N (rMin N.K) bMin1 := by
  intro W w h H σ ds vs Q r q p
  obtain ⟨a, ns, e1, e2, e4, e3⟩ := nums_of r q p
  have l : 0 < ns.length := by simpa using e4
  refine ⟨a, ns, e1, e2, l, fun m h1 h2 => ?_⟩
  obtain ⟨g1, g2⟩ := minI_mem l
  rw [show m = minI ns from Int.le_antisymm (h2 _ g1) (g2 m h1)]
  exact e3
def rJoin (K : PySem.W.Frag) : V → List V → Hp → VK → Prop := fun x xs H Q => ∃ a p, ∃ ys : List Str, x = .str a ∧ xs = [.ref p] ∧ (SqL K H p (ys.map V.str) ∨ SqT K H p (ys.map V.str)) ∧ (ys.map (·.length)).sum + ys.length * a.length ≤ 16777216 ∧ Q (.str (Txt.join a ys)) H
theorem mts_join {N : Nm} : MtS N "str" (rJoin N.K) eJoin := by
  intro W w w' h h' H H' σ x ds v vs Q _ qx l r q p
  unfold eJoin at p
  split at p
  · rename_i a d
    have qx : v = V.str (toS a) := qx
    subst qx
    obtain ⟨u, rfl, q0⟩ := reps1 q
    split at p
    · rename_i xs e1
      obtain ⟨b, us, rfl, hb, hr⟩ := r.seq q0 e1
      split at p
      · rename_i ys e2
        split at p
        · rename_i hz
          rw [txts_rep e2 hr] at hb
          refine ⟨toS a, b, ys.map toS, rfl, rfl, hb, ?_, post_val p r (by show V.str _ = V.str (toS (joinT _ _)); rw [joinT, toS_tlS])⟩
          have e3 : (ys.map toS).map (·.length) = ys.map List.length := by
            rw [List.map_map]
            exact List.map_congr_left fun y _ => toS_length y
          rw [e3, List.length_map, toS_length]
          have := SZ_eq
          exact hz
        · exact p.elim
      · exact p.elim
    · exact p.elim
  · exact p.elim
theorem mts_split {N : Nm} (hp : Bool) : MtS N "str" (fun x xs H Q => ∃ a b, x = .str a ∧ xs = [.str b] ∧ (b.length == 0) = false ∧ a.length + 2 ≤ sizeLine ∧ rNewStrs (Txt.split a b) H Q) (eSplit hp) := by
  intro W w w' h h' H H' σ x ds v vs Q _ qx l r q p
  unfold eSplit at p
  split at p
  · rename_i a b
    have qx : v = V.str (toS a) := qx
    subst qx
    obtain ⟨u, rfl, rfl⟩ := reps1 q
    split at p
    · rename_i hz
      refine ⟨toS a, toS b, rfl, rfl, by rw [toS_length]; simpa using (by omega : b.length ≠ 0), by rw [toS_length, ← SZ_eq]; exact hz.2, ?_⟩
      have e : (splitT a b).map toS = Txt.split (toS a) (toS b) := by
        unfold splitT
        rw [List.map_map]
        exact (List.map_congr_left fun y _ => toS_tlS y).trans (List.map_id _)
      have z := (post_mkL r (reps_txts (N := N)) p).2
      rw [e] at z
      exact z
    · exact p.elim
  · exact p.elim
theorem mts_starts {N : Nm} : MtS N "str" (fun x xs H Q => ∃ a b, x = .str a ∧ xs = [.str b] ∧ Q (.bl (Txt.startswith a b)) H) eStarts := by
  intro W w w' h h' H H' σ x ds v vs Q _ qx l r q p
  unfold eStarts at p
  split at p
  · have qx : v = V.str _ := qx
    subst qx
    obtain ⟨u, rfl, rfl⟩ := reps1 q
    exact ⟨_, _, rfl, rfl, post_val p r rfl⟩
  · exact p.elim
theorem mts_find {N : Nm} : MtS N "str" (fun x xs H Q => ∃ a b, x = .str a ∧ xs = [.str b] ∧ Q (.int (Txt.find a b)) H) eFind := by
  intro W w w' h h' H H' σ x ds v vs Q _ qx l r q p
  unfold eFind at p
  split at p
  · have qx : v = V.str _ := qx
    subst qx
    obtain ⟨u, rfl, rfl⟩ := reps1 q
    exact ⟨_, _, rfl, rfl, post_val p r rfl⟩
  · exact p.elim
def splitM (a b : List Nat) (k : Int) : List (List Nat) := (Txt.splitMax (toS a) (toS b) k).map tlS
def eSplit2 (hp : Bool) (x : D) (ds : List D) (h : Hs) : R D := match x, ds with
  | .str a, [.str b, .int k] => if 0 < b.length ∧ a.length + 2 ≤ SZ ∧ -(2 ^ 63) ≤ k ∧ k < 2 ^ 63 then mkL hp ((splitM a b k).map .str) h else .no
  | _, _ => .no
theorem mts_split2 {N : Nm} (hp : Bool) : MtS N "str" (fun x xs H Q => ∃ (a b : Str) (k : Int), x = .str a ∧ xs = [.str b, .int k] ∧ (b.length == 0) = false ∧ -(2 ^ 63) ≤ k ∧ k < 2 ^ 63 ∧ a.length + 2 ≤ sizeLine ∧ rNewStrs (Txt.splitMax a b k) H Q) (eSplit2 hp) := by
  intro W w w' h h' H H' σ x ds v vs Q _ qx l r q p
  unfold eSplit2 at p
  split at p
  · rename_i a b k
    have qx : v = V.str (toS a) := qx
    subst qx
    obtain ⟨u, u', rfl, rfl, rfl⟩ := reps2 q
    split at p
    · rename_i hz
      refine ⟨toS a, toS b, k, rfl, rfl, by rw [toS_length]; simpa using (by omega : b.length ≠ 0), hz.2.2.1, hz.2.2.2, by rw [toS_length, ← SZ_eq]; exact hz.2.1, ?_⟩
      have e : (splitM a b k).map toS = Txt.splitMax (toS a) (toS b) k := by
        unfold splitM
        rw [List.map_map]
        exact (List.map_congr_left fun y _ => toS_tlS y).trans (List.map_id _)
      have z := (post_mkL r (reps_txts (N := N)) p).2
      rw [e] at z
      exact z
    · exact p.elim
  · exact p.elim
/-! replace of written texts, behind a text -/
def mRepl (y z : Str) (mo : M D) : M D := fun σ h => (mo σ h).bind fun x h1 => match x with
  | .str a => if a.length + (a.length + 1) * z.length ≤ 16777216 then .ok (.str (tlS (Txt.replace (toS a) y z))) h1 else .no
  | _ => .no
section
variable {X : Cx} {N : Nm} {W : WX} {mo mb : M D} {o e : Expr}
theorem td_repl {y z : Str} (σ : St) (H : Hp) (Q : VK) (t : TD N (mRepl y z mo) W σ H Q) : CwR.tReplC (TD N mo W) y z σ H Q := by
  obtain ⟨w, ρ, h, r1, r2, p⟩ := t
  refine TDg.imp (td_bind (m := mo) r1 r2 p) fun v H1 ⟨w1, h1, x, l1, q1, q2, q3, p1⟩ => ?_
  split at p1
  · rename_i a
    have q3 : v = V.str (toS a) := q3
    split at p1
    · rename_i hz
      exact ⟨toS a, q3, by rw [toS_length]; exact hz, post_val p1 q1 (by show V.str _ = V.str (toS (tlS _)); rw [toS_tlS])⟩
    · exact p1.elim
  · exact p1.elim
theorem pet_imp {t t' : TE} (h : L2.PET X e t) (k : ∀ σ H Q, t' σ H Q → t σ H Q) : L2.PET X e t' := fun pins s σ H Q h0 I q => h pins s σ H Q h0 I (k σ H Q q)
theorem pe_litop {op : Operator} {r : R2} {g : D → D → Hs → R D} {y : Str} {j : Nat} {c pos : Pos} (ho : OpR X (binaryOp op) r) (hs : OpS N r g) (hb : L2.PET X e (TD N mb W)) : PE X (.BinOp (.Constant (.str y) j c) op e pos) (TD N (mOp g (mLit (.str y.cps.toList)) mb) W) := by
  have hl : ∀ (σ : St) (H : Hp) (Q : VK), TD N (mLit (.str y.cps.toList)) W σ H Q → Q (V.str y) H := fun σ H Q t => by
    obtain ⟨w, ρ, h, r1, r2, p⟩ := t
    exact post_val p r1 (by show V.str _ = V.str (toS _); rw [toS_of])
  refine ⟨fun pins s σ H Q I h => ?_⟩
  have q := hl _ _ _ (td_op hs σ H Q h)
  refine wpAny_BinOp (Calls.Constant_str ?_)
  exact thn (hb pins { s with toks := s.toks + 1 } σ H _ (by show 1 ≤ s.toks + 1; omega) (I.tok _) q) fun u s2 ⟨z, H2, I2, r2, q2⟩ => ho pins s2 σ H2 (V.str y) z _ u Q I2 ⟨_, rfl⟩ r2 q2
end
end DN

set_option Elab.async false
set_option linter.all false
set_option maxRecDepth 100000
/-! D20: f-strings of texts and numbers. -/
namespace DN
open PySem PySem.Spec
open L2 hiding It
open PyProof.Rows hiding St
def mFmt (m : M D) : M D := fun σ h => (m σ h).bind fun x h1 => match x with
  | .str s => if s.length ≤ SZ then .ok (.str s) h1 else .no
  | .int i => if i.natAbs.log2 < 1920 then .ok (.str (decT i)) h1 else .no
  | _ => .no
def mJoin : List (M D) → List Nat → M D
  | [], acc => fun _ h => .ok (.str acc) h
  | m :: ms, acc => fun σ h => (m σ h).bind fun x h1 => match x with
    | .str y => if acc.length + y.length ≤ SZ then mJoin ms (acc ++ y) σ h1 else .no
    | _ => .no
section
variable {X : Cx} {N : Nm} {W : WX}
theorem td_fmt {m : M D} (σ : St) (H : Hp) (Q : VK) (t : TD N (mFmt m) W σ H Q) : tFmt (TD N m W) σ H Q := by
  obtain ⟨w, ρ, h, r1, r2, p⟩ := t
  refine TDg.imp (td_bind (m := m) r1 r2 p) fun v H1 ⟨w1, h1, x, l1, q1, q2, q3, p1⟩ => ?_
  split at p1
  · rename_i s
    split at p1
    · rename_i hz
      exact .inl ⟨toS s, q3, by rw [toS_length, ← SZ_eq]; exact hz, post_val p1 q1 rfl⟩
    · exact p1.elim
  · rename_i i
    split at p1
    · rename_i hz
      exact .inr ⟨i, q3, hz, post_val p1 q1 (by show V.str _ = V.str (toS (decT _)); rw [decT, toS_tlS])⟩
    · exact p1.elim
  · exact p1.elim
theorem toS_app (a b : List Nat) : toS a ++ toS b = toS (a ++ b) := TL.ext_tl (TL.tl_append (toS a) (toS b))
theorem td_join : ∀ {ms : List (M D)} {acc : List Nat} (σ : St) (H : Hp) (Q : VK), TD N (mJoin ms acc) W σ H Q → tJs (ms.map fun m => TD N m W) (toS acc) σ H fun out H1 => Q (.str out) H1
  | [], acc, σ, H, Q, t => by
    obtain ⟨w, ρ, h, r1, r2, p⟩ := t
    exact post_val p r1 rfl
  | m :: ms, acc, σ, H, Q, t => by
    obtain ⟨w, ρ, h, r1, r2, p⟩ := t
    refine TDg.imp (td_bind (m := m) r1 r2 p) fun v H1 ⟨w1, h1, x, l1, q1, q2, q3, p1⟩ => ?_
    split at p1
    · rename_i y
      split at p1
      · rename_i hz
        refine ⟨toS y, q3, by rw [toS_app, toS_length, List.length_append, ← SZ_eq]; exact hz, ?_⟩
        rw [toS_app]
        exact td_join σ H1 Q ⟨w1, ρ, h1, q1, q2, p1⟩
      · exact p1.elim
    · exact p1.elim
theorem pe_join {v1 v2 : Expr} {rest : List Expr} {ms : List (M D)} {pos : Pos} (h : PJ X (v1 :: v2 :: rest) (ms.map fun m => TD N m W)) : PE X (.JoinedStr (v1 :: v2 :: rest) pos) (TD N (mJoin ms []) W) :=
  pe_imp (pe_joined h) fun σ H Q t => td_join σ H Q t
end
end DN

set_option Elab.async false
set_option linter.all false
set_option maxRecDepth 100000
/-! D21: d.get(k, x). -/
namespace DN
open PySem PySem.Spec
open L2 hiding It
open PyProof.Rows hiding St
def mGet2 (a b c : M D) : M D := fun σ h => (a σ h).bind fun x h1 => match dctOf h1 x with
  | some _ => (b σ h1).bind fun y h2 => (c σ h2).bind fun z h3 => match dctOf h3 x with
    | some kvs => if isKey y then .ok ((dget kvs y).getD z) h3 else .no
    | none => .no
  | none => .no
section
variable {X : Cx} {N : Nm} {W : WX}
theorem td_get2 {ma mb mc : M D} (σ : St) (H : Hp) (Q : VK) (t : TD N (mGet2 ma mb mc) W σ H Q) : tDGet2 (TD N ma W) (TD N mb W) (TD N mc W) σ H Q := by
  obtain ⟨w, ρ, h, r1, r2, p⟩ := t
  refine TDg.imp (td_bind (m := ma) r1 r2 p) fun v H1 ⟨w1, h1, x, l1, q1, q2, q3, p1⟩ => ?_
  split at p1
  · rename_i kv e1
    obtain ⟨a, ks, rfl, ha, hr⟩ := q1.dct q3 e1
    refine ⟨a, rfl, .inl ⟨ks, .inl ha⟩, ?_⟩
    refine TDg.imp (td_bind (m := mb) q1 q2 p1) fun v2 H2 ⟨w2, h2, y, l2, s1, s2, s3, p2⟩ => ?_
    refine TDg.imp (td_bind (m := mc) s1 s2 p2) fun v3 H3 ⟨w3, h3, z, l3, u1, u2, u3, p3⟩ => ?_
    split at p3
    · rename_i kvs e3
      obtain ⟨a', ks', ea, ha', hr'⟩ := u1.dct (Rep.up (l2.trans l3) _ _ q3) e3
      cases ea
      split at p3
      · rename_i hk
        obtain ⟨k, hk1, rfl⟩ := keyRep_of hk (Rep.up l3 _ _ s3)
        refine ⟨valV ks' k, .inl ⟨ks', k, .inl ha', rfl, rfl⟩, ?_⟩
        have g := Repd.get hk1 hr'
        split at g
        · rename_i d e2
          obtain ⟨v', h1', h2'⟩ := g
          rw [h1']
          rw [e2] at p3
          exact post_val p3 u1 h2'
        · rename_i e2
          rw [g]
          rw [e2] at p3
          exact post_val p3 u1 u3
      · exact p3.elim
    · exact p3.elim
  · exact p1.elim
theorem snd_get2 {o e f : Expr} {ap pos : Pos} {ma mb mc : M D} (hu : X.A.units + 1 < cLine) (ho : PE X o (TD N ma W)) (he : PE X e (TD N mb W)) (hf : PE X f (TD N mc W)) (m : M2 X o "get" ap e f pos) : PE X (.Call (.Attribute o "get" ap) [e, f] [] pos) (TD N (mGet2 ma mb mc) W) :=
  pe_imp (pe_dget2 hu ho he hf m) fun σ H Q t => td_get2 σ H Q t
end
end DN

set_option Elab.async false
set_option linter.all false
set_option maxRecDepth 100000
/-! D23: sorted texts. -/
namespace DN
open PySem PySem.Spec
open L2 hiding It
open PyProof.Rows hiding St
def insT (x : List Nat) : List (List Nat) → List (List Nat)
  | [] => [x]
  | y :: r => if y < x then y :: insT x r else x :: y :: r
def sortT : List (List Nat) → List (List Nat)
  | [] => []
  | x :: r => insT x (sortT r)
theorem insT_perm (x : List Nat) : ∀ l, (insT x l).Perm (x :: l)
  | [] => .refl _
  | y :: r => by
    unfold insT
    split
    · exact ((insT_perm x r).cons y).trans (.swap x y r)
    · exact .refl _
theorem sortT_perm : ∀ l, (sortT l).Perm l
  | [] => .refl _
  | x :: r => (insT_perm x (sortT r)).trans ((sortT_perm r).cons x)
theorem insT_sorted {x : List Nat} : ∀ {l : List (List Nat)}, l.Pairwise (· ≤ ·) → (insT x l).Pairwise (· ≤ ·)
  | [], _ => by simp [insT]
  | y :: r, h => by
    unfold insT
    rw [List.pairwise_cons] at h
    split
    · rename_i z
      rw [List.pairwise_cons]
      refine ⟨fun a ha => ?_, insT_sorted h.2⟩
      rcases List.mem_cons.mp ((insT_perm x r).mem_iff.mp ha) with rfl | ha
      · exact List.le_of_lt z
      · exact h.1 a ha
    · rename_i z
      have xy : x ≤ y := List.not_lt.mp z
      rw [List.pairwise_cons, List.pairwise_cons]
      refine ⟨fun a ha => ?_, h.1, h.2⟩
      rcases List.mem_cons.mp ha with rfl | ha
      · exact xy
      · exact List.le_trans xy (h.1 a ha)
theorem sortT_sorted : ∀ l, (sortT l).Pairwise (· ≤ ·)
  | [] => .nil
  | x :: r => insT_sorted (sortT_sorted r)
theorem perm_sorted_eq : ∀ {l m : List (List Nat)}, l.Perm m → l.Pairwise (· ≤ ·) → m.Pairwise (· ≤ ·) → l = m
  | [], m, p, _, _ => (List.Perm.nil_eq p)
  | x :: l, m, p, hl, hm => by
    cases m with
    | nil => exact absurd p.length_eq (by simp)
    | cons y m =>
      rw [List.pairwise_cons] at hl hm
      have e : x = y := by
        rcases List.mem_cons.mp (p.mem_iff.mp List.mem_cons_self) with e | hx
        · exact e
        · rcases List.mem_cons.mp (p.mem_iff.mpr List.mem_cons_self) with e | hy
          · exact e.symm
          · exact List.le_antisymm (hl.1 y hy) (hm.1 x hx)
      subst e
      rw [perm_sorted_eq (List.Perm.cons_inv p) hl.2 hm.2]
theorem risingS_pw : ∀ {p : Str} {l : List Str}, risingS p l = true → (p :: l).Pairwise fun a b => a.cps.toList ≤ b.cps.toList
  | p, [], _ => by simp
  | p, x :: r, h => by
    unfold risingS at h
    rw [Bool.and_eq_true, ltCps_eq] at h
    have px : p.cps.toList ≤ x.cps.toList := by
      have := h.1
      simp at this
      exact this
    have ih := risingS_pw h.2
    rw [List.pairwise_cons]
    refine ⟨fun a ha => ?_, ih⟩
    rcases List.mem_cons.mp ha with rfl | ha
    · exact px
    · rw [List.pairwise_cons] at ih
      exact List.le_trans px (ih.1 a ha)
theorem sorted_is {xs : List (List Nat)} {ys : List Str} (p : ys.Perm (xs.map toS)) (h : sortedS ys = true) : ys = (sortT xs).map toS := by
  have e1 : (ys.map fun y => y.cps.toList) = sortT xs := by
    refine perm_sorted_eq ?_ ?_ (sortT_sorted xs)
    · have q := p.map fun y : Str => y.cps.toList
      rw [List.map_map] at q
      have e : (xs.map ((fun y : Str => y.cps.toList) ∘ toS)) = xs := by
        have : ((fun y : Str => y.cps.toList) ∘ toS) = id := by
          funext s
          rfl
        rw [this, List.map_id]
      rw [e] at q
      exact q.trans (sortT_perm xs).symm
    · rw [List.pairwise_map]
      cases ys with
      | nil => exact .nil
      | cons y r => exact risingS_pw h
  rw [← e1, List.map_map]
  have : (toS ∘ fun y : Str => y.cps.toList) = id := by
    funext y
    exact toS_of y
  rw [this, List.map_id]
end DN

set_option Elab.async false
set_option linter.all false
set_option maxRecDepth 100000
set_option maxHeartbeats 4000000
/-! D24: sorted of a tuple of texts. -/
namespace DN
open PySem PySem.Spec
open L2 hiding It
open PyProof.Rows hiding St
section
variable {prog : Program} {w : World} {A : Around} {E : Value → Shared → Prop} {s : Shared}
theorem collect_tup {l : Addr} {vs : List Value} {Q : List Value → Shared → Prop} (hl : IsTup s.heap l vs.toArray)
    (h : Q vs { s with heap := (s.heap.push (seqObj "list" #[] 0)).update s.heap.objs.size (Obj.mapSeq (· ++ vs.toArray)) }) (hsz : vs.length ≤ sizeLine) :
    wpAny (model prog w) A (collect (.ref l)) Q E s := by
  obtain ⟨o, ho, hc, n, hd⟩ := id hl
  unfold collect
  refine wpAny_bind (wpAny_runValue (codeAny_builtin entry_proto_collect' ?_))
  show wpAny _ _ (do again (.builtin "list.__iadd__" ⟨[← newList [], .ref l], []⟩)) _ _ s
  refine wpAny_bind (wpAny_newList (wpAny_pure ⟨Code.quiet_builtin _ (by decide +kernel), codeAny_builtin entry_list_iadd' ?_⟩))
  show wpAny _ _ (Builtin.List.listExtendWith (.ref s.heap.objs.size) (.ref l) (.ref s.heap.objs.size)) _ _ { s with heap := s.heap.push (seqObj "list" #[] 0) }
  unfold Builtin.List.listExtendWith
  have ho' : (s.heap.push (seqObj "list" #[] 0)).get? l = some o := Heap.get?_push_of_some _ ho
  refine wpAny_bind (wpAny_typeOf (T := "tuple") ⟨o, ho', hc⟩ ?_)
  have ht : (Value.type "tuple" == Value.type "tuple") = true := by rfl
  rw [if_pos (by rw [ht]; simp)]
  refine wpAny_bind (listItems_at ho' hd ?_)
  refine wpAny_bind (listItems_at (xs := #[]) (n := 0) (Heap.get?_push_size _ rfl) rfl ?_)
  rw [if_neg (by simp)]
  refine wpAny_bind (listUpdate_at (xs := #[]) (n := 0) (Heap.get?_push_size _ rfl) rfl ?_ (Nat.zero_le _) (by show (#[] ++ vs.toArray).size ≤ sizeLine + 1; simp only [Array.size_append, List.size_toArray, List.length_nil]; omega))
  refine wpAny_pure ?_
  show wpAny (model prog w) A (do
      let o ← load s.heap.objs.size
      match o.data with
      | .seq xs _ => pure xs.toList
      | _ => unsupported "internal:collect") Q E { s with heap := (s.heap.push (seqObj "list" #[] 0)).update s.heap.objs.size (Obj.mapSeq (· ++ vs.toArray)) }
  refine wpAny_bind (wpAny_load (get?_update_seq (Heap.get?_push_size _ rfl) _) ?_)
  show wpAny _ _ (pure ((#[] : Array Value) ++ vs.toArray).toList) Q E _
  rw [show ((#[] : Array Value) ++ vs.toArray).toList = vs by simp]
  exact wpAny_pure h
theorem sortedKT {κ : KeyKind} (hO : κ.OneLt) {l : Addr} {vs : List Value} {Q : Value → Shared → Prop} (hl : IsTup s.heap l vs.toArray) (h0 : KeysOf κ (pairsOf vs)) (hkk : ∀ v₁ v₂ rest, vs = v₁ :: v₂ :: rest → keyKind' (v₁ :: v₂ :: rest).toArray = pure oneType') (h64 : vs.length < 64)
    (h : ∀ st' : SortSt, (arrOf st').Perm (pairsOf vs) → SortedToK κ (arrOf st') (pairsOf vs).size → Q (.ref (s.heap.objs.size + 1)) { s with heap := sortedAll s.heap vs ((arrOf st').map (·.2)) }) :
    wpAny (model prog w) A (call (.builtin "sorted") [.ref l]) Q E s := by
  refine Calls.call_function_entry kind_sorted plain_sorted entry_sorted (args_sorted1 _) ?_
  unfold Builtin.«sorted»
  refine wpAny_bind (m := checkCount "sorted" 1 1 _) (wpAny_pure ?_)
  refine wpAny_bind (collect_tup hl ?_ (by rw [sizeLine_eq]; omega))
  refine wpAny_bind (wpAny_newList ?_)
  have hsz : ((s.heap.push (seqObj "list" #[] 0)).update s.heap.objs.size (Obj.mapSeq (· ++ vs.toArray))).objs.size = s.heap.objs.size + 1 := by
    rw [Heap.size_update, size_push']
  have hoL : (((s.heap.push (seqObj "list" #[] 0)).update s.heap.objs.size (Obj.mapSeq (· ++ vs.toArray))).push (seqObj "list" vs.toArray 0)).get? (s.heap.objs.size + 1) = some (seqObj "list" vs.toArray 0) := by
    rw [← hsz]; exact Heap.get?_push_size _ rfl
  show wpAny _ _ _ _ _ { s with heap := ((s.heap.push (seqObj "list" #[] 0)).update s.heap.objs.size (Obj.mapSeq (· ++ vs.toArray))).push (seqObj "list" vs.toArray 0) }
  rw [hsz]
  refine wpAny_bind (wpAny_holding (wpAny_call_entry slot_list_sort ⟨_, hoL, rfl⟩ entry_list_sort (list_sort_treeK hO hoL h0 hkk h64 fun st' a1 a2 => ⟨_, rfl, ?_⟩) (args_list_sort _)))
  exact wpAny_pure ⟨_, rfl, h st' a1 a2⟩
theorem sorted_strsT {l : Addr} {vs : List Value} {ss : List Str} {Q : Value → Shared → Prop} (hl : IsTup s.heap l vs.toArray) (hS : StrsAre vs ss) (h64 : vs.length < 64)
    (h : ∀ (out : Array Value) (ss' : List Str), StrsAre out.toList ss' → ss'.Perm ss → sortedS ss' = true → Q (.ref (s.heap.objs.size + 1)) { s with heap := sortedAll s.heap vs out }) :
    wpAny (model prog w) A (call (.builtin "sorted") [.ref l]) Q E s := by
  refine sortedKT strKind_oneLt hl hS.keysOf (fun v₁ v₂ rest e => keyKind_strs (by rw [← e]; exact hS)) h64 fun st' hp hs => ?_
  obtain ⟨ss', h1, h2, h3⟩ := sorted_out_str hS hp hs
  exact h _ ss' h1 h2 h3
end
def rSortedTS (K : PySem.W.Frag) : List V → Hp → VK → Prop := fun vs H Q => ∃ (a : Addr) (xs : List Str), vs = [V.ref a] ∧ SqT K H a (xs.map V.str) ∧ xs.length < 64 ∧
  ∀ (ys : List Str) (p : Addr), ys.Perm xs → sortedS ys = true → H p = none → Q (.ref p) (upd H p (.lst (ys.map V.str)))
theorem cr_sortedTS {X : Cx} : CallR X (.builtin "sorted") (rSortedTS X.K) := by
  intro pins s σ H vs us Q I r h
  obtain ⟨a, xs, rfl, hs, h64, q⟩ := h
  obtain ⟨its, rv, hl, _⟩ := I.tuple hs
  rw [Vals.ref1 r]
  have hlen0 := rv.length
  rw [List.length_map] at hlen0
  refine sorted_strsT hl rv.strs (by rw [← hlen0]; exact h64) fun out ys h1 h2 h3 => ?_
  obtain ⟨ep, he'⟩ := PyProof.Rows.sortedAll_at s.heap its out
  have hlen : (ys.map V.str).length ≤ sizeLine := by rw [List.length_map, h2.length_eq]; exact small64 h64
  exact ⟨.ref _, upd H (s.heap.objs.size + 1) (.lst (ys.map V.str)), I.laid (t' := s.toks) (fun _ _ => PyProof.Rows.sortedAll_old) (Nat.le_succ _) ⟨hlen, out.toList, ep, vals_of_strs h1, he'⟩, rfl, q ys _ h2 h3 (I.hok.fresh (Nat.le_succ _))⟩
end DN

set_option Elab.async false
set_option linter.all false
set_option maxRecDepth 100000
/-! D25: sorted of texts as a meaning. -/
namespace DN
open PySem PySem.Spec
open L2 hiding It
open PyProof.Rows hiding St
def bSorted (hp : Bool) (ds : List D) (h : Hs) : R D := match ds with
  | [d] => (match seqOf h d with
    | some xs => (match txtsOf xs with
      | some ys => if ys.length < 64 then mkL hp ((sortT ys).map .str) h else .no
      | none => .no)
    | none => .no)
  | _ => .no
def rSortedA (K : PySem.W.Frag) : List V → Hp → VK → Prop := fun vs H Q => rSortedS K vs H Q ∨ rSortedTS K vs H Q
theorem cr_sortedA {X : Cx} : CallR X (.builtin "sorted") (rSortedA X.K) := CallR.or cr_sortedS cr_sortedTS
theorem reps_strs {N : Nm} {w : Wd} : ∀ (ys : List (List Nat)), Reps N w (ys.map .str) ((ys.map toS).map V.str)
  | [] => rfl
  | y :: ys => ⟨_, _, rfl, rfl, reps_strs ys⟩
theorem cbs_sorted {N : Nm} (hp : Bool) : CbS N (rSortedA N.K) (bSorted hp) := by
  intro W w h H σ ds vs Q r q p
  unfold bSorted at p
  split at p
  · obtain ⟨v, rfl, q0⟩ := reps1 q
    split at p
    · rename_i xs e1
      obtain ⟨a, us, rfl, ha, hr⟩ := r.seq q0 e1
      split at p
      · rename_i ys e2
        split at p
        · rename_i hz
          have eu : us = (ys.map toS).map V.str := txts_rep e2 hr
          subst eu
          have fin : ∀ (zs : List Str) (p : Addr), zs.Perm (ys.map toS) → sortedS zs = true → H p = none → Q (.ref p) (upd H p (.lst (zs.map V.str))) := fun zs b pz sz hb => by
            rw [sorted_is pz sz]
            exact (post_mkL r (reps_strs (sortT ys)) p).2 b hb
          rcases ha with ha | ha
          · first
              | exact .inl ⟨a, ys.map toS, rfl, ha, by simpa using hz, fin⟩
              | exact .inr ⟨a, ys.map toS, rfl, ha, by simpa using hz, fin⟩
          · first
              | exact .inl ⟨a, ys.map toS, rfl, ha, by simpa using hz, fin⟩
              | exact .inr ⟨a, ys.map toS, rfl, ha, by simpa using hz, fin⟩
        · exact p.elim
      · exact p.elim
    · exact p.elim
  · exact p.elim
end DN

set_option Elab.async false
set_option linter.all false
set_option maxRecDepth 100000
/-! D26: list comprehensions of two clauses, without tests. -/
namespace DN
open PySem PySem.Spec
open L2 hiding It
open PyProof.Rows hiding St
noncomputable def lc2Go (chk : Hs → Prop) (own own1 : List Nat) (g : Tg) (it1 : It) (g1 : Tg) (e : M D) : List D → Env → Hs → R (List D)
  | [], _, h => open Classical in if chk h then .ok [] h else .no
  | x :: xs, σ, h => open Classical in if chk h then (match g x (wipeE σ own) h with
    | .ok σ1 h1 => (match it1 σ1 h1 with
      | .ok p h2 => (match lcGo p.2 own1 g1 tYesM e p.1 σ1 h2 with
        | .ok zs h3 => (match lc2Go chk own own1 g it1 g1 e xs σ h3 with
          | .ok r h4 => .ok (zs ++ r) h4
          | _ => .no)
        | _ => .no)
      | _ => .no)
    | _ => .no) else .no
noncomputable def mLc2 (hp : Bool) (own own1 is is1 : List Nat) (it it1 : It) (e : M D) : M D := fun σ h => (it σ h).bind fun p h1 => match lc2Go p.2 own own1 (cTg is) it1 (cTg is1) e p.1 σ h1 with
  | .ok ys h2 => mkL hp ys h2
  | _ => .no
theorem relE_np {N : Nm} {w : Wd} {ρ : Env} {σ : St} (r : RelE N w ρ σ) : RelE N w.np ρ σ := ⟨r.1, fun i d e => by
  obtain ⟨v, h1, h2⟩ := r.2 i d e
  exact ⟨v, h1, Rep.np _ _ h2⟩, r.x⟩
section
variable {X : Cx} {N : Nm} {W : WX} {m : M D} {it it1 : DN.It} {is is1 : List Nat} {hp : Bool}
theorem td_lc2 (hx : N.Cold) {vs vs1 : List Nat} (hi : ∀ i ∈ is, i ∈ vs) (hk : isOk is = true) (hi1 : ∀ i ∈ is1, i ∈ vs1) (hk1 : isOk is1 = true) (σ : St) (H : Hp) (Q : VK) (tt : TD N (mLc2 hp vs vs1 is is1 it it1 m) W σ H Q) :
    tLc2 (TDI N it W) (gC N.K is) (TDt N tYesM W0) (TDI N it1 W0) (gC N.K is1) (TDt N tYesM W0) (TD N m W0) vs vs1 σ H Q := by
  obtain ⟨w, ρ, h, r1, r2, p⟩ := tt
  refine TDg.imp (td_bind (m := it) r1 r2 p) fun J H1 ⟨w1, h1, x, l1, q1, q2, q3, p1⟩ => ?_
  obtain ⟨xs, chk⟩ := x
  have q3 : JOk N w1 J xs chk := q3
  have p1 : Post N (Rep N) W w1 σ Q (match lc2Go chk vs vs1 (cTg is) it1 (cTg is1) m xs ρ h1 with | .ok ys h2 => mkL hp ys h2 | _ => .no) := p1
  intro D hD
  obtain ⟨f1, f2, f3⟩ := q1.free hD
  refine ⟨fun i k H => ∃ w h acc av, w1.le w ∧ RelH N w h H ∧ w.pv D = some (.lst av) ∧ Reps N w acc av ∧ k = xs.length - i ∧ i ≤ xs.length ∧ Post N (Rep N) W w1 σ Q (match lc2Go chk vs vs1 (cTg is) it1 (cTg is1) m (xs.drop i) ρ h with | .ok ys h2 => mkL hp (acc ++ ys) h2 | _ => .no),
    ⟨xs.length, w1.hold D (.lst []), h1, [], [], le_hold (Wd.le.refl w1) f2, q1.hold hx f1 f3 (fun ps z => by rw [hD] at z; cases z), upd_same, rfl, by omega, Nat.zero_le _, p1⟩, fun i k H2 tt => ?_⟩
  obtain ⟨w2, h2, acc, av, l2, s1, s2, s3, rfl, hi2, p2⟩ := tt
  by_cases he : i = xs.length
  · subst he
    rw [List.drop_length] at p2
    unfold lc2Go at p2
    by_cases hc : chk h2
    · rw [if_pos hc] at p2
      refine .inl ⟨(q3 w2 h2 H2 _ (Wd.np_le l2) s1 hc).1 rfl, ?_⟩
      have p2 : Post N (Rep N) W w1 σ Q (mkL hp (acc ++ []) h2) := p2
      rw [List.append_nil] at p2
      have hz : acc.length ≤ SZ := by
        unfold mkL at p2
        split at p2
        · assumption
        · exact p2.elim
      exact s1.give hx hp s2 s3 hz l2 f2 p2
    · rw [if_neg hc] at p2
      exact p2.elim
  · have hlt : i < xs.length := by omega
    rw [List.drop_eq_getElem_cons hlt] at p2
    unfold lc2Go at p2
    by_cases hc : chk h2
    · rw [if_pos hc] at p2
      obtain ⟨go, yld⟩ := (q3 w2 h2 H2 i (Wd.np_le l2) s1 hc).2 xs[i] (List.getElem?_eq_getElem hlt)
      refine .inr ⟨go, fun H' => ∃ w h acc av, w1.le w ∧ RelH N w h H' ∧ w.pv D = some (.lst av) ∧ Reps N w acc av ∧ Post N (Rep N) W w1 σ Q (match lc2Go chk vs vs1 (cTg is) it1 (cTg is1) m (xs.drop (i + 1)) ρ h with | .ok ys h2 => mkL hp (acc ++ ys) h2 | _ => .no), fun H' tt => ?_, fun x H' hy => ?_⟩
      · obtain ⟨w3, h3, acc3, av3, y1, y2, y3, y4, y5⟩ := tt
        exact ⟨xs.length - (i + 1), by omega, w3, h3, acc3, av3, y1, y2, y3, y4, rfl, hlt, y5⟩
      · obtain ⟨w3, l3, t1, t2⟩ := yld x H' hy
        have l13 := l2.trans l3
        have re3 : RelE N w3 (wipeE ρ vs) (wipe σ vs) := relE_wipe hx (q2.up l13) vs
        cases e1 : cTg is xs[i] (wipeE ρ vs) h2 with
        | xc c fs h' => rw [e1] at p2; exact p2.elim
        | no => rw [e1] at p2; exact p2.elim
        | ok ρ1 hh1 =>
          rw [e1] at p2
          dsimp only at p2
          refine gC_ok hx t1 re3 t2 hi hk e1 fun σ2 re4 hw hh => ?_
          refine ⟨by rw [hw, wipe_wipe], ?_⟩
          subst hh
          refine ⟨w3, ρ1, hh1, t1, re4, ?_⟩
          intro w4 H4 b' l4 u1 u2
          cases u2
          rw [if_pos rfl]
          refine ⟨w4, ρ1, hh1, u1, re4.up l4, ?_⟩
          cases e2 : it1 ρ1 hh1 with
          | xc c fs h' => rw [e2] at p2; exact p2.elim
          | no => rw [e2] at p2; exact p2.elim
          | ok p h4 =>
            rw [e2] at p2
            dsimp only at p2
            obtain ⟨ys, chk1⟩ := p
            intro w5 H5 J1 l5 u3 u4
            have u4 : JOk N w5 J1 ys chk1 := u4
            have l15 : w1.le w5 := (l13.trans l4).trans l5
            have l35 : w3.le w5 := l4.trans l5
            have p2 : Post N (Rep N) W w1 σ Q (match (match lcGo chk1 vs1 (cTg is1) tYesM m ys ρ1 h4 with
              | .ok zs h3 => (match lc2Go chk vs vs1 (cTg is) it1 (cTg is1) m (xs.drop (i + 1)) ρ h3 with
                | .ok r h4 => .ok (zs ++ r) h4
                | _ => .no)
              | _ => .no : R (List DN.D)) with
              | .ok ys h2 => mkL hp (acc ++ ys) h2
              | _ => .no) := p2
            refine ⟨fun j k H => ∃ w h acc av, w5.np.le w ∧ w1.le w ∧ RelH N w h H ∧ w.pv D = some (.lst av) ∧ Reps N w acc av ∧ k = ys.length - j ∧ j ≤ ys.length ∧ Post N (Rep N) W w1 σ Q (match (match lcGo chk1 vs1 (cTg is1) tYesM m (ys.drop j) ρ1 h with
              | .ok zs h3 => (match lc2Go chk vs vs1 (cTg is) it1 (cTg is1) m (xs.drop (i + 1)) ρ h3 with
                | .ok r h4 => .ok (zs ++ r) h4
                | _ => .no)
              | _ => .no : R (List DN.D)) with
              | .ok ys h2 => mkL hp (acc ++ ys) h2
              | _ => .no), ⟨ys.length, w5, h4, acc, av, Wd.np_le (Wd.le.refl w5), l15, u3, l35.pv _ _ (l3.pv _ _ s2), Reps.up (l3.trans l35) _ _ s3, by omega, Nat.zero_le _, p2⟩, fun j k H6 tt => ?_⟩
            obtain ⟨w6, h6, acc6, av6, l6, l16, v1, v2, v3, rfl, hj, p6⟩ := tt
            have re6 : RelE N w6 ρ1 σ2 := RelE.up l6 (relE_np (re4.up l35))
            by_cases hje : j = ys.length
            · subst hje
              rw [List.drop_length] at p6
              unfold lcGo at p6
              by_cases hc1 : chk1 h6
              · rw [if_pos hc1] at p6
                refine .inl ⟨(u4 w6 h6 H6 _ l6 v1 hc1).1 rfl, w6, h6, acc6, av6, l16, v1, v2, v3, ?_⟩
                dsimp only at p6
                cases e7 : lc2Go chk vs vs1 (cTg is) it1 (cTg is1) m (xs.drop (i + 1)) ρ h6 with
                | xc c fs h' => rw [e7] at p6; exact p6.elim
                | no => rw [e7] at p6; exact p6.elim
                | ok r h8 =>
                  rw [e7] at p6
                  exact p6
              · rw [if_neg hc1] at p6
                exact p6.elim
            · have hltj : j < ys.length := by omega
              rw [List.drop_eq_getElem_cons hltj] at p6
              unfold lcGo at p6
              by_cases hc1 : chk1 h6
              · rw [if_pos hc1] at p6
                obtain ⟨go1, yld1⟩ := (u4 w6 h6 H6 j l6 v1 hc1).2 ys[j] (List.getElem?_eq_getElem hltj)
                refine .inr ⟨go1, fun H' => ∃ w h acc av, w5.np.le w ∧ w1.le w ∧ RelH N w h H' ∧ w.pv D = some (.lst av) ∧ Reps N w acc av ∧ Post N (Rep N) W w1 σ Q (match (match lcGo chk1 vs1 (cTg is1) tYesM m (ys.drop (j + 1)) ρ1 h with
                  | .ok zs h3 => (match lc2Go chk vs vs1 (cTg is) it1 (cTg is1) m (xs.drop (i + 1)) ρ h3 with
                    | .ok r h4 => .ok (zs ++ r) h4
                    | _ => .no)
                  | _ => .no : R (List DN.D)) with
                  | .ok ys h2 => mkL hp (acc ++ ys) h2
                  | _ => .no), fun H' tt => ?_, fun x H' hy => ?_⟩
                · obtain ⟨w7, h7, acc7, av7, y1, y0, y2, y3, y4, y5⟩ := tt
                  exact ⟨ys.length - (j + 1), by omega, w7, h7, acc7, av7, y1, y0, y2, y3, y4, rfl, hltj, y5⟩
                · obtain ⟨w7, l7, t71, t72⟩ := yld1 x H' hy
                  have re7 : RelE N w7 (wipeE ρ1 vs1) (wipe σ2 vs1) := relE_wipe hx (re6.up l7) vs1
                  cases e7 : cTg is1 ys[j] (wipeE ρ1 vs1) h6 with
                  | xc c fs h' => rw [e7] at p6; exact p6.elim
                  | no => rw [e7] at p6; exact p6.elim
                  | ok ρ7 hh7 =>
                    rw [e7] at p6
                    dsimp only at p6
                    refine gC_ok hx t71 re7 t72 hi1 hk1 e7 fun σ7 re8 hw7 hh => ?_
                    refine ⟨by rw [hw7, wipe_wipe], ?_⟩
                    subst hh
                    refine ⟨w7, ρ7, hh7, t71, re8, ?_⟩
                    intro w8 H8 b' l8 u81 u82
                    cases u82
                    rw [if_pos rfl]
                    refine ⟨w8, ρ7, hh7, u81, re8.up l8, ?_⟩
                    have ey : tYesM ρ7 hh7 = R.ok true hh7 := rfl
                    rw [ey] at p6
                    dsimp only at p6
                    cases e9 : m ρ7 hh7 with
                    | xc c fs h' => rw [e9] at p6; exact p6.elim
                    | no => rw [e9] at p6; exact p6.elim
                    | ok y h9 =>
                      rw [e9] at p6
                      dsimp only at p6
                      intro w9 H9 yv l9 u91 u92
                      have lpv : w9.pv D = some (.lst av6) := l9.pv _ _ (l8.pv _ _ (l7.pv _ _ v2))
                      obtain ⟨z1, z2, z3⟩ := u91.prv D _ lpv
                      have racc : Reps N w9 acc6 av6 := Reps.up ((l7.trans l8).trans l9) _ _ v3
                      cases e10 : lcGo chk1 vs1 (cTg is1) tYesM m (ys.drop (j + 1)) ρ1 h9 with
                      | xc c fs h' => rw [e10] at p6; exact p6.elim
                      | no => rw [e10] at p6; exact p6.elim
                      | ok zs h10 =>
                        rw [e10] at p6
                        dsimp only at p6
                        cases e11 : lc2Go chk vs vs1 (cTg is) it1 (cTg is1) m (xs.drop (i + 1)) ρ h10 with
                        | xc c fs h' => rw [e11] at p6; exact p6.elim
                        | no => rw [e11] at p6; exact p6.elim
                        | ok r h11 =>
                          rw [e11] at p6
                          have p6 : Post N (Rep N) W w1 σ Q (mkL hp (acc6 ++ (y :: zs ++ r)) h11) := p6
                          have hz : (acc6 ++ (y :: zs ++ r)).length ≤ SZ := by
                            unfold mkL at p6
                            split at p6
                            · assumption
                            · exact p6.elim
                          simp only [List.length_append, List.length_cons] at hz
                          refine ⟨av6, z1, by rw [racc.length, ← SZ_eq]; omega, w9.hold D (.lst (av6 ++ [yv])), h9, acc6 ++ [y], av6 ++ [yv], ?_, le_hold (((l16.trans l7).trans l8).trans l9) f2, u91.hold hx z2 z3 (fun ps z => by rw [z1] at z; cases z), upd_same, ?_, ?_⟩
                          · have l59 := ((l6.trans l7).trans l8).trans l9
                            exact le_hold (w1 := w5.np) l59 rfl
                          · exact Reps.append (reps_hold racc) ⟨yv, [], rfl, rep_hold u92, rfl⟩
                          · rw [e10]
                            dsimp only
                            rw [e11]
                            show Post N (Rep N) W w1 σ Q (mkL hp (acc6 ++ [y] ++ (zs ++ r)) h11)
                            have e12 : acc6 ++ [y] ++ (zs ++ r) = acc6 ++ (y :: zs ++ r) := by simp
                            rw [e12]
                            exact p6
              · rw [if_neg hc1] at p6
                exact p6.elim
    · rw [if_neg hc] at p2
      exact p2.elim
/-- what a block's parts must keep -/
structure Blk2S (X : Cx) (N : Nm) (scope : Scope) (tg tg1 iter1 elt : Expr) (is is1 : List Nat) (it1 : DN.It) (m : M D) : Prop where
  g : ∀ (s : Shared) (H : Hp) (C : Addr) (cl : List (Str × Addr)) (fp : List Addr), PG (X.blk s H scope (compEnvC scope cl C X.env) fp) tg (gC X.K is)
  g1 : ∀ (s : Shared) (H : Hp) (C : Addr) (cl : List (Str × Addr)) (fp : List Addr), PG (X.blk s H scope (compEnvC scope cl C X.env) fp) tg1 (gC X.K is1)
  i1 : ∀ (s : Shared) (H : Hp) (C : Addr) (cl : List (Str × Addr)) (fp : List Addr), PI (X.blk s H scope (compEnvC scope cl C X.env) fp) tg1 iter1 (TDI N it1 W0)
  e : ∀ (s : Shared) (H : Hp) (C : Addr) (cl : List (Str × Addr)) (fp : List Addr), PE (X.blk s H scope (compEnvC scope cl C X.env) fp) elt (TD N m W0)
theorem snd_lc2 {elt tg iter tg1 iter1 : Expr} {scope : Scope} {own : List (Str × Nat)} {vs1 : List Nat} {pos : Pos} (hx : N.Cold) (hK : X.K = N.K) (hc : X.calm = true) (hN : X.N.Nodup) (hi : PI X tg iter (TDI N it W)) (ok : BlkOk X.N X.env.scope scope own) (hb : Blk2S X N scope tg tg1 iter1 elt is is1 it1 m) (hin : ∀ i ∈ is, i ∈ own.map (·.2)) (hk : isOk is = true)
    (hin1 : ∀ i ∈ is1, i ∈ vs1) (hk1 : isOk is1 = true) (hv : ∀ i ∈ vs1, i ∈ own.map (·.2)) (hs : ∀ x, foldedSetIterable iter X.env x = pure x) (hs1 : ∀ env x, foldedSetIterable iter1 env x = pure x) : PE X (.ListComp elt [⟨tg, iter, [], 0⟩, ⟨tg1, iter1, [], 0⟩] scope pos) (TD N (mLc2 hp (own.map (·.2)) vs1 is is1 it it1 m) W) :=
  pe_imp (pe_lc2 hc hN hi ok hv hb.g (fun s H C cl fp => snd_tests0) hb.i1 hb.g1 (fun s H C cl fp => snd_tests0) hb.e hs hs1) (by rw [hK]; exact td_lc2 hx hin hk hin1 hk1)
theorem snd_setlc2 {elt tg iter tg1 iter1 : Expr} {scope : Scope} {own : List (Str × Nat)} {vs1 : List Nat} {pos : Pos} (hx : N.Cold) {i : Nat} {y : Str} {py spos : Pos} (hK : X.K = N.K) (hc : X.calm = true) (hN : X.N.Nodup) (hy : X.N[i]? = some y) (hyl : X.env.scope.names.lookup y = some .local) (hsw : swapsWith (.ListComp elt [⟨tg, iter, [], 0⟩, ⟨tg1, iter1, [], 0⟩] scope pos) (some (.Name y py)) spos.line X.env = pure true)
    (hi : PI X tg iter (TDI N it W)) (ok : BlkOk X.N X.env.scope scope own) (hb : Blk2S X N scope tg tg1 iter1 elt is is1 it1 m) (hin : ∀ i ∈ is, i ∈ own.map (·.2)) (hk : isOk is = true)
    (hin1 : ∀ i ∈ is1, i ∈ vs1) (hk1 : isOk is1 = true) (hv : ∀ i ∈ vs1, i ∈ own.map (·.2)) (hs : ∀ x, foldedSetIterable iter X.env x = pure x) (hs1 : ∀ env x, foldedSetIterable iter1 env x = pure x) : PS X (.Assign [.Name y py] (.ListComp elt [⟨tg, iter, [], 0⟩, ⟨tg1, iter1, [], 0⟩] scope pos) spos) (TDS N (sAsg (mLc2 hp (own.map (·.2)) vs1 is is1 it it1 m) (gVar i)) W) :=
  ps_imp (ps_setLc2 hc hN hy hyl hsw hi ok hv hb.g (fun s H C cl fp => snd_tests0) hb.i1 hb.g1 (fun s H C cl fp => snd_tests0) hb.e hs hs1) fun Dn σ H tt => by
    have z := td_asg Dn σ H tt
    have z2 : TD N (mLc2 hp (own.map (·.2)) vs1 is is1 it it1 m) W σ H fun x H1 => gName i x σ H1 Dn.nx := TDg.imp z fun v H1 q => by
      obtain ⟨w, ρ, h, d, r1, r2, q, p⟩ := q
      exact p w _ H1 (Wd.le.refl w) r1 (r2.set hx.1 q)
    rw [hK]
    exact td_lc2 hx hin hk hin1 hk1 σ H _ z2
end
end DN

set_option Elab.async false
set_option linter.all false
set_option maxRecDepth 100000
set_option maxHeartbeats 4000000
/-! D27: sorted(set(xs)), xs a list of texts. -/
namespace DN
open PySem PySem.Spec
open L2 hiding It
open PyProof.Rows hiding St

def keyT (e : Int × Value) : Str := match e.2 with
  | .str x _ => x
  | _ => Str.empty
def GoodT (w : World) (e : Int × Value) : Prop := ∃ x tk, e.2 = Value.str x tk ∧ e.1 = hashStr w x
/-- the payload of a set of texts: S its members, n their number -/
structure TxD (w : World) (S : Str → Bool) (n : Nat) (es : Array (Int × Value)) (t : SetTable) : Prop where
  good : ∀ e ∈ es.toList, GoodT w e
  nod : (es.toList.map keyT).Nodup
  mem : ∀ k, S k = true ↔ k ∈ es.toList.map keyT
  bd : es.size < scanBound
  fit : t.fits es.size = true
  num : es.size = n
  ris : Ris t.place.toList
  led : w.params.followText "set-order" = true ∨ t.led = true
def SetTx (w : World) (h : Heap) (a : Addr) (S : Str → Bool) (n : Nat) : Prop := ∃ o es ep t, h.get? a = some o ∧ o.ExactSet ∧ o.data = .set es ep t ∧ TxD w S n es t
section
variable {P : Program} {w : World} {h h' : Heap} {a : Addr} {S S' : Str → Bool} {n : Nat} {es es2 : Array (Int × Value)} {t t2 : SetTable}
theorem SetTx.at (R : SetTx w h a S n) (k : ∀ o, h.get? a = some o → h'.get? a = some o) : SetTx w h' a S n := by
  obtain ⟨o, es, ep, t, ho, r⟩ := R
  exact ⟨o, es, ep, t, k o ho, r⟩
theorem SetTx.congr (R : SetTx w h a S n) (e : ∀ k, S' k = S k) : SetTx w h a S' n := by
  rw [show S' = S from funext e]
  exact R
theorem TxD.elems (x : TxD w S n es t) : ElemsOf (PySem.strKind P w) es.toList := fun e he => by
  obtain ⟨k, tk, h1, h2⟩ := x.good e he
  exact ⟨⟨k, by rw [h1]; exact strKind_is P w k tk, h2⟩, by rw [h1] <;> rfl⟩
theorem TxD.perm (x : TxD w S n es t) (p : es2.toList.Perm es.toList) (f : t2.fits es2.size = true) (r : Ris t2.place.toList) (l : t2.led = t.led) : TxD w S n es2 t2 := by
  have z : es2.size = es.size := by rw [← Array.length_toList, p.length_eq, Array.length_toList]
  exact ⟨fun e he => x.good e (p.mem_iff.mp he), (p.map keyT).nodup_iff.mpr x.nod, fun k => (x.mem k).trans (p.map keyT).mem_iff.symm, by rw [z]; exact x.bd, f, by rw [z]; exact x.num, r, x.led.imp id fun y => by rw [l]; exact y⟩
theorem good_key {e : Int × Value} (g : GoodT w e) (k : Str) : (PySem.strKind P w).is k e.2 = true ↔ keyT e = k := by
  obtain ⟨k0, tk, h1, _⟩ := g
  unfold keyT
  rw [h1]
  show (Value.isStrOf k (.str k0 tk) = true) ↔ k0 = k
  simp [Value.isStrOf]
end
section
variable {P : Program} {w : World} {A : Around} {E : Value → Shared → Prop} {s : Shared} {a : Addr} {S : Str → Bool} {n : Nat}
/-- one laid: stored, and all laid anew where it got too full -/
theorem tx_tail {g : Bool → Sem Unit} (hg : ∀ (b : Bool) (s₁ : Shared) (Q' : Unit → Shared → Prop), Q' () s₁ → wpAny (model P w) A (g b) Q' E s₁) {o : Obj} {es : Array (Int × Value)} {ep : Nat} {t : SetTable} (ho : s.heap.get? a = some o) (hex : o.ExactSet) (hd : o.data = .set es ep t)
    {es1 : Array (Int × Value)} {t2 : SetTable} {S' : Str → Bool} {m : Nat} (x : TxD w S' m es1 t2) {wd : Bool} {R : Option Bool → Shared → Prop} (hR : ∀ h', Heap.SameBut a s.heap h' → SetTx w h' a S' m → R (some true) { s with heap := h' }) :
    wpAny (model P w) A (do
        storeSet a es1 t2
        if (!wd && t2.tooFull) = true then do
            g (relayAll t2 es1 (SetTable.grown es1.size)).2.2
            storeSet a (relayAll t2 es1 (SetTable.grown es1.size)).1 (relayAll t2 es1 (SetTable.grown es1.size)).2.1
            pure (some true)
          else pure (some true)) R E s := by
  have sb := Heap.SameBut.update s.heap a (Obj.putSet es1 t2)
  have ho1 := store_at (es' := es1) (t' := t2) ho hd
  refine wpAny_bind (wpAny_storeSet_of ho hd ?_ (fits_of_scanBound x.bd))
  split
  · have y := x.perm (relayAll_perm t2 es1 (SetTable.grown es1.size)) (relayAll_fits t2 es1 (SetTable.grown es1.size)) (relayAll_ris t2 es1 (SetTable.grown es1.size)) (relayAll_led t2 es1 (SetTable.grown es1.size))
    generalize relayAll t2 es1 (SetTable.grown es1.size) = Z at y ⊢
    obtain ⟨es2, t3, gave⟩ := Z
    dsimp only at y ⊢
    refine wpAny_bind (hg _ _ _ (wpAny_bind (wpAny_storeSet_of ho1 rfl ?_ (fits_of_scanBound y.bd))))
    exact wpAny_pure (hR _ (sb.trans (Heap.SameBut.update _ a _)) ⟨_, es2, _, t3, store_at (es' := es2) (t' := t3) ho1 rfl, hex, rfl, y⟩)
  · exact wpAny_pure (hR _ sb ⟨_, es1, _, t2, ho1, hex, rfl, x⟩)
theorem TxD.lay {es es1 : Array (Int × Value)} {t t1 : SetTable} (x : TxD w S n es t) {k : Str} {tk : Tok} (hn : S k = false) (room : n + 1 < scanBound) (p : es1.toList.Perm (es.push (hashStr w k, Value.str k tk)).toList) (f : t1.fits es1.size = true) (r : Ris t1.place.toList) (l : t1.led = t.led) :
    TxD w (fun j => S j || decide (j = k)) (n + 1) es1 t1 := by
  rw [Array.toList_push] at p
  have pc : es1.toList.Perm ((hashStr w k, Value.str k tk) :: es.toList) := p.trans (List.perm_append_singleton _ _)
  have pk : (es1.toList.map keyT).Perm (k :: es.toList.map keyT) := pc.map keyT
  have nk : k ∉ es.toList.map keyT := fun z => by
    have := (x.mem k).2 z
    rw [hn] at this
    cases this
  have sz : es1.size = n + 1 := by rw [← Array.length_toList, pc.length_eq, List.length_cons, Array.length_toList, x.num]
  refine ⟨fun e he => ?_, pk.nodup_iff.mpr (List.nodup_cons.mpr ⟨nk, x.nod⟩), fun i => ?_, by rw [sz]; exact room, f, sz, r, x.led.imp id fun z => by rw [l]; exact z⟩
  · rcases List.mem_cons.mp (pc.mem_iff.mp he) with z | z
    · rw [z]
      exact ⟨k, tk, rfl, rfl⟩
    · exact x.good e z
  · rw [Bool.or_eq_true, decide_eq_true_eq, x.mem i, pk.mem_iff, List.mem_cons]
    exact Or.comm
theorem TxD.plain {es1 : Array (Int × Value)} {t1 : SetTable} (x : TxD w S n es1 t1) {b : Bool} : TxD w S n es1 (if b = true then t1 else { t1 with plain := false }) := by
  cases b with
  | true => exact x
  | false => exact ⟨x.good, x.nod, x.mem, x.bd, SetTable.fits_plain_off x.fit, x.num, x.ris, x.led⟩
theorem tx_add {k : Str} {tk : Tok} {Q : Bool → Shared → Prop} (R : SetTx w s.heap a S n) (room : n + 1 < scanBound)
    (hQ : ∀ h' m, Heap.SameBut a s.heap h' → m ≤ n + 1 → SetTx w h' a (fun j => S j || decide (j = k)) m → Q (!S k) { s with heap := h' }) : wpAny (model P w) A (setAddHashed a (.str k tk) ((PySem.strKind P w).hash k)) Q E s := by
  obtain ⟨o, es, ep, t, ho, hex, hd, x⟩ := R
  have hsc : (Value.str k tk).scannable = true := rfl
  have hel : ElemsOf (PySem.strKind P w) es.toList := x.elems
  have turn : ∀ (b : Bool) {s₁ : Shared} {Q' : Unit → Shared → Prop}, Q' () s₁ → wpAny (model P w) A (match b with | true => rule "set.scan.the-table-gave-way" | false => pure ()) Q' E s₁ :=
    fun b s₁ Q' q => by cases b <;> first | exact wpAny_pure q | exact wpAny_rule q
  unfold setAddHashed setAddHashedIn
  refine wpAny_holding (wpAny_bind (wpAny_setState_of ho hd x.fit ?_))
  dsimp only
  rw [byScan_of hsc x.bd hel, if_pos rfl]
  unfold setAddByScan
  refine wpAny_bind (wpAny_bind (wpAny_rule (wpAny_bind (wpAny_setScan_of (strKind_is P w k tk) ho hd x.fit hel ?_))))
  cases hfi : List.findIdx? (fun e => (PySem.strKind P w).is k e.2) es.toList with
  | some j =>
    obtain ⟨hj, pj, _⟩ := List.findIdx?_eq_some_iff_getElem.mp hfi
    have hS : S k = true := (x.mem k).2 (List.mem_map.mpr ⟨es.toList[j], List.getElem_mem hj, (good_key (P := P) (x.good _ (List.getElem_mem hj)) k).1 pj⟩)
    dsimp only
    refine wpAny_pure (wpAny_pure ?_)
    have q := hQ s.heap n (Heap.SameBut.refl a s.heap) (Nat.le_succ n) ⟨o, es, ep, t, ho, hex, hd, x.good, x.nod, fun i => by
      rw [Bool.or_eq_true, decide_eq_true_eq, ← x.mem i]
      exact ⟨fun z => z.elim id (fun e => e ▸ hS), .inl⟩, x.bd, x.fit, x.num, x.ris, x.led⟩
    rw [hS] at q
    exact q
  | none =>
    have hS : S k = false := by
      cases q : S k with
      | false => rfl
      | true =>
        obtain ⟨e, he, z⟩ := List.mem_map.mp ((x.mem k).1 q)
        have c := List.findIdx?_eq_none_iff.mp hfi e he
        rw [(good_key (P := P) (x.good e he) k).2 z] at c
        cases c
    have y := x.lay (tk := tk) hS room (layNew_perm t es ((PySem.strKind P w).hash k) (.str k tk)) (layNew_fits t es ((PySem.strKind P w).hash k) (.str k tk)) (layNew_ris t es ((PySem.strKind P w).hash k) (.str k tk) x.ris) (layNew_led t es ((PySem.strKind P w).hash k) (.str k tk))
    generalize layNew t es ((PySem.strKind P w).hash k) (.str k tk) = Z at y ⊢
    obtain ⟨es1, t1, wd, gave⟩ := Z
    dsimp only at y ⊢
    have fin : ∀ h', Heap.SameBut a s.heap h' → SetTx w h' a (fun j => S j || decide (j = k)) (n + 1) → Q true { s with heap := h' } := fun h' sb r => by
      have q := hQ h' _ sb (Nat.le_refl _) r
      rw [hS] at q
      exact q
    refine wpAny_bind (turn _ ?_)
    split
    · refine wpAny_bind ?_
      rw [hashByValue_scannable 8 hsc]
      refine wpAny_pure (tx_tail (fun b s₁ Q' q => by cases b <;> first | exact wpAny_pure q | exact wpAny_rule q) ho hex hd (by first | exact y.plain | exact y) fun h' sb r => wpAny_pure (fin h' sb r))
    · refine wpAny_bind (wpAny_pure ?_)
      simp only [↓reduceIte]
      exact tx_tail (fun b s₁ Q' q => by cases b <;> first | exact wpAny_pure q | exact wpAny_rule q) ho hex hd y fun h' sb r => wpAny_pure (fin h' sb r)
theorem tx_loop {I : Addr} {fp wr : List Addr} {G : Array GenState → Array GenState → Prop} {n : Nat} {Pv : Nat → Value → Prop} {St : Nat → Shared → Prop} {R : Result → Shared → Prop}
    (W : WalksS P w A.in1 I fp wr G n Pv St) (S : Addr) (hSf : S ∉ fp) (ns : List Str) (hn : n = ns.length) (hb : ns.length + 1 < scanBound) (hval : ∀ i v, Pv i v → ∃ k t, ns[i]? = some k ∧ v = .str k t) :
    ∀ (k i : Nat) (s : Shared), n - i = k → i ≤ n → St i s → (∃ c, c ≤ i ∧ SetTx w s.heap S (fun j => decide (j ∈ ns.take i)) c) →
      (∀ s' c, Moved (S :: wr) G s s' → c ≤ n → SetTx w s'.heap S (fun j => decide (j ∈ ns)) c → R (.ok (.ret .none)) s') → codeAny (model P w) A (.builtin "set.update.loop" ⟨[.ref S, .ref I], []⟩) R s := by
  have hSw : S ∉ wr := fun z => hSf (W.sub _ z)
  have up : ∀ b ∈ wr, b ∈ S :: wr := fun b z => List.mem_cons_of_mem _ z
  intro k
  induction k with
  | zero =>
    rintro i s h1 h2 hst ⟨c, hc, hS⟩ hR
    obtain rfl : i = n := by omega
    refine codeAny_builtin F.entry_set_update_loop ?_
    rw [Around.under_plainId F.plain_set_update_loop _]
    show wpAny _ A.in1 (pyNext (.ref I) >>= _) _ _ s
    refine wpAny_bind (W.done s _ _ hst fun s' hm => ?_)
    rw [List.take_of_length_le (by omega)] at hS
    exact wpAny_pure (hR s' c (hm.mono up) hc (hS.at fun o e => hm.heap S o hSw e))
  | succ k ih =>
    rintro i s h1 h2 hst ⟨c, hc, hS⟩ hR
    have lt : i < n := by omega
    refine codeAny_builtin F.entry_set_update_loop ?_
    rw [Around.under_plainId F.plain_set_update_loop _]
    show wpAny _ A.in1 (pyNext (.ref I) >>= _) _ _ s
    refine wpAny_bind (W.item i s _ _ lt hst fun v s' hP hst' hm => ?_)
    obtain ⟨z, tk, hz, rfl⟩ := hval i v hP
    have hS1 : SetTx w s'.heap S (fun j => decide (j ∈ ns.take i)) c := hS.at fun o e => hm.heap S o hSw e
    show wpAny _ A.in1 (holding [Value.str z tk] (setAdd S (.str z tk)) >>= _) _ _ s'
    unfold setAdd
    refine wpAny_bind (wpAny_holding (wpAny_holding (wpAny_bind ((PySem.strKind P w).pyHash (k := z) (strKind_is _ _ _ _) ?_))))
    refine tx_add (s := { s' with toks := s'.toks + 1 }) hS1 (by omega) fun h' m sb hm2 hS2 => ?_
    have hS3 : SetTx w h' S (fun j => decide (j ∈ ns.take (i + 1))) m := hS2.congr fun j => by
      rw [List.take_add_one, hz]
      simp [List.mem_append]
    refine wpAny_pure ⟨plainId_quiet F.plain_set_update_loop _, ih (i + 1) _ (by omega) lt (W.frame _ s' _ _ hst' (Nat.le_succ _) fun b hb o e => ?_) ⟨m, by omega, hS3⟩ fun s3 c3 m3 hc3 hS4 => ?_⟩
    · rw [sb.2 b (fun y => hSf (y ▸ hb))]
      exact e
    · refine hR s3 c3 (Moved.trans W.gtrans ((hm.mono up).then_heap (Nat.le_succ _) fun b o hb e => ?_) m3) hc3 hS4
      rw [sb.2 b (fun y => hb (y ▸ List.mem_cons_self))]
      exact e
/-- an empty set -/
abbrev emptyS (w : World) : Obj := { cls := .type "set", dict := none, data := .set #[] 0 (.fresh 0 0 (!w.params.followText "set-order")) }
theorem emptyS_tx {h : Heap} {a : Addr} {ns : List Str} (ho : h.get? a = some (emptyS w)) : SetTx w h a (fun j => decide (j ∈ ns.take 0)) 0 :=
  ⟨_, #[], 0, _, ho, ⟨rfl, rfl, rfl⟩, rfl, ⟨fun e he => by simp at he, by simp, fun k => by simp, by decide, by rfl, rfl, List.Pairwise.nil, by
    show _ ∨ (!w.params.followText "set-order") = true
    cases w.params.followText "set-order" <;> simp⟩⟩
theorem tx_set {l : Addr} {items : Array Value} (ns : List Str) {Q : Value → Shared → Prop} (hh : A.handled = none) (hl : s.heap.IsList l items) (hit : StrsAre items.toList ns) (hb : ns.length + 1 < scanBound)
    (h : ∀ (h' : Heap) (tk c : Nat), SetTx w h' s.heap.objs.size (fun j => decide (j ∈ ns)) c → c ≤ ns.length → (∀ b o, s.heap.get? b = some o → h'.get? b = some o) → Q (.ref s.heap.objs.size) { s with heap := h', toks := tk }) :
    wpAny (model P w) A (call (.type "set") [.ref l]) Q E s := by
  have isz : items.size = ns.length := by
    have q := StrsAre.len_eq hit
    rw [Array.length_toList] at q
    exact q
  obtain ⟨c, tl, hmro⟩ := F.called_set.mro
  have hmade := F.called_set.made
  have hsub := F.called_set.sub
  refine wpAny_call (codeAny_of_tree ?_)
  show wpAny _ _ (callAny (.type "set") _) _ _ _
  refine wpAny_pure ⟨Code.quiet_builtin _ (by decide +kernel), codeAny_builtin F.entry_type_call ?_⟩
  rw [Around.under_plain (weight_type_call_type "set" [.ref l] []) rfl]
  have h1 := F.called_set.notType
  have h2 := F.called_set.canCreate
  have hct := F.typeCall_set_1 (.ref l)
  repeat (any_goals (first | assumption | wp_step))
  refine codeAny_mono (code_set_led1 (.ref l) (E := E) (Q₁ := fun obj s₁ => obj = .ref s.heap.objs.size ∧ s₁ = { s with heap := s.heap.push (emptyS w) }) ⟨rfl, rfl⟩) fun r s₁ hr => ?_
  cases r with
  | error e => exact hr
  | ok fl =>
    cases fl with
    | ret obj =>
      obtain ⟨rfl, rfl⟩ := hr
      have hS : (s.heap.push (emptyS w)).get? s.heap.objs.size = some (emptyS w) := Heap.get?_push_size _ rfl
      have hT : Shared.TypeIs { s with heap := s.heap.push (emptyS w) } (.ref s.heap.objs.size) "set" := ⟨_, hS, rfl⟩
      have hli := F.called_set.init.lookup
      have hbi := F.called_set.init.bind (.ref s.heap.objs.size)
      repeat (any_goals (first | assumption | wp_step))
      refine codeAny_mono (codeAny_call_builtin (R := wants (fun r s₂ => r = .none ∧ ∃ h' tk c, s₂ = { s with heap := h', toks := tk } ∧ SetTx w h' s.heap.objs.size (fun j => decide (j ∈ ns)) c ∧ c ≤ ns.length ∧
          (∀ b o, s.heap.get? b = some o → h'.get? b = some o)) E) F.called_set.init.plain F.entry_set_init (check_set_init_1 hT ?_)) fun r₂ s₂ hr₂ => ?_
      · obtain ⟨⟨ocls, odict, odata, oslots⟩, hol, hcl, nl, hdl⟩ := hl
        simp only at hcl hdl
        subst hcl
        subst hdl
        have hol' : (s.heap.push (emptyS w)).get? l = some { cls := .type "list", dict := odict, data := .seq items nl, slots := oslots } := Heap.get?_push_of_some _ hol
        have hsls := F.sub_list_set
        have hslf := F.sub_list_frozenset
        have hne : (Value.type "list" == Value.type "dict") = false := by decide
        have hl1 : (s.heap.push (emptyS w)).IsList l items := ⟨_, hol', rfl, nl, rfl⟩
        unfold Builtin.«set.__init__» noKeywords Builtin.Frozenset.updateFrom
        generalize hPI : pyIter = PI
        wp_walk
        subst hPI
        refine wpAny_pyIter_list hl1 (wpAny_bind (wpAny_runValue ?_))
        have lS : l < s.heap.objs.size := Heap.lt_size hol
        have neI : l ≠ (s.heap.push (emptyS w)).objs.size := by
          rw [Heap.size_push]
          exact Nat.ne_of_lt (Nat.lt_succ_of_lt lS)
        have hSf : s.heap.objs.size ∉ [(s.heap.push (emptyS w)).objs.size, l] := by
          rw [Heap.size_push]
          simp only [List.mem_cons, List.not_mem_nil, or_false, not_or]
          exact ⟨Nat.ne_of_lt (Nat.lt_succ_self _), Nat.ne_of_gt lS⟩
        have hval : ∀ (i : Nat) (v : Value), items[i]? = some v → ∃ k t, ns[i]? = some k ∧ v = .str k t := fun i v hv => by
          have hi : i < ns.length := by rw [← isz]; exact (Array.getElem?_eq_some_iff.mp hv).1
          obtain ⟨t, e⟩ := SS.strs_at hit i v (by rw [Array.getElem?_toList]; exact hv)
          refine ⟨ns[i], t, List.getElem?_eq_getElem hi, ?_⟩
          rw [e, List.getD_eq_getElem?_getD, List.getElem?_eq_getElem hi] <;> rfl
        refine tx_loop ((Walks.list (by simp [hh]) _ l neI items).toS) s.heap.objs.size hSf ns isz hb hval (items.size - 0) 0 _ (by omega) (Nat.zero_le _) ⟨⟨_, Heap.get?_push_size _ rfl, rfl, rfl⟩, (hl1.push _)⟩
          ⟨0, Nat.le_refl 0, emptyS_tx (Heap.get?_push_of_some _ hS)⟩ fun s' c' hm hc' hS' => ?_
        obtain ⟨h', g2, d', tk', os'⟩ := s'
        have eg : g2 = s.gens := hm.gens
        have ed : d' = s.drawn := hm.drawn
        have eo : os' = s.os := hm.os
        subst eg
        subst ed
        subst eo
        show wpAny _ _ _ _ _ _
        refine wpAny_pure ?_
        show wpAny _ _ (ret Value.none) _ _ _
        rw [isz] at hc'
        refine wpAny_pure ⟨rfl, h', tk', c', rfl, hS', hc', fun b o e => ?_⟩
        have hb0 : b < s.heap.objs.size := Heap.lt_size e
        refine hm.heap b o ?_ (Heap.get?_push_of_some _ (Heap.get?_push_of_some _ e))
        rw [Heap.size_push]
        simp only [List.mem_cons, List.not_mem_nil, or_false, not_or]
        exact ⟨Nat.ne_of_lt hb0, Nat.ne_of_lt (Nat.lt_succ_of_lt hb0)⟩
      · cases r₂ with
        | error e => exact hr₂
        | ok fl₂ =>
          cases fl₂ with
          | ret r =>
            obtain ⟨rfl, h', tk, c', rfl, hS', hc', hk'⟩ := hr₂
            repeat (any_goals (first | assumption | wp_step))
            exact h _ _ _ hS' hc' hk'
          | _ => exact hr₂.elim
    | _ => exact hr.elim
theorem strs_of (f : Value → Str) (hf : ∀ x tk, f (.str x tk) = x) : ∀ (l : List Value), (∀ v ∈ l, ∃ k tk, v = Value.str k tk) → StrsAre l (l.map f)
  | [], _ => .nil
  | v :: l, h => by
    obtain ⟨k, tk, rfl⟩ := h v List.mem_cons_self
    have r := StrsAre.cons k tk (strs_of f hf l fun u hu => h u (List.mem_cons_of_mem _ hu))
    rw [List.map_cons, hf]
    exact r
theorem tx_sorted {Q : Value → Shared → Prop} (R : SetTx w s.heap a S n) (hh : A.handled = none) (h64 : n < 64)
    (hQ : ∀ s' p (out : Array Value) (c : Nat) (ns : List Str), (∀ b o, s.heap.get? b = some o → s'.heap.get? b = some o) → s'.gens = s.gens → s'.os = s.os → s.heap.objs.size ≤ p → s'.heap.get? p = some (seqObj "list" out c) → StrsAre out.toList ns →
      sortedS ns = true → ns.Nodup → (∀ k, k ∈ ns ↔ S k = true) → ns.length = n → Q (.ref p) s') :
    wpAny (model P w) A (call (.builtin "sorted") [.ref a]) Q E s := by
  obtain ⟨o, es, ep, t, ho, hex, hd, x⟩ := R
  refine Calls.call_function_entry kind_sorted plain_sorted entry_sorted (args_sorted1 _) ?_
  unfold Builtin.«sorted»
  refine wpAny_bind (m := checkCount "sorted" 1 1 _) (wpAny_pure ?_)
  refine wpAny_bind (collect_set (A := A.in1) hh ⟨o, ho, hex.1, hd⟩ x.fit x.bd x.ris x.led fun s1 vs k1 hz g1 o1 pm => ?_)
  have vl : vs.length = n := by rw [pm.length_eq, List.length_map, Array.length_toList]; exact x.num
  have hI : StrsAre vs (vs.map fun v => keyT (0, v)) := strs_of _ (fun _ _ => rfl) vs fun v hv => by
    obtain ⟨e, he, q⟩ := List.mem_map.mp (pm.mem_iff.mp hv)
    obtain ⟨k, tk, h1, _⟩ := x.good e he
    exact ⟨k, tk, by rw [← q]; exact h1⟩
  have pk : (vs.map fun v => keyT (0, v)).Perm (es.toList.map keyT) := by
    have q := pm.map fun v => keyT (0, v)
    rw [List.map_map] at q
    exact q
  refine wpAny_bind (wpAny_newList ?_ (by rw [vl, sizeLine_eq]; omega))
  have hoL : (s1.heap.push (seqObj "list" vs.toArray 0)).get? s1.heap.objs.size = some (seqObj "list" vs.toArray 0) := Heap.get?_push_size _ rfl
  refine wpAny_bind (wpAny_holding (wpAny_call_entry slot_list_sort ⟨_, hoL, rfl⟩ entry_list_sort (list_sort_treeK strKind_oneLt hoL hI.keysOf (fun v₁ v₂ rest e => keyKind_strs (by rw [← e]; exact hI)) (by rw [vl]; exact h64) fun st' a1 a2 => ⟨_, rfl, ?_⟩) (args_list_sort _)))
  obtain ⟨ns', b1, b2, b3⟩ := sorted_out_str hI a1 a2
  obtain ⟨c, hc⟩ := sortedHeap_at (vs := vs) (out := (arrOf st').map (·.2)) hoL
  have pn : ns'.Perm (es.toList.map keyT) := b2.trans pk
  refine wpAny_pure ⟨_, rfl, hQ _ s1.heap.objs.size _ c ns' (fun b u e => ?_) g1 o1 hz hc b1 b3 (pn.nodup_iff.mpr x.nod) (fun k => by rw [pn.mem_iff, ← x.mem k]) ?_⟩
  · have q := k1 b u e
    have lt := Heap.lt_size q
    show (sortedHeap (s1.heap.push (seqObj "list" vs.toArray 0)) s1.heap.objs.size vs _).get? b = some u
    rw [sortedHeap_old (Nat.ne_of_lt lt) (by rw [size_push']; exact Nat.lt_succ_of_lt lt)]
    exact Heap.get?_push_of_some _ q
  · rw [pn.length_eq, List.length_map, Array.length_toList]
    exact x.num
end
/-- sorted(set(xs)), xs a list of texts -/
def tSSet (K : PySem.W.Frag) (ta : TE) : TE := fun σ H Q => ta σ H fun x H1 => ∃ (l : Addr) (xs : List Str), x = V.ref l ∧ SqL K H1 l (xs.map V.str) ∧ xs.length < 64 ∧
  ∀ (ys : List Str) (p : Addr), sortedS ys = true → ys.Nodup → (∀ k, k ∈ ys ↔ k ∈ xs) → H1 p = none → Q (.ref p) (upd H1 p (.lst (ys.map V.str)))
theorem pe_sset {X : Cx} {a : Expr} {ta : TE} {p p2 q pos : Pos} (hc : X.calm = true) (hg : Gl X "sorted") (hm : X.mg "sorted" = none) (hg2 : Gl X "set") (hm2 : X.mg "set" = none) (ha : PE X a ta)
    (na : starEach [a] X.env = (false, eval a X.env) :: starEach [] X.env) : PE X (.Call (.Name "sorted" p) [.Call (.Name "set" p2) [a] [] q] [] pos) (tSSet X.K ta) := by
  refine ⟨fun pins s σ H Q I h => ?_⟩
  refine Call_ (ld_blt I hg hm PyProof.Rows.boot_sorted ?_)
  refine PyProof.Rows.callWith_builtin1 (PyProof.Rows.args_cons ?_ rfl) rfl rfl
  refine Call_ (ld_blt I hg2 hm2 PyProof.Rows.boot_set ?_)
  refine PyProof.Rows.callWith_type1 (PyProof.Rows.args_cons (thn (ha.run pins s σ H _ I h) fun v s1 ⟨x, H1, I1, r1, q1⟩ => PyProof.Rows.args_nil ?_) na) na rfl
  obtain ⟨l, xs, rfl, hq, h1, q1⟩ := q1
  cases r1
  obtain ⟨its, r, pl, hz⟩ := I1.list hq
  refine tx_set xs (I1.ok.hd hc) pl.isList (by simpa using strsAre_of r) (by unfold scanBound; omega) fun h' tk c hS hcl hk => ?_
  refine PyProof.Rows.args_nil ?_
  have I2 : Inv X pins σ H1 { s1 with heap := h', toks := tk } := I1.kept fun b o e => hk b o e
  refine tx_sorted (s := { s1 with heap := h', toks := tk }) hS (I1.ok.hd hc) (by omega) fun s' p out c ns k g o hp hg' hi hs hn hm' hl => ?_
  have hlen : (ns.map V.str).length ≤ sizeLine := by rw [List.length_map, hl, sizeLine_eq]; omega
  have hpn : H1 p = none := I2.hok.fresh hp
  have J : Inv X pins σ (upd H1 p (.lst (ns.map V.str))) { ({ s1 with heap := h', toks := tk } : Shared) with heap := s'.heap, gens := s'.gens, drawn := s'.drawn, toks := s'.toks } :=
    I2.call (ch := []) (Un.laid k hp hpn) (I2.hok.laid k hp ⟨hlen, out.toList, c, vals_of_strs hi, hg'⟩) (by rw [g]; exact I2.bare) (fun _ z => nomatch z)
  have e : s' = { ({ s1 with heap := h', toks := tk } : Shared) with heap := s'.heap, gens := s'.gens, drawn := s'.drawn, toks := s'.toks } := by
    cases s'
    cases s1
    cases o
    rfl
  rw [e]
  exact ⟨.ref p, _, J, rfl, q1 ns p hs hn (fun k => by rw [hm' k, decide_eq_true_eq]) hpn⟩
end DN

set_option Elab.async false
set_option linter.all false
set_option maxRecDepth 100000
/-! D28: sorted(set(xs)) as a meaning. -/
namespace DN
open PySem PySem.Spec
open L2 hiding It
open PyProof.Rows hiding St
def dedT : List (List Nat) → List (List Nat)
  | [] => []
  | x :: r => if x ∈ dedT r then dedT r else x :: dedT r
theorem dedT_mem {k : List Nat} : ∀ {l : List (List Nat)}, k ∈ dedT l ↔ k ∈ l
  | [] => Iff.rfl
  | x :: r => by
    unfold dedT
    split
    · rename_i h
      rw [dedT_mem, List.mem_cons]
      refine ⟨.inr, fun z => z.elim (fun e => ?_) id⟩
      rw [e]
      exact dedT_mem.mp h
    · rw [List.mem_cons, List.mem_cons, dedT_mem]
theorem dedT_nodup : ∀ (l : List (List Nat)), (dedT l).Nodup
  | [] => .nil
  | x :: r => by
    unfold dedT
    split
    · exact dedT_nodup r
    · rename_i h
      exact List.nodup_cons.mpr ⟨h, dedT_nodup r⟩
theorem nodup_perm {α : Type} [DecidableEq α] : ∀ {l m : List α}, l.Nodup → m.Nodup → (∀ k, k ∈ l ↔ k ∈ m) → l.Perm m
  | [], m, _, _, h => by
    cases m with
    | nil => exact .refl _
    | cons y m => exact absurd ((h y).mpr List.mem_cons_self) (by simp)
  | x :: l, m, hl, hm, h => by
    obtain ⟨h1, h2⟩ := List.nodup_cons.mp hl
    have hx : x ∈ m := (h x).mp List.mem_cons_self
    refine (List.Perm.cons x (nodup_perm (m := m.erase x) h2 (hm.erase x) fun k => ?_)).trans (List.perm_cons_erase hx).symm
    by_cases e : k = x
    · subst e
      exact ⟨fun z => absurd z h1, fun z => absurd z (hm.not_mem_erase)⟩
    · rw [List.mem_erase_of_ne e, ← h k, List.mem_cons]
      exact ⟨.inr, fun z => z.elim (fun y => absurd y e) id⟩
theorem nodup_toS : ∀ {l : List (List Nat)}, l.Nodup → (l.map toS).Nodup
  | [], _ => .nil
  | x :: l, h => by
    obtain ⟨h1, h2⟩ := List.nodup_cons.mp h
    refine List.nodup_cons.mpr ⟨fun z => ?_, nodup_toS h2⟩
    obtain ⟨y, hy, e⟩ := List.mem_map.mp z
    exact h1 (toS_inj e ▸ hy)
def bSSet (hp : Bool) (ds : List D) (h : Hs) : R D := match ds with
  | [d] => (match lstOf h d with
    | some xs => (match txtsOf xs with
      | some ys => if ys.length < 64 then mkL hp ((sortT (dedT ys)).map .str) h else .no
      | none => .no)
    | none => .no)
  | _ => .no
theorem rbind1 {m : M D} {f : List D → Hs → R D} : mApp f (mCons m mNil) = fun σ h => (m σ h).bind fun d h1 => f [d] h1 := by
  funext σ h
  unfold mApp mCons mNil
  cases m σ h <;> rfl
theorem td_sset {N : Nm} {W : WX} {m : M D} {hp : Bool} {σ : St} {H : Hp} {Q : VK} (t : TD N (mApp (bSSet hp) (mCons m mNil)) W σ H Q) : tSSet N.K (TD N m W) σ H Q := by
  rw [rbind1] at t
  obtain ⟨w, ρ, h, r1, r2, p⟩ := t
  refine TDg.imp (td_bind (m := m) r1 r2 p) fun v H1 ⟨w1, h1, d, l1, q1, q2, q3, p1⟩ => ?_
  unfold bSSet at p1
  dsimp only at p1
  cases e1 : lstOf h1 d with
  | none =>
    rw [e1] at p1
    exact p1.elim
  | some xs =>
    rw [e1] at p1
    dsimp only at p1
    obtain ⟨a, us, rfl, ha, hr⟩ := q1.lst q3 e1
    cases e2 : txtsOf xs with
    | none =>
      rw [e2] at p1
      exact p1.elim
    | some ys =>
      rw [e2] at p1
      dsimp only at p1
      split at p1
      · rename_i hz
        have eu : us = (ys.map toS).map V.str := txts_rep e2 hr
        subst eu
        refine ⟨a, ys.map toS, rfl, ha, by simpa using hz, fun zs b sz nz mz hb => ?_⟩
        have pz : zs.Perm ((dedT ys).map toS) := nodup_perm nz (nodup_toS (dedT_nodup ys)) fun k => by
          rw [mz k, List.mem_map, List.mem_map]
          exact ⟨fun ⟨y, hy, e⟩ => ⟨y, dedT_mem.mpr hy, e⟩, fun ⟨y, hy, e⟩ => ⟨y, dedT_mem.mp hy, e⟩⟩
        rw [sorted_is pz sz]
        exact (post_mkL q1 (reps_strs (sortT (dedT ys))) p1).2 b hb
      · exact p1.elim
theorem snd_sset {X : Cx} {N : Nm} {W : WX} {m : M D} {hp : Bool} {a : Expr} {p p2 q pos : Pos} (hK : X.K = N.K) (hc : X.calm = true) (hg : Gl X "sorted") (hm : X.mg "sorted" = none) (hg2 : Gl X "set") (hm2 : X.mg "set" = none) (ha : PE X a (TD N m W))
    (na : starEach [a] X.env = (false, eval a X.env) :: starEach [] X.env) : PE X (.Call (.Name "sorted" p) [.Call (.Name "set" p2) [a] [] q] [] pos) (TD N (mApp (bSSet hp) (mCons m mNil)) W) :=
  pe_imp (pe_sset hc hg hm hg2 hm2 ha na) fun σ H Q t => by
    rw [hK]
    exact td_sset t
end DN

set_option Elab.async false
set_option linter.all false
set_option maxRecDepth 100000
/-! D29: d.setdefault(k, x). -/
namespace DN
open PySem PySem.Spec
open L2 hiding It
open PyProof.Rows hiding St
def mSetd (a b c : M D) : M D := fun σ h => (a σ h).bind fun x h1 => match x with
  | .ref n => (match h1[n]? with
    | some (.dct _) => (b σ h1).bind fun y h2 => (c σ h2).bind fun z h3 => (match h3[n]? with
      | some (.dct kvs) => if isKey y = true ∧ kvs.length < SZ then (match dget kvs y with
        | some v => .ok v h3
        | none => .ok z (h3.set n (.dct (dput kvs y z)))) else .no
      | _ => .no)
    | _ => .no)
  | _ => .no
section
variable {X : Cx} {N : Nm} {W : WX}
theorem td_setd {ma mb mc : M D} (σ : St) (H : Hp) (Q : VK) (t : TD N (mSetd ma mb mc) W σ H Q) : tDSetd (TD N ma W) (TD N mb W) (TD N mc W) σ H Q := by
  obtain ⟨w, ρ, h, r1, r2, p⟩ := t
  refine TDg.imp (td_bind (m := ma) r1 r2 p) fun v H1 ⟨w1, h1, x, l1, q1, q2, q3, p1⟩ => ?_
  split at p1
  · rename_i n
    obtain ⟨a, ea, rfl⟩ := q3
    split at p1
    · rename_i kv e1
      obtain ⟨b, e4, ks, e5, e6⟩ := q1.at_ e1
      rw [ea] at e4
      cases e4
      refine ⟨a, rfl, .inl ⟨ks, .inl e5⟩, ?_⟩
      refine TDg.imp (td_bind (m := mb) q1 q2 p1) fun v2 H2 ⟨w2, h2, y, l2, s1, s2, s3, p2⟩ => ?_
      refine TDg.imp (td_bind (m := mc) s1 s2 p2) fun v3 H3 ⟨w3, h3, z, l3, u1, u2, u3, p3⟩ => ?_
      have ea3 : w3.io[n]? = some a := (l2.trans l3).at_ ea
      split at p3
      · rename_i kvs e3
        obtain ⟨b, e4, ks', e5', e6'⟩ := u1.at_ e3
        rw [ea3] at e4
        cases e4
        split at p3
        · rename_i hk
          obtain ⟨k, hk1, rfl⟩ := keyRep_of hk.1 (Rep.up l3 _ _ s3)
          have g := Repd.get hk1 e6'
          refine ⟨ks', k, e5', rfl, by rw [e6'.length, ← SZ_eq]; exact hk.2, fun v hv => ?_, fun hn => ?_⟩
          · split at g
            · rename_i d e2
              obtain ⟨v', h1', h2'⟩ := g
              rw [hv] at h1'
              cases h1'
              rw [e2] at p3
              exact post_val p3 u1 h2'
            · rw [g] at hv
              cases hv
          · split at g
            · obtain ⟨v', h1', h2'⟩ := g
              rw [hn] at h1'
              cases h1'
            · rename_i e2
              rw [e2] at p3
              exact p3 w3 _ _ (Wd.le.refl w3) (u1.put ea3 ⟨_, rfl, put_rep hk1 u3 e6'⟩) u3
        · exact p3.elim
      · exact p3.elim
    · exact p1.elim
  · exact p1.elim
theorem snd_setd {o e f : Expr} {ap pos : Pos} {ma mb mc : M D} (ho : PE X o (TD N ma W)) (he : PE X e (TD N mb W)) (hf : PE X f (TD N mc W)) (m : M2 X o "setdefault" ap e f pos) : PE X (.Call (.Attribute o "setdefault" ap) [e, f] [] pos) (TD N (mSetd ma mb mc) W) :=
  pe_imp (pe_dsetd ho he hf m) fun σ H Q t => td_setd σ H Q t
end
end DN

set_option Elab.async false
set_option linter.all false
set_option maxRecDepth 100000
/-! D30: {}, d.get(k). -/
namespace DN
open PySem PySem.Spec
open L2 hiding It
open PyProof.Rows hiding St
def mDict0 : M D := fun _ h => .ok (.ref h.length) (h ++ [.dct []])
def mGet1 (a b : M D) : M D := mGet2 a b (mLit .non)
section
variable {X : Cx} {N : Nm} {W : WX}
theorem td_dict0 (hx : N.Cold) (σ : St) (H : Hp) (Q : VK) (t : TD N mDict0 W σ H Q) : tDNewK σ H Q := by
  obtain ⟨w, ρ, h, r1, r2, po⟩ := t
  intro p hp
  obtain ⟨f1, f2, f3⟩ := r1.free hp
  have rh : RelH N (w.hold p (.dK [])) h (upd H p (.dK [])) := r1.hold hx f1 f3 fun ps z => by rw [hp] at z; cases z
  have pv : (w.hold p (.dK [])).pv p = some (.dK []) := by show upd w.pv p _ p = _; rw [upd_same]
  obtain ⟨w3, l3, e3, r3⟩ := rh.giveD hx (u := .dK []) (fun ps z => by cases z) pv (kvs := []) (ks := []) rfl (le_hold (Wd.le.refl w) f2) f2
  have e4 : upd (upd H p (.dK [])) p (.dK []) = upd H p (.dK []) := by
    funext a
    by_cases z : a = p
    · subst z
      rw [upd_same, upd_same]
    · rw [upd_ne z]
  rw [e4] at r3
  exact po w3 _ (.ref p) l3 r3 ⟨p, e3, rfl⟩
theorem snd_dict0 (hx : N.Cold) {pos : Pos} : PE X (.Dict [] [] pos) (TD N mDict0 W) := pe_imp pe_dnewK fun σ H Q t => td_dict0 hx σ H Q t
theorem td_get1 {ma mb : M D} (σ : St) (H : Hp) (Q : VK) (t : TD N (mGet1 ma mb) W σ H Q) : tDGet1 (TD N ma W) (TD N mb W) σ H Q := by
  obtain ⟨w, ρ, h, r1, r2, p⟩ := t
  refine TDg.imp (td_bind (m := ma) r1 r2 p) fun v H1 ⟨w1, h1, x, l1, q1, q2, q3, p1⟩ => ?_
  split at p1
  · rename_i kv e1
    obtain ⟨a, ks, rfl, ha, hr⟩ := q1.dct q3 e1
    refine ⟨a, rfl, .inl ⟨ks, .inl ha⟩, ?_⟩
    refine TDg.imp (td_bind (m := mb) q1 q2 p1) fun v2 H2 ⟨w2, h2, y, l2, s1, s2, s3, p2⟩ => ?_
    have p3 : Post N (Rep N) W w2 σ Q (match dctOf h2 x with
      | some kvs => if isKey y then .ok ((dget kvs y).getD .non) h2 else .no
      | none => .no) := p2
    split at p3
    · rename_i kvs e3
      obtain ⟨a', ks', ea, ha', hr'⟩ := s1.dct (Rep.up l2 _ _ q3) e3
      cases ea
      split at p3
      · rename_i hk
        obtain ⟨k, hk1, rfl⟩ := keyRep_of hk s3
        refine ⟨valV ks' k, .inl ⟨ks', k, .inl ha', rfl, rfl⟩, ?_⟩
        have g := Repd.get hk1 hr'
        split at g
        · rename_i d e2
          obtain ⟨v', h1', h2'⟩ := g
          rw [h1']
          rw [e2] at p3
          exact post_val p3 s1 h2'
        · rename_i e2
          rw [g]
          rw [e2] at p3
          exact post_val p3 s1 rfl
      · exact p3.elim
    · exact p3.elim
  · exact p1.elim
theorem snd_get1 {o e : Expr} {ap pos : Pos} {ma mb : M D} (hu : X.A.units + 1 < cLine) (ho : PE X o (TD N ma W)) (he : PE X e (TD N mb W)) (m : M1 X o "get" ap e pos) : PE X (.Call (.Attribute o "get" ap) [e] [] pos) (TD N (mGet1 ma mb) W) :=
  pe_imp (pe_dget1 hu ho he m) fun σ H Q t => td_get1 σ H Q t
end
end DN

set_option Elab.async false
set_option linter.all false
set_option maxRecDepth 100000
set_option maxHeartbeats 2000000
/-! D31: exceptions as plain values: made, asked for their class, read. -/
namespace DN
open PySem PySem.Spec
open L2 hiding It
open PyProof.Rows hiding St
/-- C(), no __init__ -/
def mXv0 (c : Nat) : M D := fun _ h => .ok (.xc c []) h
/-- C(..), its __init__ stores its arguments -/
def flatF : List D → Bool
  | [] => true
  | .int _ :: r => flatF r
  | .str _ :: r => flatF r
  | _ :: _ => false
def mXvN (c : Nat) (ks : List Nat) (as : M (List D)) : M D := fun σ h => (as σ h).bind fun ds h1 => if ds.length = ks.length ∧ flatF ds = true then .ok (.xc c (ks.zip ds).reverse) h1 else .no
/-- isinstance(e, C) -/
def mXvI (mt : Nat → Nat → Option Bool) (k : Nat) (m : M D) : M D := fun σ h => (m σ h).bind fun d h1 => match d with
  | .xc ci _ => (match mt ci k with
    | some b => .ok (.bl b) h1
    | none => .no)
  | _ => .no
/-- isinstance(e, ValueError) -/
def mXvV (mt : Nat → Nat → Option Bool) (m : M D) : M D := fun σ h => (m σ h).bind fun d h1 => match d with
  | .xc ci _ => (match mt ci ci with
    | some _ => .ok (.bl true) h1
    | none => .no)
  | _ => .no
/-- e.f: ok tells the classes and names -/
def mXvF (na k : Nat) (ok : Nat → Bool) (m : M D) : M D := fun σ h => (m σ h).bind fun d h1 => match d with
  | .xc ci fs => if ok ci && (fOk na fs && decide (k < na)) then (match fs.lookup k with
    | some d => .ok d h1
    | none => .no) else .no
  | _ => .no
section
variable {X : Cx} {N : Nm} {W : WX}
theorem fldV_zip {w : Wd} : ∀ {ks : List Nat} {ds : List D} {vs : List V}, Reps N w ds vs → ds.length = ks.length → flatF ds = true → fldV N.attr (ks.zip ds) = some ((ks.map N.attr).zip vs)
  | [], [], _, r, _, _ => by
    obtain rfl := r
    rfl
  | k :: ks, d :: ds, _, r, l, f => by
    obtain ⟨v, vs, rfl, r1, r2⟩ := r
    cases d with
    | int i =>
      have ih := fldV_zip r2 (Nat.succ.inj l) f
      obtain rfl : v = .int i := r1
      show (match (D.int i), fldV N.attr (ks.zip ds) with
        | .int i, some l => some ((N.attr k, V.int i) :: l)
        | .str s, some l => some ((N.attr k, V.str (toS s)) :: l)
        | _, _ => none) = _
      rw [ih]
      rfl
    | str s =>
      have ih := fldV_zip r2 (Nat.succ.inj l) f
      obtain rfl : v = .str (toS s) := r1
      show (match (D.str s), fldV N.attr (ks.zip ds) with
        | .int i, some l => some ((N.attr k, V.int i) :: l)
        | .str s, some l => some ((N.attr k, V.str (toS s)) :: l)
        | _, _ => none) = _
      rw [ih]
      rfl
    | _ => cases f
  | [], _ :: _, _, _, l, _ => by cases l
  | _ :: _, [], _, _, l, _ => by cases l
theorem fldV_repf {w : Wd} : ∀ {fs : List (Nat × D)} {fv : List (Str × V)}, fldV N.attr fs = some fv → Repf N w fs fv
  | [], _, e => by
    cases e
    rfl
  | (k, d) :: r, fv, e => by
    unfold fldV at e
    split at e
    · rename_i i l el
      cases e
      exact ⟨_, _, rfl, rfl, fldV_repf el⟩
    · rename_i i l el
      cases e
      exact ⟨_, _, rfl, rfl, fldV_repf el⟩
    · cases e
theorem fldV_append : ∀ {fs gs : List (Nat × D)} {us vs : List (Str × V)}, fldV N.attr fs = some us → fldV N.attr gs = some vs → fldV N.attr (fs ++ gs) = some (us ++ vs)
  | [], _, _, _, h, q => by
    cases h
    exact q
  | (k, d) :: r, gs, us, vs, e, q => by
    unfold fldV at e
    split at e
    · rename_i i l el
      cases e
      have ih := fldV_append el q
      show (match (D.int i), fldV N.attr (r ++ gs) with
        | .int i, some l => some ((N.attr k, V.int i) :: l)
        | .str s, some l => some ((N.attr k, V.str (toS s)) :: l)
        | _, _ => none) = _
      rw [ih]
      rfl
    · rename_i i l el
      cases e
      have ih := fldV_append el q
      show (match (D.str i), fldV N.attr (r ++ gs) with
        | .int i, some l => some ((N.attr k, V.int i) :: l)
        | .str s, some l => some ((N.attr k, V.str (toS s)) :: l)
        | _, _ => none) = _
      rw [ih]
      rfl
    · cases e
theorem fldV_rev : ∀ {fs : List (Nat × D)} {vs : List (Str × V)}, fldV N.attr fs = some vs → fldV N.attr fs.reverse = some vs.reverse
  | [], _, h => by
    cases h
    rfl
  | (k, d) :: r, fv, e => by
    have e0 := e
    unfold fldV at e
    split at e
    · rename_i i l el
      cases e
      rw [List.reverse_cons, List.reverse_cons]
      exact fldV_append (fldV_rev el) rfl
    · rename_i i l el
      cases e
      rw [List.reverse_cons, List.reverse_cons]
      exact fldV_append (fldV_rev el) rfl
    · cases e
theorem snd_xv0 {i : Nat} {x : Str} {p pos : Pos} (q : PySem.W.excIn X.K (N.ca i) He.veBase "ValueError.__new__" = true) (gC : X.mg x = some (.ref (N.ca i))) (kC : PySem.W.keepIn X.K (.ref (N.ca i)) = true) (hg : Gl X x)
    (hdb : (x == ("__debug__" : Str)) = false) : PE X (.Call (.Name x p) [] [] pos) (TD N (mXv0 i) W) := by
  refine ⟨fun pins s σ H Q I h => ?_⟩
  obtain ⟨w, ρ, hh, r1, r2, pp⟩ := h
  refine wpAny_Call_Name_kw (ld_glob I hg gC ?_ hdb)
  refine PySem.W.callWith_K0 I.kIn kC ?_
  show wpAny _ _ (call (.ref (N.ca i)) []) _ _ _
  obtain ⟨bm, NN, nm, qn, bs, hdct, sn, sub, ab, col, dd, k0, k1, k2, k3, k5, mN, hC, hN, hni, T⟩ := exc_obj I.kIn q
  refine wpAny_call_exc_subT PySem.F.excBase_ValueError T hC hN hni (fun h' e hm => ?_) (Nat.zero_le _)
  have hn : H e = none := I.hok.gone hm.new
  obtain ⟨t, ht, _, _⟩ := hm.there
  obtain ⟨w', l1, l2, l3⟩ := r1.newIm (u := exo e (N.ca i) none) hn
  exact ⟨.ref e, upd H e (exo e (N.ca i) none), I.laidN hm.keeps hm.new hn (exo_ok ht), rfl, pp w' _ _ l1 l3 ⟨e, none, rfl, l2, .inl ⟨rfl, rfl⟩⟩⟩
/-- C(e, ..), C's own __init__ keeping sp, kept -/
def tMkV (C : Addr) (sp : Sp) (ta : TA) : TE := fun σ H Q => ta σ H fun vs H1 => vs.length ≤ 1000 ∧ ∀ a, H1 a = none → sp (.ref a :: vs) (upd H1 a (exo a C none)) (fun v H2 => v = .non ∧ Q (.ref a) H2) (fun _ _ _ => False)
theorem pe_oexV {CX : CXT} {x : Str} {C fI : Addr} {k : Nat} {fd : FuncData} {ps : List Str} {sp : Sp} {e : Expr} {es : List Expr} {ta : TA} {p pos : Pos} (T : OexC X.K C) (iC : PySem.W.findIn X.K (.ref C) "__init__" = some (some (.ref fI))) (tI : PySem.W.typeIn X.K (.ref fI) = some (.type "function"))
    (F1 : FnOk X.prog X.w X.K X.mg X.base CX k fI fd ps sp) (hr : Room (k + 1) X.A) (hb : Binds X.K fd ps []) (hx : Passes CX X (fun _ _ _ => False)) (hg : Gl X x) (hm : X.mg x = some (.ref C)) (ha : PA X (e :: es) ta)
    (hdb : (x == ("__debug__" : Str)) = false) (he : starEach (e :: es) X.env = (false, eval e X.env) :: starEach es X.env) (hpl : (backTo pos (starEach es X.env)).any (·.1) = false) :
    PE X (.Call (.Name x p) (e :: es) [] pos) (tMkV C sp ta) := by
  refine ⟨fun pins s σ H Q I h => ?_⟩
  obtain ⟨nm, q, N, bs, bm, sn, sub, ab, col, dd, k0, k1, k2, k3, k5, hC, hbm⟩ := T.cls
  refine wpAny_Call_Name_kw (ld_glob I hg hm ?_ hdb)
  refine PySem.W.callWith_K (h₀ := X.base) I.ok.mod.kin T.kC (thn (ha.run pos pins s σ H _ I h) fun us s1 ⟨vs, H1, I1, r1, hz, q1⟩ => ⟨I1.kIn, ?_⟩) he hpl
  show wpAny _ _ (call (.ref C) us) _ _ _
  obtain ⟨hp, g, dr, tk, os⟩ := s1
  have hsz : hp.objs.size ≤ hp.objs.size + 1 := Nat.le_succ _
  have hn : H1 (hp.objs.size + 1) = none := I1.hok.fresh hsz
  have hq := q1 (hp.objs.size + 1) hn
  have kk : ∀ b o, hp.get? b = some o → ((hp.push (PySem.W.kdv_tup us)).push (PySem.HandSPX.excO C hp.objs.size)).get? b = some o := fun b o e => Heap.get?_push_of_some _ (Heap.get?_push_of_some _ e)
  have hget : ((hp.push (PySem.W.kdv_tup us)).push (PySem.HandSPX.excO C hp.objs.size)).get? (hp.objs.size + 1) = some (PySem.HandSPX.excO C hp.objs.size) := by heap_get
  have I2 : Inv X pins σ (upd H1 (hp.objs.size + 1) (exo (hp.objs.size + 1) C none)) ⟨(hp.push (PySem.W.kdv_tup us)).push (PySem.HandSPX.excO C hp.objs.size), g, dr, tk, os⟩ :=
    I1.laid (t' := tk) (a := hp.objs.size + 1) (o := exo (hp.objs.size + 1) C none) (h' := (hp.push (PySem.W.kdv_tup us)).push (PySem.HandSPX.excO C hp.objs.size)) kk hsz (exo_ok hget)
  have r2 : Vals (V.ref (hp.objs.size + 1) :: vs) (Value.ref (hp.objs.size + 1) :: us) := .cons rfl r1
  have hl : (Value.ref (hp.objs.size + 1) :: us ++ []).length = ps.length := by
    rw [List.append_nil]
    have e := r2.length
    rw [F1.len _ _ _ _ hq] at e
    exact e.symm
  have hus : us.length ≤ sizeLine := by
    rw [← Paired.length r1, sizeLine_eq]
    omega
  have hb2 := hb _ (Value.ref (hp.objs.size + 1) :: us) I2.kIn hl
  rw [List.append_nil] at hb2
  refine wpAny_call (PySem.HandSPX.call_own F.excBase_ValueError (fun Y => PySem.HandSPX.refsVE_contains Y bm hbm) (I1.kIn _ _ hC) (PySem.W.looks_findIn I1.kIn iC) (fun self => PySem.W.bind_fn I1.kIn self tI) hus
    (codeAny_mono (F1.run _ X.stack _ _ ⟨Value.ref (hp.objs.size + 1) :: us, []⟩ (Value.ref (hp.objs.size + 1) :: us) _ _ (fun _ _ _ => False) (hr.make C us []) (I2.env0.make C us []) hb2 r2 hq) fun r s' hq' => ?_))
  cases r with
  | error er => exact hx pins σ _ _ er s' I2 hq'
  | ok fl =>
    cases fl with
    | ret u =>
      obtain ⟨v, H2, os2, bare2, un2, hok2, rv, ev, q2⟩ := hq'
      subst ev
      obtain ⟨h2, g2, d2, t2, os'⟩ := s'
      exact ⟨rv, .ref _, H2, I2.call' (ch := []) os2 un2 hok2 bare2 (fun b z => absurd z (by simp)), rfl, q2⟩
    | next => exact False.elim hq'
    | brk => exact False.elim hq'
    | cont => exact False.elim hq'
theorem snd_xvN {i k : Nat} {ks : List Nat} {x : Str} {e : Expr} {es : List Expr} {ml : M (List D)} {p pos : Pos} {fI : Addr} {fd : FuncData} {ps : List Str} (T : OexC X.K (N.ca i)) (iC : PySem.W.findIn X.K (.ref (N.ca i)) "__init__" = some (some (.ref fI))) (tI : PySem.W.typeIn X.K (.ref fI) = some (.type "function"))
    (F1 : FnOk X.prog X.w X.K X.mg X.base (L2.CX X.prog X.w) k fI fd ps (spX (N.ca i) (ks.map N.attr))) (hr : Room (k + 1) X.A) (hb : Binds X.K fd ps []) (gC : X.mg x = some (.ref (N.ca i))) (hg : Gl X x) (hkn : ks ≠ []) (ha : PA X (e :: es) (TDs N ml W))
    (hdb : (x == ("__debug__" : Str)) = false) (he : starEach (e :: es) X.env = (false, eval e X.env) :: starEach es X.env) (hpl : (backTo pos (starEach es X.env)).any (·.1) = false) (hkl : ks.length ≤ 1000) :
    PE X (.Call (.Name x p) (e :: es) [] pos) (TD N (mXvN i ks ml) W) := by
  have hx : Passes (L2.CX X.prog X.w) X (fun _ _ _ => False) := fun pins σ H s e s' I c => by
    obtain ⟨_, _, _, _, _, _, _, _, _, _, _, _, z⟩ := c
    exact z.elim
  refine pe_imp (pe_oexV T iC tI F1 hr hb hx hg gC ha hdb he hpl) fun σ H Q t => ?_
  obtain ⟨w, ρ, h, r1, r2, z⟩ := t
  refine TDg.imp (td_bind (m := ml) r1 r2 z) fun vs H1 ⟨w1, h1, ds, l1, q1, q2, q3, p1⟩ => ?_
  by_cases hl : ds.length = ks.length ∧ flatF ds = true
  · rw [if_pos hl] at p1
    refine ⟨by rw [q3.length, hl.1]; exact hkl, fun a ha => ?_⟩
    refine ⟨a, vs, rfl, by rw [q3.length, hl.1, List.length_map], upd_same, fun dx hdx dne => ⟨rfl, ?_⟩⟩
    have z := hdx
    rw [upd_ne dne] at z
    have eH : upd (upd (upd H1 a (exo a (N.ca i) none)) dx (exd dx ((ks.map N.attr).zip vs).reverse)) a (exo a (N.ca i) (some dx)) = upd (upd H1 dx (exd dx ((ks.map N.attr).zip vs).reverse)) a (exo a (N.ca i) (some dx)) := by
      funext b
      by_cases hba : b = a
      · rw [hba, upd_same, upd_same]
      · rw [upd_ne hba, upd_ne hba]
        by_cases hbd : b = dx
        · rw [hbd, upd_same, upd_same]
        · rw [upd_ne hbd, upd_ne hbd, upd_ne hba]
    rw [eH]
    obtain ⟨w2, l2, m2, s2⟩ := q1.newIm (u := exd dx ((ks.map N.attr).zip vs).reverse) z
    obtain ⟨w3, l3, m3, s3⟩ := s2.newIm (p := a) (u := exo a (N.ca i) (some dx)) (by rw [upd_ne (Ne.symm dne)]; exact ha)
    refine p1 w3 _ _ (l2.trans l3) s3 ⟨a, some dx, rfl, m3, .inr ⟨dx, _, rfl, l3.im dx _ m2, fldV_rev (fldV_zip q3 hl.1 hl.2)⟩⟩
  · rw [if_neg hl] at p1
    exact p1.elim
/-- isinstance(e, c), e an exception -/
def rIsX (K : PySem.W.Frag) : List V → Hp → VK → Prop := fun xs H Q => ∃ (a D : Addr) (dd : Option Addr) (c : V) (cv : Value) (b : Bool), xs = [.ref a, c] ∧ H a = some (exo a D dd) ∧ (∀ ad, dd = some ad → ∃ fv, H ad = some (exd ad fv)) ∧ ExcC K D ∧ (∀ u, RelV c u → u = cv) ∧ PySem.W.kitOne K (.ref D) cv = some b ∧ Q (.bl b) H
theorem exo_inst {pins : List (Addr × Obj)} {σ : St} {H : Hp} {s : Shared} {a C : Addr} {dd : Option Addr} (I : Inv X pins σ H s) (e : H a = some (exo a C dd)) (hd : ∀ ad, dd = some ad → ∃ fv, H ad = some (exd ad fv)) : ∃ t1 od, PySem.W.InstAt s.heap a ({ cls := .ref C, dict := dd, data := .fields #[.ref t1, .none, .none, .none, .bool false, .none] } : Obj) C od ∧
    ∀ ad fv, dd = some ad → H ad = some (exd ad fv) → ∃ (o : Obj) (mA : Str → Option Value), od = some o ∧ (∀ n, PySem.W.lookIn n o = some (mA n)) ∧ ∀ f, RelO (fv.lookup f) (mA f) := by
  obtain ⟨t1, ht⟩ := exo_at I.hok e
  cases dd with
  | none => exact ⟨t1, none, ⟨ht, rfl, rfl, trivial⟩, fun ad fv z => by cases z⟩
  | some ad =>
    obtain ⟨fv, he⟩ := hd ad rfl
    obtain ⟨mA, hns, hr⟩ := exd_at I.hok he
    obtain ⟨od, ho, hl⟩ := lookIn_ns hns
    refine ⟨t1, some od, ⟨ht, rfl, rfl, ho⟩, fun ad' fv' z he' => ?_⟩
    cases z
    obtain ⟨mA', hns', hr'⟩ := exd_at I.hok he'
    obtain ⟨od', ho', hl'⟩ := lookIn_ns hns'
    rw [ho] at ho'
    cases ho'
    exact ⟨od, mA', rfl, hl', hr'⟩
theorem call_isX : CallR X (.builtin "isinstance") (rIsX X.K) := by
  intro pins s σ H xs us Q I r h
  obtain ⟨a, D, dd, c, cv, b, rfl, ea, hd, C, hcv, e, q⟩ := h
  cases r with
  | cons rx rr =>
    cases rr with
    | cons rt rr =>
      cases rr
      cases rx
      have ec := hcv _ rt
      subst ec
      obtain ⟨t1, od, J, _⟩ := exo_inst I ea hd
      have hcl : (PySem.W.clsIn X.K D).isSome = true := by
        obtain ⟨cd, hc, _⟩ := PySem.W.any_some C.hd
        rw [hc]
        rfl
      exact PySem.W.kia_one (PySem.W.kitx_exc hcl C.hg C.hk C.hs C.ha C.hn C.ht C.hm) I.kIn J e (fun z => nomatch z) fun tk => ⟨.bl b, H, I.kept (t' := tk) fun _ _ z => z, rfl, q⟩
theorem xv_at {w : Wd} {h : Hs} {H : Hp} {ci : Nat} {fs : List (Nat × D)} {v : V} (r : RelH N w h H) (q : Rep N w (.xc ci fs) v) : ∃ a dd, v = .ref a ∧ H a = some (exo a (N.ca ci) dd) ∧ (∀ ad, dd = some ad → ∃ fv, H ad = some (exd ad fv)) ∧ (fs ≠ [] → ∃ ad fv, dd = some ad ∧ H ad = some (exd ad fv) ∧ fldV N.attr fs = some fv) := by
  obtain ⟨a, dd, e, h1, h2⟩ := q
  refine ⟨a, dd, e, r.imm _ _ h1, ?_, ?_⟩
  · intro ad hz
    rcases h2 with ⟨_, z⟩ | ⟨ad', fv, z, h3, h4⟩
    · rw [hz] at z
      cases z
    · rw [hz] at z
      cases z
      exact ⟨fv, r.imm _ _ h3⟩
  · intro hne
    rcases h2 with ⟨z, _⟩ | ⟨ad', fv, z, h3, h4⟩
    · exact absurd z hne
    · exact ⟨ad', fv, z, r.imm _ _ h3, h4⟩
theorem snd_xvI {mt : Nat → Nat → Option Bool} {k : Nat} {ma : M D} {x t : Str} {e : Expr} {p pos pt : Pos} (hx : ∀ i k b, mt i k = some b → ExcC X.K (N.ca i) ∧ PySem.W.kitOne X.K (.ref (N.ca i)) (.ref (N.ca k)) = some b) (ha : PE X e (TD N ma W)) (pa : starEach [e, .Name t pt] X.env = (false, eval e X.env) :: starEach [.Name t pt] X.env)
    (hgt : Gl X t) (hmt : X.mg t = some (.ref (N.ca k))) (dt : (t == ("__debug__" : Str)) = false) (hg : Gl X x) (hm : X.mg x = none) (hv : bootBuiltins x = some (.builtin "isinstance")) (hn : x ≠ "__name__") (hdb : (x == ("__debug__" : Str)) = false) :
    PE X (.Call (.Name x p) [e, .Name t pt] [] pos) (TD N (mXvI mt k ma) W) := by
  refine pe_imp (pe_callB call_isX hg hm hv (pa_cons ha (pa_cons (pe_glob hgt hmt (show RelV (.ref (N.ca k)) _ from rfl) dt) pa_nil rfl) pa) hn hdb pa rfl) fun σ H Q t => ?_
  obtain ⟨w, ρ, h, r1, r2, z⟩ := t
  refine TDg.imp (td_bind (m := ma) r1 r2 z) fun v H1 ⟨w1, h1, d, l1, q1, q2, q3, p1⟩ => ?_
  cases d with
  | xc ci fs =>
    have p1 : Post N (Rep N) W w1 σ Q (match mt ci k with
      | some b => .ok (.bl b) h1
      | none => .no) := p1
    cases e1 : mt ci k with
    | none =>
      rw [e1] at p1
      exact p1.elim
    | some b =>
      rw [e1] at p1
      obtain ⟨a, dd, rfl, x1, x2, _⟩ := xv_at q1 q3
      obtain ⟨y1, y2⟩ := hx ci k b e1
      exact ⟨a, N.ca ci, dd, .ref (N.ca k), .ref (N.ca k), b, rfl, x1, x2, y1, fun u z => z, y2, post_val p1 q1 rfl⟩
  | _ => exact p1.elim
theorem snd_xvV {mt : Nat → Nat → Option Bool} {ma : M D} {x t : Str} {e : Expr} {p pos pt : Pos} (hx : ∀ i k b, mt i k = some b → ExcC X.K (N.ca i) ∧ PySem.W.kitOne X.K (.ref (N.ca i)) (.type "ValueError") = some true) (ha : PE X e (TD N ma W)) (pa : starEach [e, .Name t pt] X.env = (false, eval e X.env) :: starEach [.Name t pt] X.env)
    (hbt : PE X (.Name t pt) (tC (.ty "ValueError"))) (hg : Gl X x) (hm : X.mg x = none) (hv : bootBuiltins x = some (.builtin "isinstance")) (hn : x ≠ "__name__") (hdb : (x == ("__debug__" : Str)) = false) :
    PE X (.Call (.Name x p) [e, .Name t pt] [] pos) (TD N (mXvV mt ma) W) := by
  refine pe_imp (pe_callB call_isX hg hm hv (pa_cons ha (pa_cons hbt pa_nil rfl) pa) hn hdb pa rfl) fun σ H Q t => ?_
  obtain ⟨w, ρ, h, r1, r2, z⟩ := t
  refine TDg.imp (td_bind (m := ma) r1 r2 z) fun v H1 ⟨w1, h1, d, l1, q1, q2, q3, p1⟩ => ?_
  cases d with
  | xc ci fs =>
    have p1 : Post N (Rep N) W w1 σ Q (match mt ci ci with
      | some _ => .ok (.bl true) h1
      | none => .no) := p1
    cases e1 : mt ci ci with
    | none =>
      rw [e1] at p1
      exact p1.elim
    | some b =>
      rw [e1] at p1
      obtain ⟨a, dd, rfl, x1, x2, _⟩ := xv_at q1 q3
      obtain ⟨y1, y2⟩ := hx ci ci b e1
      exact ⟨a, N.ca ci, dd, .ty "ValueError", .type "ValueError", true, rfl, x1, x2, y1, fun u z => z, y2, post_val p1 q1 rfl⟩
  | _ => exact p1.elim
/-- e.f, e an exception -/
def tXv (K : PySem.W.Frag) (f : Str) (te : TE) : TE := fun σ H Q => te σ H fun x H1 => ∃ (a C ad : Addr) (fv : List (Str × V)) (v : V), x = .ref a ∧ H1 a = some (exo a C (some ad)) ∧ H1 ad = some (exd ad fv) ∧ XfC K C ∧ PySem.W.findIn K (.ref C) f = some none ∧ fv.lookup f = some v ∧ Q v H1
theorem pe_xv {e : Expr} {te : TE} {pos : Pos} {n : Str} (he : PE X e te) (hb : attributeBase e n X.env (eval e X.env) = eval e X.env) : PE X (.Attribute e n pos) (tXv X.K n te) := by
  refine ⟨fun pins s σ H Q I h => ?_⟩
  refine attr_of hb (thn (he.run pins s σ H _ I h) fun u s1 hh => ?_)
  obtain ⟨x, H1, I1, rx, a, C, ad, fv, v, ex, ea, ed, T, hno, l, q⟩ := hh
  subst ex
  obtain rfl : u = Value.ref a := rx
  obtain ⟨t1, od, J, hJ⟩ := exo_inst I1 ea fun ad' z => by cases z; exact ⟨fv, ed⟩
  obtain ⟨o, mA, rfl, hl, hr⟩ := hJ ad fv rfl ed
  obtain ⟨u, hu, ru⟩ := RelO.some_of (v := v) (o := mA n) (by rw [← l]; exact hr n)
  exact HandSPX.exc_get I1.kIn J T.ga T.gg T.exC (PySem.W.findObj_own T.hdC hno rfl (by rw [hl, hu])) (handed_of ru) ⟨v, H1, I1.tok _, ru, q⟩
theorem snd_xvF {na k : Nat} {ok : Nat → Bool} {ma : M D} {e : Expr} {f : Str} {pos : Pos} (inj : ∀ i j, i < na → j < na → N.attr i = N.attr j → i = j) (hf : N.attr k = f) (hok : ∀ c, ok c = true → XfC X.K (N.ca c) ∧ PySem.W.findIn X.K (.ref (N.ca c)) f = some none) (he : PE X e (TD N ma W)) (hb : attributeBase e f X.env (eval e X.env) = eval e X.env) : PE X (.Attribute e f pos) (TD N (mXvF na k ok ma) W) :=
  pe_imp (pe_xv he hb) fun σ H Q t => by
    obtain ⟨w, ρ, h, r1, r2, pp⟩ := t
    refine TDg.imp (td_bind (m := ma) r1 r2 pp) fun v H1 ⟨w1, h1, x, l1, q1, q2, q3, p1⟩ => ?_
    split at p1
    · rename_i c fs
      split at p1
      · rename_i hg
        rw [Bool.and_eq_true, Bool.and_eq_true] at hg
        obtain ⟨g1, g2, g3⟩ := hg
        split at p1
        · rename_i d hd
          obtain ⟨a, dd, rfl, x1, _, x3⟩ := xv_at q1 q3
          obtain ⟨ad, fv, rfl, x4, x5⟩ := x3 (fun z => by rw [z] at hd; cases hd)
          obtain ⟨v, h3, h4⟩ := repf_look (of_decide_eq_true g3) inj (fldV_repf (w := w1) x5) (fOk_at g2) hd
          rw [hf] at h3
          obtain ⟨c1, c2⟩ := hok c g1
          exact ⟨a, N.ca c, ad, fv, v, rfl, x1, x4, c1, c2, h3, p1 w1 H1 v (Wd.le.refl w1) q1 h4⟩
        · exact p1.elim
      · exact p1.elim
    · exact p1.elim
end
end DN

set_option Elab.async false
set_option linter.all false
set_option maxRecDepth 100000
/-! CC: from the model's syntax to meanings. -/
namespace DN
open PySem
noncomputable section

/-- what a text's names stand for (sc: as they are read, ss: as they are stored); heap sites; the calls; loops' turns; the depth -/
structure Cc where
  N : List Str
  sc : Scope
  ss : Scope
  fns : List (Str × Nat × Nat)
  glob : List (Str × D)
  blt : List Str
  hp : List (Nat × Nat)
  C : Calls
  n : Nat
  k : Nat
  hot : Bool
  xcl : List (Str × Nat)
  xnw : List Nat
  mt : Nat → Nat → Option Bool
  xe : Option (Str × Nat × List (Nat × D))
  gen : Bool
  sub : Bool
  at_ : List Str
  xin : List (Nat × List Nat)
  xis : Bool
  cls : List (Str × Nat × Nat × Nat)
  mth : List (Str × List (Nat × Nat × Nat))
  okf : Nat → Nat → Bool
  obn : List Str
def Cc.na (c : Cc) : Nat := c.at_.length
def Cc.heap (c : Cc) (p : Pos) : Bool := c.hp.any fun q => Nat.beq q.1 p.line && Nat.beq q.2 p.col
def strEq (a b : Str) : Bool := decide (a = b)
def ixOf (x : Str) : List Str → Option Nat
  | [] => none
  | y :: r => if strEq y x then some 0 else (ixOf x r).map (· + 1)
/-- the slot of a name of the def -/
def Cc.slot (c : Cc) (x : Str) : Option Nat := match c.sc.names.lookup x with
  | some .local => ixOf x c.N
  | some .cell => ixOf x c.N
  | some .free => ixOf x c.N
  | _ => none
/-- the slot of a name that the def may store -/
def Cc.slotS (c : Cc) (x : Str) : Option Nat := match c.ss.names.lookup x with
  | some .local => ixOf x c.N
  | some .cell => ixOf x c.N
  | _ => none
def Cc.isGlob (c : Cc) (x : Str) : Bool := match c.sc.names.lookup x with
  | some .globalImplicit => true
  | _ => false
def okName (x : Str) : Bool := !strEq x "__debug__" && !strEq x "__classdict__" && !strEq x "__name__"
def Cc.free (c : Cc) (x : Str) : Bool := c.isGlob x && okName x && c.blt.any (strEq x)
/-- a comprehension's scope as its block reads it: what it takes of the def's cells -/
def relab (sc scope : Scope) : Scope := { scope with names := scope.names.map fun p => if (p.2 == NameKind.free && sc.kind == .function && sc.names.lookup p.1 == some .cell) then (p.1, NameKind.cell) else p }
def Cc.blk (c : Cc) (scope : Scope) : Cc := { c with sc := relab c.sc scope, ss := scope, gen := false }
/-- within a generator expression's frame -/
def Cc.genc (c : Cc) (scope : Scope) : Cc := { c with sc := scope, ss := scope, gen := false, sub := true }
def plainE : Expr → Bool
  | .Starred _ _ => false
  | .Set _ _ _ => false
  | .Slice _ _ _ _ => false
  | _ => true
/-- no test of its own -/
def plainT : Expr → Bool
  | .UnaryOp .Not _ _ => false
  | .BoolOp _ _ _ => false
  | .IfExp _ _ _ _ => false
  | .Compare _ _ _ _ => false
  | _ => true
/-- a receiver that is no call of super -/
def recvOk : Expr → Bool
  | .Call _ [] [] _ => false
  | _ => true
def isComp : Expr → Bool
  | .ListComp _ _ _ _ => true
  | .SetComp _ _ _ _ => true
  | .DictComp _ _ _ _ _ => true
  | _ => false
def constD : Const → Option D
  | .none => some .non
  | .bool b => some (.bl b)
  | .int i => some (.int i)
  | .str s => some (.str s.cps.toList)
  | _ => none
def binOf (hp : Bool) : Operator → Option (D → D → Hs → R D)
  | .Add => some (opAdd hp)
  | .Sub => some opSub
  | .Mult => some (opMul hp)
  | .FloorDiv => some opFdiv
  | .Mod => some opMod
  | .Pow => some opPow
  | _ => none
def copC : CmpOp → Cop
  | .Eq => .eq | .NotEq => .ne | .Lt => .lt | .LtE => .le | .Gt => .gt | .GtE => .ge | .Is => .isx | .IsNot => .isnot | .In => .inn | .NotIn => .notin
abbrev Rec := (Expr → Option (M D)) × (Expr → Option (M Bool))
def compL (r : Expr → Option (M D)) : List Expr → Option (M (List D))
  | [] => some mNil
  | e :: es => match r e, compL r es with
    | some a, some b => some (mCons a b)
    | _, _ => none
def compML (r : Expr → Option (M D)) : List Expr → Option (List (M D))
  | [] => some []
  | e :: es => match r e, compML r es with
    | some a, some b => some (a :: b)
    | _, _ => none
/-- the keys of a dict's display: ints, texts -/
def cKey : Option Expr → Option D
  | some (.Constant v _ _) => (match constD v with
    | some d => if isKey d then some d else none
    | none => none)
  | _ => none
def cKeys : List (Option Expr) → Option (List D)
  | [] => some []
  | k :: ks => match cKey k, cKeys ks with
    | some a, some b => some (a :: b)
    | _, _ => none
def compAnd (r : Expr → Option (M D)) : List Expr → Option (M D)
  | [] => none
  | [e] => r e
  | e :: es => match r e, compAnd r es with
    | some a, some b => some (mAnd a b)
    | _, _ => none
def compOr (r : Expr → Option (M D)) : List Expr → Option (M D)
  | [] => none
  | [e] => r e
  | e :: es => match r e, compOr r es with
    | some a, some b => some (mOr a b)
    | _, _ => none
def compTAnd (r : Expr → Option (M Bool)) : List Expr → Option (M Bool)
  | [] => none
  | [e] => r e
  | e :: es => match r e, compTAnd r es with
    | some a, some b => some (tAnd a b)
    | _, _ => none
def compTOr (r : Expr → Option (M Bool)) : List Expr → Option (M Bool)
  | [] => none
  | [e] => r e
  | e :: es => match r e, compTOr r es with
    | some a, some b => some (tOr a b)
    | _, _ => none
def tyOf (x : Str) : Option Ty := if strEq x "int" then some .int else if strEq x "bool" then some .bool else if strEq x "str" then some .str else if strEq x "tuple" then some .tuple else if strEq x "list" then some .list else if strEq x "dict" then some .dict else none
/-- built-in functions of values -/
def bFun1 (hp : Bool) (x : Str) : Option (List D → Hs → R D) :=
  if strEq x "len" then some bLen else if strEq x "abs" then some bAbs else if strEq x "int" then some bIntS else if strEq x "ord" then some bOrd else if strEq x "list" then some (bList hp) else if strEq x "tuple" then some bTuple else if strEq x "str" then some bStr else none
def bFun1c (hp : Bool) (x : Str) : Option (List D → Hs → R D) :=
  if strEq x "min" then some bMin1 else if strEq x "max" then some bMax1 else if strEq x "sum" then some bSum else if strEq x "sorted" then some (bSorted hp) else none
def bFun2 (x : Str) : Option (List D → Hs → R D) :=
  if strEq x "min" then some bMin2 else if strEq x "max" then some bMax2 else none
def cName (c : Cc) (x : Str) : Option (M D) := if okName x then (match c.slot x with
  | some i => some (mVar i)
  | none => if c.isGlob x then (match c.glob.lookup x with
    | some d => some (mLit d)
    | none => none) else none) else none
def mNo : M D := fun _ _ => .no
/-- isinstance(e, C), e the caught exception -/
def mXis (mt : Nat → Nat → Option Bool) (ci : Nat) (fs : List (Nat × D)) (k : Nat) : M D := match fs with
  | [] => (match mt ci k with
    | some v => mLit (.bl v)
    | none => mNo)
  | _ :: _ => mNo
/-- isinstance(e, ValueError) -/
def mXiv (mt : Nat → Nat → Option Bool) (ci : Nat) (fs : List (Nat × D)) : M D := match fs with
  | [] => (match mt ci ci with
    | some _ => mLit (.bl true)
    | none => mNo)
  | _ :: _ => mNo
def cIsE (c : Cc) (a b : Expr) : Option (M D) := match c.xe, a, b with
  | some (y, ci, fs), .Name z _, .Name x _ => if strEq y z && okName y && okName x && c.xis then (if c.isGlob x then (match c.xcl.lookup x with
      | some k => some (mXis c.mt ci fs k)
      | none => none) else none) else none
  | _, _, _ => none
def cIsV (c : Cc) (a : Expr) : Option (M D) := match c.xe, a with
  | some (y, ci, fs), .Name z _ => if strEq y z && okName y && c.xis then some (mXiv c.mt ci fs) else none
  | _, _ => none
def flatOk : D → Bool
  | .non => true
  | .bl _ => true
  | .int _ => true
  | .str _ => true
  | _ => false
/-- e.attr, e the caught exception -/
def mXf (at_ : List Str) (xin : List (Nat × List Nat)) (ci : Nat) (fs : List (Nat × D)) (m : Str) (k : Nat) : M D := match xin.lookup ci with
  | some ks => if ks.any (Nat.beq k) && fs.all (fun q => match at_[q.1]? with
        | some x => Nat.beq q.1 k || !strEq x m
        | none => false) then (match fs.lookup k with
        | some d => if flatOk d then mLit d else mNo
        | none => mNo) else mNo
  | none => mNo
def cFldE (c : Cc) (a : Expr) (m : Str) : Option (M D) := match c.xe, a with
  | some (y, ci, fs), .Name z _ => if strEq y z && okName y then (match ixOf m c.at_ with
      | some k => some (mXf c.at_ c.xin ci fs m k)
      | none => none) else none
  | _, _ => none
def orElse {α : Type} (a b : Option α) : Option α := match a with
  | some x => some x
  | none => b
/-- exceptions as values -/
def cIsX (r : Expr → Option (M D)) (c : Cc) (a b : Expr) : Option (M D) := match b with
  | .Name x _ => if okName x && c.xis && c.isGlob x then (match c.xcl.lookup x, r a with
    | some k, some m => some (mXvI c.mt k m)
    | _, _ => none) else none
  | _ => none
def cIsXV (r : Expr → Option (M D)) (c : Cc) (a : Expr) : Option (M D) := if c.xis then (match r a with
  | some m => some (mXvV c.mt m)
  | none => none) else none
def xfOk (xin : List (Nat × List Nat)) (k ci : Nat) : Bool := match xin.lookup ci with
  | some ks => ks.any (Nat.beq k)
  | none => false
def cFldX (r : Expr → Option (M D)) (c : Cc) (a : Expr) (m : Str) : Option (M D) := if recvOk a then (match ixOf m c.at_, r a with
  | some k, some ma => some (mXvF c.na k (xfOk c.xin k) ma)
  | _, _ => none) else none
def cXv (r : Expr → Option (M D)) (c : Cc) (x : Str) (args : List Expr) : Option (M D) := if c.isGlob x && okName x && !c.hot && !c.sub then (match c.xcl.lookup x with
  | some i => (match args with
    | [] => if c.xnw.any (Nat.beq i) then some (mXv0 i) else none
    | a :: as => (match c.xin.lookup i, compL r (a :: as) with
      | some ks, some ms => if Nat.beq ks.length (as.length + 1) then some (mXvN i ks ms) else none
      | _, _ => none))
  | none => none) else none
def cCall (r : Expr → Option (M D)) (c : Cc) (x : Str) (args : List Expr) (pos : Pos) : Option (M D) :=
  if c.isGlob x && okName x then (match c.fns.lookup x with
    | some (f, ar) => if c.hot then none else (match compL r args with
      | some ms => some (mCallN c.C ar f ms)
      | none => none)
    | none => if c.free x then (match args with
      | [a] => (match bFun1 (c.heap pos) x, r a with
        | some f, some m => some (mApp f (mCons m mNil))
        | none, some m => if c.hot then none else (match bFun1c (c.heap pos) x with
          | some f => some (mApp f (mCons m mNil))
          | none => none)
        | _, _ => none)
      | [a, b] => if strEq x "isinstance" then (match b with
          | .Name t _ => if c.free t then (if strEq t "ValueError" then orElse (cIsV c a) (cIsXV r c a) else (match tyOf t, r a with
            | some t, some m => some (mIsi t m)
            | _, _ => none)) else orElse (cIsE c a b) (cIsX r c a b)
          | _ => none)
        else if c.hot then none else (match bFun2 x, r a, r b with
        | some f, some m, some m' => some (mApp f (mCons m (mCons m' mNil)))
        | _, _, _ => none)
      | _ => none) else none) else none
def lineOk (p q : Pos) : Bool := p.endLine == q.line
/-- methods of built-in types -/
def mFun (m : Str) : Option (D → List D → Hs → R D) :=
  if strEq m "append" then some eAppend else if strEq m "extend" then some eExtend else if strEq m "pop" then some ePop else none
def mFunS (hp : Bool) (m : Str) : Option (D → List D → Hs → R D) :=
  if strEq m "join" then some eJoin else if strEq m "split" then some (eSplit hp) else if strEq m "startswith" then some eStarts else if strEq m "find" then some eFind else none
def mFunS2 (hp : Bool) (m : Str) : Option (D → List D → Hs → R D) := if strEq m "split" then some (eSplit2 hp) else none
def cRep1 (r : Expr → Option (M D)) : Expr → Option (M D)
  | .Call (.Attribute o m ap) [.Constant (.str y) _ _, .Constant (.str z) _ _] [] pos => if strEq m "replace" && recvOk o && lineOk ap pos && !strEq y z then (match r o with
    | some mo => some (mRepl y z mo)
    | none => none) else none
  | _ => none
def cRep2 (r : Expr → Option (M D)) : Expr → Option (M D)
  | .Call (.Attribute o m ap) [.Constant (.str y) _ _, .Constant (.str z) _ _] [] pos => if strEq m "replace" && recvOk o && lineOk ap pos && !strEq y z then (match cRep1 r o with
    | some mo => some (mRepl y z mo)
    | none => none) else none
  | _ => none
def cRepl (r : Expr → Option (M D)) (c : Cc) (a : Expr) (op : Operator) (b : Expr) (pos : Pos) : Option (M D) := match a, op with
  | .Constant (.str s) _ _, .Add => (match orElse (cRep2 r b) (cRep1 r b) with
    | some mb => some (mOp (opAdd (c.heap pos)) (mLit (.str s.cps.toList)) mb)
    | none => none)
  | _, _ => none
def cMeth (r : Expr → Option (M D)) (c : Cc) (o : Expr) (m : Str) (ap : Pos) (args : List Expr) (pos : Pos) : Option (M D) :=
  if recvOk o && lineOk ap pos then (match args with
    | [] => if strEq m "pop" then (match r o with
      | some mo => some (mBM "list" ePop mo mNil)
      | none => none) else none
    | [a] => if strEq m "get" then (match r o, r a with
      | some mo, some ma => some (mGet1 mo ma)
      | _, _ => none) else (match mFun m, r o, r a with
      | some f, some mo, some ma => some (mBM "list" f mo (mCons ma mNil))
      | none, some mo, some ma => (match mFunS (c.heap pos) m with
        | some f => some (mBM "str" f mo (mCons ma mNil))
        | none => none)
      | _, _, _ => none)
    | [a, b] => if strEq m "get" then (match r o, r a, r b with
      | some mo, some ma, some mb => some (mGet2 mo ma mb)
      | _, _, _ => none) else if strEq m "setdefault" then (match r o, r a, r b with
      | some mo, some ma, some mb => some (mSetd mo ma mb)
      | _, _, _ => none) else (match mFunS2 (c.heap pos) m, r o, r a, r b with
      | some f, some mo, some ma, some mb => some (mBM "str" f mo (mCons ma (mCons mb mNil)))
      | _, _, _, _ => none)
    | _ => none) else none
/-- methods, fields, makings of the text's own classes -/
def cMeth2 (r : Expr → Option (M D)) (c : Cc) (o : Expr) (m : Str) (ap : Pos) (args : List Expr) (pos : Pos) : Option (M D) := if recvOk o && lineOk ap pos && !c.hot && decide (args.length < 30) then (match c.mth.lookup m, r o, compL r args with
  | some l, some mo, some ms => some (mMth1 c.na c.C (fun ci => l.lookup ci) mo ms)
  | _, _, _ => none) else none
def cFld2 (r : Expr → Option (M D)) (c : Cc) (a : Expr) (m : Str) : Option (M D) := if recvOk a then (match ixOf m c.at_, r a with
  | some k, some ma => some (mFld c.na k (fun ci => c.okf ci k) ma)
  | _, _ => none) else none
def cMake (r : Expr → Option (M D)) (c : Cc) (x : Str) (args : List Expr) : Option (M D) := if c.isGlob x && okName x && !c.hot && !c.sub then (match c.cls.lookup x, args, compL r args with
  | some (ci, f, ar), _ :: _, some ms => some (mMake c.C ci f ar ms)
  | _, _, _ => none) else none
/-- sorted(set(e)) -/
def cSSet (r : Expr → Option (M D)) (c : Cc) (x : Str) (args : List Expr) (pos : Pos) : Option (M D) := match args with
  | [.Call (.Name y _) [a] [] _] => if strEq x "sorted" && strEq y "set" && c.free x && c.free y && !c.hot && plainE a then (match r a with
      | some m => some (mApp (bSSet (c.heap pos)) (mCons m mNil))
      | none => none) else none
  | _ => none
/-- what a for walks -/
def cIter (r : Expr → Option (M D)) (c : Cc) (e : Expr) : Option It := match e with
  | .Call (.Name x _) args [] _ => if c.free "range" && strEq x "range" then (match args with
      | [a] => (match r a with
        | some m => some (iRng1 m)
        | none => none)
      | [a, b] => (match r a, r b with
        | some m, some m' => some (iRng2 m m')
        | _, _ => none)
      | _ => none)
    else (match r e with
      | some m => some (iVal m)
      | none => none)
  | e => (match r e with
      | some m => some (iVal m)
      | none => none)
/-- the own names of a comprehension's target -/
def cOwn (c : Cc) (sc : Scope) : Expr → Option (List (Str × Nat) × List Nat)
  | .Name x _ => (match (c.blk sc).slotS x with
    | some i => some ([(x, i)], [i])
    | none => none)
  | .Tuple [.Name x _, .Name y _] _ _ => (match (c.blk sc).slotS x, (c.blk sc).slotS y with
    | some i, some j => some ([(x, i), (y, j)], [i, j])
    | _, _ => none)
  | _ => none
def cComp1 (rec : Cc → Rec) (c : Cc) (elt : Expr) (gens : List Comprehension) (scope : Scope) (pos : Pos) : Option (M D) := if c.hot then none else match gens with
  | [⟨tg, iter, ifs, 0⟩] => (match cOwn c scope tg, cIter (rec c).1 c iter, (rec (c.blk scope)).1 elt with
    | some (own, is), some it, some m => if plainE iter && L2.blkC c.N c.sc scope own then (match ifs with
      | [] => some (mLc (c.heap pos) (own.map (·.2)) is it tYesM m)
      | [t] => (match (rec (c.blk scope)).2 t with
        | some tm => some (mLc (c.heap pos) (own.map (·.2)) is it tm m)
        | none => none)
      | _ => none) else none
    | _, _, _ => none)
  | _ => none
/-- two clauses, each with a name, without tests -/
def cComp2 (rec : Cc → Rec) (c : Cc) (elt : Expr) (gens : List Comprehension) (scope : Scope) (pos : Pos) : Option (M D) := if c.hot then none else match gens with
  | [⟨tg, iter, [], 0⟩, ⟨tg1, iter1, [], 0⟩] => (match cOwn c scope tg, cOwn c scope tg1, cIter (rec c).1 c iter, cIter (rec (c.blk scope)).1 (c.blk scope) iter1, (rec (c.blk scope)).1 elt with
    | some (own, is), some (own1, is1), some it, some it1, some m => if plainE iter && plainE iter1 && L2.blkC c.N c.sc scope (own ++ own1) then some (mLc2 (c.heap pos) ((own ++ own1).map (·.2)) (own1.map (·.2)) is is1 it it1 m) else none
    | _, _, _, _, _ => none)
  | _ => none
def cComp (rec : Cc → Rec) (c : Cc) (elt : Expr) (gens : List Comprehension) (scope : Scope) (pos : Pos) : Option (M D) := match gens with
  | [_, _] => cComp2 rec c elt gens scope pos
  | _ => cComp1 rec c elt gens scope pos
def notList : Expr → Bool
  | .List _ _ => false
  | _ => true
def genSc (scope : Scope) : Bool := !scope.isCoroutine && (scope.names.all fun y => match y.2 with | .cell => false | _ => true) && (match scope.names.lookup (".0" : Str) with | some .local => true | _ => false)
def cOwnG (c : Cc) (sc : Scope) : Expr → Option (List (Str × Nat) × List Nat)
  | .Name x _ => (match (c.genc sc).slotS x with
    | some i => some ([(x, i)], [i])
    | none => none)
  | .Tuple [.Name x _, .Name y _] _ _ => (match (c.genc sc).slotS x, (c.genc sc).slotS y with
    | some i, some j => some ([(x, i), (y, j)], [i, j])
    | _, _ => none)
  | _ => none
def cAll (rec : Cc → Rec) (c : Cc) (x : Str) (elt : Expr) (gens : List Comprehension) (scope : Scope) : Option (M D) := if c.hot || c.sub || !c.gen || !strEq x "all" || !c.free "all" then none else match gens with
  | [⟨tg, iter, ifs, 0⟩] => (match cOwnG c scope tg, cIter (rec c).1 c iter, (rec (c.genc scope)).1 elt with
    | some (own, is), some it, some m => if plainE iter && notList iter && genSc scope && L2.blkC c.N c.sc scope own then (match ifs with
      | [] => some (mAll (own.map (·.2)) is it tYesM m)
      | [t] => (match (rec (c.genc scope)).2 t with
        | some tm => some (mAll (own.map (·.2)) is it tm m)
        | none => none)
      | _ => none) else none
    | _, _, _ => none)
  | _ => none
def cPart (r : Expr → Option (M D)) : Option Expr → Option (Option (M D))
  | none => some none
  | some e => (match r e with
    | some m => some (some m)
    | none => none)
/-- a receiver that is said to be an object of the text's own classes -/
def isObj (c : Cc) : Expr → Bool
  | .Name x _ => c.obn.any (strEq x)
  | .Attribute _ x _ => c.obn.any (strEq x)
  | _ => false
def cFPart (r : Expr → Option (M D)) : Expr → Option (M D)
  | .FormattedValue e conv none _ => if conv == -1 then (match r e with
    | some m => some (mFmt m)
    | none => none) else none
  | .Constant (.str s) _ _ => some (mLit (.str s.cps.toList))
  | _ => none
def cFParts (r : Expr → Option (M D)) : List Expr → Option (List (M D))
  | [] => some []
  | e :: es => (match cFPart r e, cFParts r es with
    | some m, some ms => some (m :: ms)
    | _, _ => none)
def stepE (rec : Cc → Rec) (c : Cc) (e : Expr) : Option (M D) := if plainE e then (match e with
  | .Name x _ => cName c x
  | .Constant v _ _ => (match constD v with
    | some d => some (mLit d)
    | none => none)
  | .BinOp a op b pos => orElse (cRepl (rec c).1 c a op b pos) (match binOf (c.heap pos) op, (rec c).1 a, (rec c).1 b with
    | some f, some m, some m' => some (mOp f m m')
    | _, _, _ => none)
  | .UnaryOp .USub a _ => (match (rec c).1 a with
    | some m => some (mNeg m)
    | none => none)
  | .UnaryOp .Not a _ => (match (rec c).1 a with
    | some m => some (mNotT m)
    | none => none)
  | .BoolOp .And es _ => compAnd (rec c).1 es
  | .BoolOp .Or es _ => compOr (rec c).1 es
  | .Compare a [op] [b] _ => (match (rec c).1 a, (rec c).1 b with
    | some m, some m' => some (mOp (opCmp (copC op)) m m')
    | _, _ => none)
  | .Compare a [op, op'] [b, d] _ => (match (rec c).1 a, (rec c).1 b, (rec c).1 d with
    | some m, some m', some m'' => some (mChain (copC op) (copC op') m m' m'')
    | _, _, _ => none)
  | .IfExp t a b _ => (match (rec c).2 t, (rec c).1 a, (rec c).1 b with
    | some m, some m', some m'' => some (mIfe m m' m'')
    | _, _, _ => none)
  | .Tuple es _ _ => (match compL (rec c).1 es with
    | some m => some (mTup m)
    | none => none)
  | .List es pos => (match compL (rec c).1 es with
    | some m => some (mLst (c.heap pos) m)
    | none => none)
  | .Subscript a (.Slice lo hi none _) pos => (match (rec c).1 a, cPart (rec c).1 lo, cPart (rec c).1 hi with
    | some m, some l, some h => some (mSlc (c.heap pos) m l h)
    | _, _, _ => none)
  | .Subscript a i _ => (match (rec c).1 a, (rec c).1 i with
    | some m, some m' => some (mOp opIx m m')
    | _, _ => none)
  | .Call (.Name x _) [.GeneratorExp elt gens scope _] [] _ => cAll rec c x elt gens scope
  | .Call (.Name x _) args [] pos => orElse (cSSet (rec c).1 c x args pos) (orElse (cMake (rec c).1 c x args) (orElse (cCall (rec c).1 c x args pos) (cXv (rec c).1 c x args)))
  | .Attribute a m _ => orElse (cFldE c a m) (if c.xis && c.cls.isEmpty then cFldX (rec c).1 c a m else cFld2 (rec c).1 c a m)
  | .Call (.Attribute o m ap) args [] pos => if isObj c o then cMeth2 (rec c).1 c o m ap args pos else orElse (cMeth (rec c).1 c o m ap args pos) (cMeth2 (rec c).1 c o m ap args pos)
  | .Dict [] [] _ => if c.hot then none else some mDict0
  | .Dict keys values _ => (match cKeys keys, compML (rec c).1 values with
    | some (k :: ks), some ms => if Nat.beq (k :: ks).length ms.length && decide ((k :: ks).length ≤ 15) && !c.hot then some (mDisp (k :: ks) ms) else none
    | _, _ => none)
  | .ListComp elt gens scope pos => cComp rec c elt gens scope pos
  | .JoinedStr (v1 :: v2 :: vs) _ => (match cFParts (rec c).1 (v1 :: v2 :: vs) with
    | some ms => some (mJoin ms [])
    | none => none)
  | _ => none) else none
def stepT (r : Rec) (e : Expr) : Option (M Bool) := match e with
  | .UnaryOp .Not a _ => (match r.2 a with
    | some m => some (tNot m)
    | none => none)
  | .BoolOp .And es _ => compTAnd r.2 es
  | .BoolOp .Or es _ => compTOr r.2 es
  | .Compare a [op] [b] _ => (match r.1 a, r.1 b with
    | some m, some m' => some (tVal (mOp (opCmp (copC op)) m m'))
    | _, _ => none)
  | .Compare a [op, op'] [b, d] _ => (match r.1 a, r.1 b, r.1 d with
    | some m, some m', some m'' => some (tVal (mChain (copC op) (copC op') m m' m''))
    | _, _, _ => none)
  | e => if plainT e then (match r.1 e with
    | some m => some (tVal m)
    | none => none) else none
def comp : Nat → Cc → Rec
  | 0, _ => (fun _ => none, fun _ => none)
  | k + 1, c => (fun e => stepE (comp k) c e, fun e => stepT (comp k c) e)

/-! ### statements -/
def cTg1 (r : Expr → Option (M D)) (c : Cc) : Expr → Option Tg
  | .Name x _ => if c.hot then none else (match c.slotS x with
    | some i => some (gVar i)
    | none => none)
  | .Subscript o i _ => if plainE i then (match r o, r i with
    | some m, some m' => some (gSub m m')
    | _, _ => none) else none
  | _ => none
def cTgs (r : Expr → Option (M D)) (c : Cc) : List Expr → Option (List Tg)
  | [] => some []
  | e :: es => match cTg1 r c e, cTgs r c es with
    | some g, some gs => some (g :: gs)
    | _, _ => none
def cTgt (r : Expr → Option (M D)) (c : Cc) : Expr → Option Tg
  | .Tuple es _ _ => if c.hot then none else (match cTgs r c es with
    | some gs => some (gTup gs)
    | none => none)
  | e => cTg1 r c e
def isTuple : Expr → Bool
  | .Tuple _ _ _ => true
  | _ => false
def Cc.slotX (c : Cc) (x : Str) : Option Nat := match c.sc.names.lookup x with
  | some .local => ixOf x c.N
  | _ => none
/-- x = [..], x a local: the store within the comprehension's frame -/
def cAsg (r : Rec) (c : Cc) (tg e : Expr) : Option B := match tg, e with
  | .Name y py, .ListComp elt gens scope pos => (match c.ss.names.lookup y, c.slotS y with
    | some .local, some i => if (py.line == pos.line) && !(scope.names.any fun (n, k) => n == y && (k == .local || k == .cell)) then (match r.1 (.ListComp elt gens scope pos) with
      | some m => some (sAsg m (gVar i))
      | none => none) else none
    | some .cell, some _ => (match r.1 (.ListComp elt gens scope pos), cTgt r.1 c (.Name y py) with
      | some m, some g => some (sAsg m g)
      | _, _ => none)
    | _, _ => none)
  | .Tuple [.Name x px, .Name y py] _ _, .Tuple [a, b] _ _ => if !c.hot && (py.line == px.line) && !strEq x y && plainE a && plainE b && !([a, b].all (foldedForSure 8)) && !([a, b].all (constantsAlone 8)) then (match c.slotX x, c.slotX y, compL r.1 [a, b] with
    | some i, some j, some m => if i == j then none else some (sPar i j m)
    | _, _, _ => none) else none
  | tg, e => if isComp e || (isTuple tg && isTuple e) then none else (match r.1 e, cTgt r.1 c tg with
    | some m, some g => some (sAsg m g)
    | _, _ => none)
def cBlk (f : Stmt → Option B) : List Stmt → Option B
  | [] => some sPass
  | s :: ss => (match f s, cBlk f ss with
    | some a, some b => some (sSeq a b)
    | _, _ => none)
/-- a suite's names: nothing may be called, stored, raised -/
def Cc.heat (c : Cc) (nm : Option Str) (ci : Nat) (fs : List (Nat × D)) : Cc := { c with hot := true, xe := nm.map fun x => (x, ci, fs) }
def cHds (f : Cc → Stmt → Option B) (c : Cc) : List ExceptHandler → Option (List HdE)
  | [] => some []
  | .ExceptHandler (some (.Name x _)) nm (b₀ :: suite) _ :: r => if c.isGlob x && okName x then (match c.xcl.lookup x, cHds f c r with
    | some k, some hs => (match nm with
      | none => some ((k, none, fun ci fs => (cBlk (f (c.heat none ci fs)) (b₀ :: suite)).getD fun _ _ => .no) :: hs)
      | some n => (match c.slotX n with
        | some i => some ((k, some i, fun ci fs => (cBlk (f (c.heat (some n) ci fs)) (b₀ :: suite)).getD fun _ _ => .no) :: hs)
        | none => none))
    | _, _ => none) else none
  | _ => none
def compS (ke : Nat) : Nat → Cc → Stmt → Option B
  | 0, _, _ => none
  | k + 1, c, s => match s with
    | .Expr (.Constant (.str _) _ _) _ => some sPass
    | .Expr e _ => if isComp e then none else (match (comp ke c).1 e with
      | some m => some (sEx m)
      | none => none)
    | .Return none _ => some (sRet (mLit .non))
    | .Return (some e) _ => (match (comp ke c).1 e with
      | some m => some (sRet m)
      | none => none)
    | .If t a b _ => (match (comp ke c).2 t, cBlk (compS ke k c) a, cBlk (compS ke k c) b with
      | some t, some a, some b => some (sIf t a b)
      | _, _, _ => none)
    | .Assign [.Attribute o m _] e _ => if isComp e || !recvOk o then none else (match ixOf m c.at_, (comp ke c).1 o, (comp ke c).1 e with
      | some k, some mo, some me => some (sFldS c.na k (fun ci => c.okf ci k) me mo)
      | _, _, _ => none)
    | .Assign [tg] e _ => cAsg (comp ke c) c tg e
    | .AugAssign (.Name x _) .Add e _ => if c.hot then none else (match c.slotS x, (comp ke c).1 e with
      | some i, some m => some (sAug i opIAdd m)
      | _, _ => none)
    | .For tg iter body [] _ => if plainE iter && !c.hot then (match cTgt (comp ke c).1 c tg, cIter (comp ke c).1 c iter, cBlk (compS ke k c) body with
      | some g, some it, some b => some (sFor g it b)
      | _, _, _ => none) else none
    | .While t body [] _ => if c.hot then none else (match (comp ke c).2 t, cBlk (compS ke k c) body with
      | some t, some b => some (sWhile c.n t b)
      | _, _ => none)
    | .Raise (some (.Call (.Name x _) [] [] _)) none _ => if c.isGlob x && okName x && !c.hot then (match c.xcl.lookup x with
      | some i => if c.xnw.any (Nat.beq i) then some (sRaise i) else none
      | none => none) else none
    | .Raise (some (.Call (.Name x _) (a :: as) [] _)) none _ => if c.isGlob x && okName x && !c.hot then (match c.xcl.lookup x with
      | some i => (match c.xin.lookup i, compL (comp ke c).1 (a :: as) with
        | some ks, some ms => if Nat.beq ks.length (as.length + 1) then some (sRaiseX i ks ms) else none
        | _, _ => none)
      | none => none) else none
    | .Try body (h₀ :: hds) [] [] _ => if c.hot then none else (match cBlk (compS ke k c) body, cHds (compS ke k) c (h₀ :: hds) with
      | some b, some hs => some (sTry c.mt b hs)
      | _, _ => none)
    | .Pass _ => some sPass
    | .Break _ => some sBrk
    | .Continue _ => some sCnt
    | _ => none
/-- a def's body, nested at most 40 deep -/
def compB (c : Cc) (body : List Stmt) : Option B := cBlk (compS 40 40 c) body
end
end DN

set_option Elab.async false
set_option linter.all false
set_option maxRecDepth 100000
set_option maxHeartbeats 2000000
/-! D11: try. -/
namespace DN
open PySem PySem.Spec
open L2 hiding It
open PyProof.Rows hiding St
/-! ### the layer: clauses with and without a name -/
def outD (sl : Option Nat) (D : Ends) : Ends := match sl with
  | none => D
  | some i => { nx := fun σ' H' => D.nx (σ'.set i none) H', rt := D.rt, bk := fun σ' H' => D.bk (σ'.set i none) H', ct := fun σ' H' => D.ct (σ'.set i none) H' }
def inS (sl : Option Nat) (a : Addr) (σ : St) : St := match sl with
  | none => σ
  | some i => σ.set i (some (.ref a))
def wG (K : PySem.W.Frag) (Wout : WX) (D : Ends) : List (Value × Option Nat × (Addr → Value → Option Addr → TS)) → WX
  | [] => Wout
  | (c, sl, ts) :: r => fun cls d σ H => ∃ b, PySem.W.exmOne K cls c = some b ∧ (b = true → ∀ a, H a = none → ts a cls d (outD sl D) (inS sl a σ) H) ∧ (b = false → wG K Wout D r cls d σ H)
inductive HdsG (X : Cx) : List ExceptHandler → List (Value × Option Nat × (Addr → Value → Option Addr → TS)) → Prop
  | nil : HdsG X [] []
  | only {x : Str} {c : Value} {ts : Addr → Value → Option Addr → TS} {b₀ : Stmt} {suite : List Stmt} {np pos' : Pos} {hds : List ExceptHandler} {l : List (Value × Option Nat × (Addr → Value → Option Addr → TS))} (hc : Names X x c)
      (hsu : ∀ (a : Addr) (oe : Obj) (cls : Value) (d : Option Addr) (pn : List (Addr × Obj)), Zc cls d oe → (∃ vs, oe.data = .fields vs) → PSs (X.suite a ((a, oe) :: pn)) (b₀ :: suite) (ts a cls d)) (r : HdsG X hds l) :
      HdsG X (.ExceptHandler (some (.Name x np)) none (b₀ :: suite) pos' :: hds) ((c, none, ts) :: l)
  | as_ {x n : Str} {i : Nat} {c : Value} {ts : Addr → Value → Option Addr → TS} {b₀ : Stmt} {suite : List Stmt} {np pos' : Pos} {hds : List ExceptHandler} {l : List (Value × Option Nat × (Addr → Value → Option Addr → TS))} (hc : Names X x c)
      (hN : X.N.Nodup) (hi : X.N[i]? = some n) (hln : X.env.kindOf n = some .local)
      (hsu : ∀ (a : Addr) (oe : Obj) (cls : Value) (d : Option Addr) (pn : List (Addr × Obj)), Zc cls d oe → (∃ vs, oe.data = .fields vs) → PSs (X.suite a ((a, oe) :: pn)) (b₀ :: suite) (ts a cls d)) (r : HdsG X hds l) :
      HdsG X (.ExceptHandler (some (.Name x np)) (some n) (b₀ :: suite) pos' :: hds) ((c, some i, ts) :: l)
section
variable {X : Cx} {body : List Stmt} {h₀ : ExceptHandler} {hds : List ExceptHandler} {l : List (Value × Option Nat × (Addr → Value → Option Addr → TS))} {pos : Pos} {tb : WX → TS} {Wout : WX}
theorem ps_try_gen (hs : X.stack = X.env :: X.outer) (hf : X.env.frame = some X.env.locals) (tk : Takes X Wout)
    (hb : ∀ (W : WX) (pn : List (Addr × Obj)) (xe : Value → Shared → Prop), Takes (X.tr pn xe) W → PassesOwn (model X.prog X.w) X.A X.env xe → PSs (X.tr pn xe) body (tb W))
    (hh : HdsG X (h₀ :: hds) l) : PS X (.Try body (h₀ :: hds) [] [] pos) (fun D σ H => tb (wG X.K Wout D l) D σ H) := by
  refine ⟨fun pins s σ H D I h => ?_⟩
  have ok := I.ok
  have hfr : X.A.frames = some (X.env :: X.outer) := by rw [ok.frames, hs]
  refine wpAny_Try_except ?_
  refine wpAny_mono ((hb (wG X.K Wout D l) (X.pn ++ pins) (fun e s₁ => wpAny (model X.prog X.w) X.A (noteFrame e X.env) (fun _ s₂ => wpAny (model X.prog X.w) X.A (setFlight e none) (fun _ s₃ =>
    wpAny (model X.prog X.w) X.A (handleBy e X.env (h₀ :: hds)) (SP X pins D) X.xe s₃) X.xe s₂) X.xe s₁) (fun u s' xx => ?_) PassesOwn.looking).run [] s σ H D (I.toTry _) h) (fun f s1 hsp => ?_) (fun e s1 he => he)
  · obtain ⟨a, B, sI, pins', σ', H', cls, d, rfl, J', nb, up, sky, na, os, ag, w⟩ := xx
    have J : L2.Inv X pins σ' H' sI := J'.ofTry ok
    have sky' : Sky B (X.env :: X.outer) a (Zc cls d) X.env.locals s'.heap := by rw [← hs]; exact sky
    show wpAny (model X.prog X.w) X.A (noteFrame (.ref a) X.env) _ _ _
    refine Sky.land Zc.steady hfr hf sky' fun h3 fl3 up3 => ?_
    have J3 : L2.Inv X pins σ' H' { s' with heap := h3 } := J.landed nb fl3.1 (up.trans up3) os ag
    obtain ⟨oe3, vs3, he3, hz3, hd3⟩ := fl3.there
    have notFr : ∀ {h : Heap} {o : Obj} {vs : Array Value}, h.FunFrames B (X.env :: X.outer) → h.get? a = some o → o.data = .fields vs → a ∉ frs (X.env :: X.outer) := fun {h o vs} ff e dd hm => by
      obtain ⟨_, o', e', hnf⟩ := ff.mem hm
      rw [e] at e'; cases e'
      exact hnf _ dd
    have nfr := notFr fl3.2.2.1 he3 hd3
    have nL : a ≠ X.env.locals := fun z => nfr (List.mem_filterMap.mpr ⟨X.env, List.mem_cons_self, by rw [hf, z]⟩)
    have nF : a ∉ X.fs := fun hm => by
      obtain ⟨e, he, q⟩ := List.mem_filterMap.mp hm
      exact nfr (List.mem_filterMap.mpr ⟨e, List.mem_cons_of_mem _ he, q⟩)
    have S3 := J3.suite he3 hd3 na nL nF
    have LT : PySem.W.Looks (model X.prog X.w) h3 (typeOf (.ref a)) cls := fun A Q E s k q => wpAny_typeOf_ref (k _ _ he3) (by rw [hz3.1]; exact q)
    have test : ∀ {x : Str} {np : Pos} {c : Value} {Q : Value → Shared → Prop} {E : Value → Shared → Prop}, Names X x c → Q c { s' with heap := h3 } → wpAny (model X.prog X.w) (X.A.mark (some (.ref a))) (eval (.Name x np) X.env) Q E { s' with heap := h3 } := fun {x np c Q E} hc q => by
      obtain ⟨hg, hdbg, hm | ⟨hm, hv, hnn⟩⟩ := hc
      · exact ld_glob (X := X.suite a ((a, oe3) :: (X.pn ++ pins))) S3 hg hm q hdbg
      · exact ld_blt (X := X.suite a ((a, oe3) :: (X.pn ++ pins))) S3 hg hm hv q hnn hdbg
    have go : ∀ {hds' : List ExceptHandler} {l' : List (Value × Option Nat × (Addr → Value → Option Addr → TS))}, HdsG X hds' l' → wG X.K Wout D l' cls d σ' H' →
        wpAny (model X.prog X.w) X.A (handleBy (.ref a) X.env hds') (SP X pins D) X.xe { s' with heap := h3 } := by
      intro hds' l' hk
      induction hk with
      | nil =>
        intro w
        refine wpAny_handleBy_nil ?_
        obtain ⟨k1, k2, k3, oe, vs, T, oT, ts', he, hz, hd, h1, hr⟩ := id fl3
        unfold PySem.passOn
        refine wpAny_bind (wpAny_field he hd h1 ?_)
        rw [if_neg (show ¬ ((Value.ref T == Value.none) = true) from by simp)]
        have fin : wpAny (model X.prog X.w) X.A (setFlight (.ref a) X.env.frame) (fun _ s4 => wpAny (model X.prog X.w) X.A (throw (.ref a) : Sem Flow) (SP X pins D) X.xe s4) X.xe { s' with heap := h3 } := by
          rw [hf]
          refine HandSPX.setFlight_upZ fl3 fun h4 hh4 up4 => wpAny_throw (tk _ _ ?_)
          exact ⟨a, B, sI, pins, σ', H', cls, d, rfl, J, nb, (up.trans up3).trans up4, .inr (.inr (by rw [hs]; exact hh4)), na, os, ag, w⟩
        first
          | exact wpAny_bind (wpAny_pure (wpAny_bind fin))
          | exact wpAny_bind fin
      | @only x c ts b₀ suite np pos' hds2 l2 hc hsu r ih =>
        intro w
        obtain ⟨b, hb1, hyes, hno⟩ := w
        refine wpAny_handleBy_cons (codeAny_handlers_test ?_) (by intro q; cases q)
        have LM := PySem.W.exm_one (M := model X.prog X.w) (J3.kIn) LT hb1
        refine test hc (LM.here ?_)
        cases b with
        | true =>
          refine codeAny_handlers_suite ?_
          refine HandSPX.lands_againZ fl3 fun h4 fl4 up4 => ?_
          have J4 : L2.Inv X pins σ' H' { s' with heap := h4 } := J.landed nb fl4.1 ((up.trans up3).trans up4) os ag
          obtain ⟨oe4, vs4, he4, hz4, hd4⟩ := fl4.there
          have S4 := J4.suite he4 hd4 na nL nF
          refine wpAny_mono ((hsu a oe4 cls d (X.pn ++ pins) hz4 ⟨_, hd4⟩).run [] _ _ H' _ S4 (hyes rfl a na)) (fun f s6 hsp => ?_) (fun _ _ z => False.elim z)
          cases f with
          | next =>
            obtain ⟨σ6, H6, S6, q6⟩ := hsp
            exact ⟨_, _, S6.unsuite ok, q6⟩
          | brk =>
            obtain ⟨σ6, H6, S6, q6⟩ := hsp
            exact ⟨_, _, S6.unsuite ok, q6⟩
          | cont =>
            obtain ⟨σ6, H6, S6, q6⟩ := hsp
            exact ⟨_, _, S6.unsuite ok, q6⟩
          | ret u =>
            obtain ⟨v6, σ6, H6, S6, r6, q6⟩ := hsp
            exact ⟨_, _, _, S6.unsuite ok, r6, q6⟩
        | false =>
          show wpAny _ X.A (handleBy (.ref a) X.env hds2) _ _ _
          exact ih (hno rfl)
      | @as_ x n i c ts b₀ suite np pos' hds2 l2 hc hN hi hln hsu r ih =>
        intro w
        obtain ⟨b, hb1, hyes, hno⟩ := w
        refine wpAny_handleBy_cons (codeAny_handlers_test ?_) (by intro q; cases q)
        have LM := PySem.W.exm_one (M := model X.prog X.w) (J3.kIn) LT hb1
        refine test hc (LM.here ?_)
        cases b with
        | true =>
          have hloc : Loc X.env.scope n := .inl hln
          refine codeAny_handlers_suite_as ?_
          refine HandSPX.lands_againZ fl3 fun h4 fl4 up4 => ?_
          have J4 : L2.Inv X pins σ' H' { s' with heap := h4 } := J.landed nb fl4.1 ((up.trans up3).trans up4) os ag
          obtain ⟨oe4, vs4, he4, hz4, hd4⟩ := fl4.there
          have S4 := J4.suite he4 hd4 na nL nF
          refine store_ok (X := X.suite a ((a, oe4) :: (X.pn ++ pins))) (v := .ref a) S4 hN hi hloc rfl (fun s5 S5 => ?_) (.inr hln)
          refine wpAny_mono ((hsu a oe4 cls d (X.pn ++ pins) hz4 ⟨_, hd4⟩).run [] s5 _ H' _ S5 (hyes rfl a na)) (fun f s6 hsp => ?_) (fun _ _ z => False.elim z)
          have end_ : ∀ {σ6 : St} {H6 : Hp} {Q : Shared → Prop}, L2.Inv (X.suite a ((a, oe4) :: (X.pn ++ pins))) [] σ6 H6 s6 → (∀ s7, L2.Inv X pins (σ6.set i none) H6 s7 → Q s7) →
              wpAny (model X.prog X.w) X.A (do bindName X.env n .none; unbindBehindTheSuite X.env n pos') (fun _ s7 => Q s7) X.xe s6 := fun {σ6 H6 Q} S6 hq => gone_ok (S6.unsuite ok) hN hi hln hq
          cases f with
          | next =>
            obtain ⟨σ6, H6, S6, q6⟩ := hsp
            exact end_ S6 fun s7 J7 => ⟨_, _, J7, q6⟩
          | brk =>
            obtain ⟨σ6, H6, S6, q6⟩ := hsp
            exact end_ S6 fun s7 J7 => ⟨_, _, J7, q6⟩
          | cont =>
            obtain ⟨σ6, H6, S6, q6⟩ := hsp
            exact end_ S6 fun s7 J7 => ⟨_, _, J7, q6⟩
          | ret u =>
            obtain ⟨v6, σ6, H6, S6, r6, q6⟩ := hsp
            exact end_ S6 fun s7 J7 => ⟨_, _, _, J7, r6, q6⟩
        | false =>
          show wpAny _ X.A (handleBy (.ref a) X.env hds2) _ _ _
          exact ih (hno rfl)
    exact go hh w
  · cases f with
    | next =>
      obtain ⟨σ', H', J', q⟩ := hsp
      exact wpAny_execs_nil ⟨σ', H', J'.ofTry ok, q⟩
    | brk =>
      obtain ⟨σ', H', J', q⟩ := hsp
      exact ⟨σ', H', J'.ofTry ok, q⟩
    | cont =>
      obtain ⟨σ', H', J', q⟩ := hsp
      exact ⟨σ', H', J'.ofTry ok, q⟩
    | ret u =>
      obtain ⟨v, σ', H', J', r, q⟩ := hsp
      exact ⟨v, σ', H', J'.ofTry ok, r, q⟩
end
end DN

set_option Elab.async false
set_option linter.all false
set_option maxRecDepth 100000
set_option maxHeartbeats 2000000
/-! D12: try, as a meaning. -/
namespace DN
open PySem PySem.Spec
open L2 hiding It
open PyProof.Rows hiding St
/-- the caught exception is held in slot i -/
def Nm.heat (N : Nm) (i : Nat) (a : Addr) (dd : Option Addr) (fv : List (Str × V)) : Nm := { N with xs := some (i, a), kp := fun b => if dd = some b then some fv else none }
/-- how an exception's dict and fields hang together -/
def XF (N : Nm) (fs : List (Nat × D)) (dd : Option Addr) (fv : List (Str × V)) : Prop := (fs = [] → dd = none) ∧ (fs ≠ [] → (∃ ad, dd = some ad) ∧ ∃ w, Repf N w fs fv)
theorem XRep.xf {N : Nm} {w : Wd} {c : Nat} {fs : List (Nat × D)} {cls : Value} {dd : Option Addr} {H : Hp} (x : XRep N w c fs cls dd H) : ∃ fv, XF N fs dd fv ∧ ∀ ad, dd = some ad → H ad = some (.xd fv) := by
  obtain ⟨_, x⟩ := x
  cases fs with
  | nil =>
    have x : dd = none := x
    exact ⟨[], ⟨fun _ => x, fun z => absurd rfl z⟩, fun ad e => (by rw [x] at e; cases e)⟩
  | cons f fs =>
    obtain ⟨a, fv, e, hh, r⟩ := x
    exact ⟨fv, ⟨fun z => (by cases z), fun _ => ⟨⟨a, e⟩, w, r⟩⟩, fun ad e2 => by rw [e] at e2; cases e2; exact hh⟩
section
variable {N : Nm} {w : Wd} {i : Nat} {b : Addr} {dd : Option Addr} {fv : List (Str × V)}
mutual
theorem rep_heat : ∀ (d : D) (v : V), Rep (N.heat i b dd fv) w d v ↔ Rep N w d v
  | .non, _ => Iff.rfl
  | .bl _, _ => Iff.rfl
  | .int _, _ => Iff.rfl
  | .str _, _ => Iff.rfl
  | .tup xs, v => ⟨fun ⟨a, vs, e, s, r⟩ => ⟨a, vs, e, s, (reps_heat xs vs).mp r⟩, fun ⟨a, vs, e, s, r⟩ => ⟨a, vs, e, s, (reps_heat xs vs).mpr r⟩⟩
  | .fl xs, v => ⟨fun ⟨a, vs, e, s, r⟩ => ⟨a, vs, e, s, (reps_heat xs vs).mp r⟩, fun ⟨a, vs, e, s, r⟩ => ⟨a, vs, e, s, (reps_heat xs vs).mpr r⟩⟩
  | .sl xs, v => ⟨fun ⟨a, vs, e, s, r⟩ => ⟨a, vs, e, s, (reps_heat xs vs).mp r⟩, fun ⟨a, vs, e, s, r⟩ => ⟨a, vs, e, s, (reps_heat xs vs).mpr r⟩⟩
  | .fd kvs, v => ⟨fun ⟨a, vs, e, s, r⟩ => ⟨a, vs, e, s, (repd_heat kvs vs).mp r⟩, fun ⟨a, vs, e, s, r⟩ => ⟨a, vs, e, s, (repd_heat kvs vs).mpr r⟩⟩
  | .ref _, _ => Iff.rfl
  | .fn _, _ => Iff.rfl
  | .xc _ _, _ => Iff.rfl
theorem reps_heat : ∀ (ds : List D) (vs : List V), Reps (N.heat i b dd fv) w ds vs ↔ Reps N w ds vs
  | [], _ => Iff.rfl
  | d :: ds, vs => ⟨fun ⟨v, r, e, h1, h2⟩ => ⟨v, r, e, (rep_heat d v).mp h1, (reps_heat ds r).mp h2⟩, fun ⟨v, r, e, h1, h2⟩ => ⟨v, r, e, (rep_heat d v).mpr h1, (reps_heat ds r).mpr h2⟩⟩
theorem repd_heat : ∀ (ds : List (D × D)) (vs : List (Key × V)), Repd (N.heat i b dd fv) w ds vs ↔ Repd N w ds vs
  | [], _ => Iff.rfl
  | (k, d) :: ds, vs => ⟨fun ⟨q, v, r, e, hk, h1, h2⟩ => ⟨q, v, r, e, hk, (rep_heat d v).mp h1, (repd_heat ds r).mp h2⟩, fun ⟨q, v, r, e, hk, h1, h2⟩ => ⟨q, v, r, e, hk, (rep_heat d v).mpr h1, (repd_heat ds r).mpr h2⟩⟩
end
theorem repf_heat : ∀ (ds : List (Nat × D)) (vs : List (Str × V)), Repf (N.heat i b dd fv) w ds vs ↔ Repf N w ds vs
  | [], _ => Iff.rfl
  | (k, d) :: ds, vs => ⟨fun ⟨v, r, e, h1, h2⟩ => ⟨v, r, e, (rep_heat d v).mp h1, (repf_heat ds r).mp h2⟩, fun ⟨v, r, e, h1, h2⟩ => ⟨v, r, e, (rep_heat d v).mpr h1, (repf_heat ds r).mpr h2⟩⟩
theorem ob_heat : ∀ (o : O) (u : Option HO), ObRep (N.heat i b dd fv) w o u ↔ ObRep N w o u
  | .lst xs, _ => ⟨fun ⟨vs, e, r⟩ => ⟨vs, e, (reps_heat xs vs).mp r⟩, fun ⟨vs, e, r⟩ => ⟨vs, e, (reps_heat xs vs).mpr r⟩⟩
  | .dct xs, _ => ⟨fun ⟨vs, e, r⟩ => ⟨vs, e, (repd_heat xs vs).mp r⟩, fun ⟨vs, e, r⟩ => ⟨vs, e, (repd_heat xs vs).mpr r⟩⟩
  | .ins _ xs, _ => ⟨fun ⟨dx, vs, e, r⟩ => ⟨dx, vs, e, (repf_heat xs vs).mp r⟩, fun ⟨dx, vs, e, r⟩ => ⟨dx, vs, e, (repf_heat xs vs).mpr r⟩⟩
theorem relH_heat {h : Hs} {H : Hp} (hd : ∀ ad, dd = some ad → H ad = some (.xd fv)) (r : RelH N w h H) : RelH (N.heat i b dd fv) w h H :=
  ⟨r.imm, r.prv, r.len, r.nod, r.sep, fun n a o e1 e2 => (ob_heat o _).mpr (r.obj n a o e1 e2), fun a f e => by
    have e : (if dd = some a then some fv else none) = some f := e
    split at e
    · rename_i z
      cases e
      exact hd a z
    · (cases e), r.tab⟩
theorem relH_cool {h : Hs} {H : Hp} (hx : N.Cold) (r : RelH (N.heat i b dd fv) w h H) : RelH N w h H :=
  ⟨r.imm, r.prv, r.len, r.nod, r.sep, fun n a o e1 e2 => (ob_heat o _).mp (r.obj n a o e1 e2), fun a f e => (by rw [hx.2 a] at e; cases e), r.tab⟩
theorem relE_heat {ρ : Env} {σ : St} (r : RelE N w ρ σ) (hi : i < ρ.length) : RelE (N.heat i b dd fv) w (ρ.set i none) (σ.set i (some (.ref b))) :=
  ⟨by rw [List.length_set, List.length_set, r.1], fun j d e => by
    by_cases hj : i = j
    · subst hj
      rw [List.getElem?_set_self hi] at e
      cases e
    · rw [List.getElem?_set_ne hj] at e
      obtain ⟨v, h1, h2⟩ := r.2 j d e
      exact ⟨v, by rw [List.getElem?_set_ne hj]; exact h1, (rep_heat d v).mpr h2⟩, fun j a e => by
    cases e
    exact List.getElem?_set_self (by rw [← r.1]; exact hi)⟩
theorem relE_cool {ρ : Env} {σ : St} (hx : N.xs = none) (r : RelE (N.heat i b dd fv) w ρ σ) : RelE N w (ρ.set i none) (σ.set i none) :=
  ⟨by rw [List.length_set, List.length_set, r.1], fun j d e => by
    by_cases hj : i = j
    · subst hj
      by_cases hl : i < ρ.length
      · rw [List.getElem?_set_self hl] at e
        cases e
      · rw [List.getElem?_eq_none (by rw [List.length_set]; omega)] at e
        cases e
    · rw [List.getElem?_set_ne hj] at e
      obtain ⟨v, h1, h2⟩ := r.2 j d e
      exact ⟨v, by rw [List.getElem?_set_ne hj]; exact h1, (rep_heat d v).mp h2⟩, fun j a e => by
    rw [hx] at e
    cases e⟩
end
inductive HdOk (X : Cx) (N : Nm) : List ExceptHandler → List HdE → Prop
  | nil : HdOk X N [] []
  | only {x : Str} {k : Nat} {b₀ : Stmt} {suite : List Stmt} {np pos' : Pos} {s : Nat → List (Nat × D) → B} {hds : List ExceptHandler} {hs : List HdE} (hc : Names X x (.ref (N.ca k)))
      (hsu : ∀ (a : Addr) (oe : Obj) (c : Nat) (fs : List (Nat × D)) (dd : Option Addr) (pn : List (Addr × Obj)), Zc (.ref (N.ca c)) dd oe → (∃ vs, oe.data = .fields vs) → PSs (X.suite a ((a, oe) :: pn)) (b₀ :: suite) (TDS N (s c fs) W0)) (r : HdOk X N hds hs) :
      HdOk X N (.ExceptHandler (some (.Name x np)) none (b₀ :: suite) pos' :: hds) ((k, none, s) :: hs)
  | as_ {x n : Str} {i k : Nat} {b₀ : Stmt} {suite : List Stmt} {np pos' : Pos} {s : Nat → List (Nat × D) → B} {hds : List ExceptHandler} {hs : List HdE} (hc : Names X x (.ref (N.ca k)))
      (hN : X.N.Nodup) (hi : X.N[i]? = some n) (hln : X.env.kindOf n = some .local)
      (hsu : ∀ (a : Addr) (oe : Obj) (c : Nat) (fs : List (Nat × D)) (dd : Option Addr) (fv : List (Str × V)) (pn : List (Addr × Obj)), Zc (.ref (N.ca c)) dd oe → (∃ vs, oe.data = .fields vs) → XF N fs dd fv → PSs (X.suite a ((a, oe) :: pn)) (b₀ :: suite) (TDS (N.heat i a dd fv) (s c fs) W0)) (r : HdOk X N hds hs) :
      HdOk X N (.ExceptHandler (some (.Name x np)) (some n) (b₀ :: suite) pos' :: hds) ((k, some i, s) :: hs)
section
variable {X : Cx} {N : Nm} {mt : Nat → Nat → Option Bool}
theorem hd_go (cold : N.Cold) (hm : ∀ c k b, mt c k = some b → PySem.W.exmOne X.K (.ref (N.ca c)) (.ref (N.ca k)) = some b) {hds : List ExceptHandler} {hs : List HdE} (hh : HdOk X N hds hs) :
    ∃ l, HdsG X hds l ∧ ∀ (W : WX) (Dn : Ends) (w : Wd) (c : Nat) (fs : List (Nat × D)) (ρ1 : Env) (h1 : Hs) (w' : Wd) (σ' : St) (H' : Hp) (cls : Value) (dd : Option Addr), PostS N W w Dn (hGo mt c fs hs ρ1 h1) → w.le w' → RelH N w' h1 H' → RelE N w' ρ1 σ' → XRep N w' c fs cls dd H' → wG X.K W Dn l cls dd σ' H' := by
  induction hh with
  | nil => exact ⟨[], .nil, fun W Dn w c fs ρ1 h1 w' σ' H' cls dd p l r1 r2 x => p w' σ' H' cls dd l r1 r2 x⟩
  | @only x k b₀ suite np pos' s hds hs hc hsu r ih =>
    obtain ⟨l, g1, g2⟩ := ih
    refine ⟨(.ref (N.ca k), none, fun a cls d Dn σ H => ∃ c fs, cls = .ref (N.ca c) ∧ TDS N (s c fs) W0 Dn σ H) :: l, .only hc (fun a oe cls d pn hz hv => ⟨fun pins s0 σ H D I t => ?_⟩) g1, fun W Dn w c fs ρ1 h1 w' σ' H' cls dd p le r1 r2 xr => ?_⟩
    · obtain ⟨c, fs, e, t⟩ := t
      subst e
      exact (hsu a oe c fs d pn hz hv).run pins s0 σ H D I t
    · unfold hGo at p
      cases e : mt c k with
      | none => rw [e] at p; exact p.elim
      | some bb =>
        rw [e] at p
        have ex := hm c k bb e
        rw [← xr.1] at ex
        refine ⟨bb, ex, fun hb a ha => ?_, fun hb => ?_⟩
        · subst hb
          refine ⟨c, fs, xr.1, w', ρ1, h1, r1, r2, ?_⟩
          have p : PostS N W w Dn (hEnd none (s c fs ρ1 h1)) := p
          cases e2 : s c fs ρ1 h1 with
          | nx ρ2 h2 => rw [e2] at p; exact fun w2 σ2 H2 l2 q1 q2 => p w2 σ2 H2 (le.trans l2) q1 q2
          | bk ρ2 h2 => rw [e2] at p; exact fun w2 σ2 H2 l2 q1 q2 => p w2 σ2 H2 (le.trans l2) q1 q2
          | ct ρ2 h2 => rw [e2] at p; exact fun w2 σ2 H2 l2 q1 q2 => p w2 σ2 H2 (le.trans l2) q1 q2
          | rt d h2 => rw [e2] at p; exact fun w2 H2 v l2 q1 q2 => p w2 H2 v (le.trans l2) q1 q2
          | xc c2 fs2 ρ2 h2 => rw [e2] at p; exact p.elim
          | no => rw [e2] at p; exact p.elim
        · subst hb
          exact g2 W Dn w c fs ρ1 h1 w' σ' H' cls dd p le r1 r2 xr
  | @as_ x n i k b₀ suite np pos' s hds hs hc hN hi hln hsu r ih =>
    obtain ⟨l, g1, g2⟩ := ih
    refine ⟨(.ref (N.ca k), some i, fun a cls d Dn σ H => ∃ c fs fv, cls = .ref (N.ca c) ∧ XF N fs d fv ∧ TDS (N.heat i a d fv) (s c fs) W0 Dn σ H) :: l, .as_ hc hN hi hln (fun a oe cls d pn hz hv => ⟨fun pins s0 σ H D I t => ?_⟩) g1, fun W Dn w c fs ρ1 h1 w' σ' H' cls dd p le r1 r2 xr => ?_⟩
    · obtain ⟨c, fs, fv, e, xf, t⟩ := t
      subst e
      exact (hsu a oe c fs d fv pn hz hv xf).run pins s0 σ H D I t
    · unfold hGo at p
      cases e : mt c k with
      | none => rw [e] at p; exact p.elim
      | some bb =>
        rw [e] at p
        have ex := hm c k bb e
        rw [← xr.1] at ex
        refine ⟨bb, ex, fun hb a ha => ?_, fun hb => ?_⟩
        · subst hb
          have p : PostS N W w Dn (if i < ρ1.length then hEnd (some i) (s c fs (ρ1.set i none) h1) else .no) := p
          by_cases hl : i < ρ1.length
          · rw [if_pos hl] at p
            obtain ⟨fv, xf, hfv⟩ := xr.xf
            refine ⟨c, fs, fv, xr.1, xf, w', ρ1.set i none, h1, relH_heat hfv r1, relE_heat r2 hl, ?_⟩
            cases e2 : s c fs (ρ1.set i none) h1 with
            | nx ρ2 h2 => rw [e2] at p; exact fun w2 σ2 H2 l2 q1 q2 => p w2 _ H2 (le.trans l2) (relH_cool cold q1) (relE_cool cold.1 q2)
            | bk ρ2 h2 => rw [e2] at p; exact fun w2 σ2 H2 l2 q1 q2 => p w2 _ H2 (le.trans l2) (relH_cool cold q1) (relE_cool cold.1 q2)
            | ct ρ2 h2 => rw [e2] at p; exact fun w2 σ2 H2 l2 q1 q2 => p w2 _ H2 (le.trans l2) (relH_cool cold q1) (relE_cool cold.1 q2)
            | rt d h2 => rw [e2] at p; exact fun w2 H2 v l2 q1 q2 => p w2 H2 v (le.trans l2) (relH_cool cold q1) ((rep_heat d v).mp q2)
            | xc c2 fs2 ρ2 h2 => rw [e2] at p; exact p.elim
            | no => rw [e2] at p; exact p.elim
          · rw [if_neg hl] at p
            exact p.elim
        · subst hb
          exact g2 W Dn w c fs ρ1 h1 w' σ' H' cls dd p le r1 r2 xr
theorem snd_try {W : WX} {body : List Stmt} {h₀ : ExceptHandler} {hds : List ExceptHandler} {hs : List HdE} {b : B} {pos : Pos} (cold : N.Cold) (hm : ∀ c k b, mt c k = some b → PySem.W.exmOne X.K (.ref (N.ca c)) (.ref (N.ca k)) = some b)
    (hst : X.stack = X.env :: X.outer) (hf : X.env.frame = some X.env.locals) (tk : Takes X W)
    (hb : ∀ (W : WX) (pn : List (Addr × Obj)) (xe : Value → Shared → Prop), Takes (X.tr pn xe) W → PassesOwn (model X.prog X.w) X.A X.env xe → PSs (X.tr pn xe) body (TDS N b W))
    (hh : HdOk X N (h₀ :: hds) hs) : PS X (.Try body (h₀ :: hds) [] [] pos) (TDS N (sTry mt b hs) W) := by
  obtain ⟨l, g1, g2⟩ := hd_go cold hm hh
  refine ⟨fun pins s σ H Dn I t => (ps_try_gen hst hf tk hb g1).run pins s σ H Dn I ?_⟩
  obtain ⟨w, ρ, h, r1, r2, p⟩ := t
  refine ⟨w, ρ, h, r1, r2, ?_⟩
  unfold sTry at p
  cases e : b ρ h with
  | xc c fs ρ1 h1 =>
    rw [e] at p
    exact fun w' σ' H' cls dd le q1 q2 xr => g2 W Dn w c fs ρ1 h1 w' σ' H' cls dd p le q1 q2 xr
  | nx ρ2 h2 => rw [e] at p; exact p
  | bk ρ2 h2 => rw [e] at p; exact p
  | ct ρ2 h2 => rw [e] at p; exact p
  | rt d h2 => rw [e] at p; exact p
  | no => rw [e] at p; exact p
end
end DN

set_option Elab.async false
set_option linter.all false
set_option maxRecDepth 100000
/-! DS: what is compiled is kept by the machine. -/
namespace DN
open PySem PySem.Spec
open L2 hiding It
open PyProof.Rows hiding St
open GxR (TabB)

theorem strEq_iff {a b : Str} : strEq a b = true ↔ a = b := ⟨of_decide_eq_true, decide_eq_true⟩
theorem ixOf_at {x : Str} : ∀ {l : List Str} {i : Nat}, ixOf x l = some i → l[i]? = some x
  | [], _, h => by cases h
  | y :: r, i, h => by
    unfold ixOf at h
    split at h
    · rename_i e
      cases h
      rw [strEq_iff.mp e] <;> rfl
    · cases q : ixOf x r with
      | none =>
        rw [q] at h
        cases h
      | some j =>
        rw [q] at h
        cases h
        show r[j]? = some x
        exact ixOf_at q
/-- where the code stands -/
structure XOk (N : Nm) (c : Cc) (X : Cx) : Prop where
  sl : X.N = c.N
  nd : c.N.Nodup
  sc : X.env.scope = c.sc
  K : X.K = N.K
  glo : ∀ x d, c.glob.lookup x = some d → ∃ v u, X.mg x = some u ∧ RelV v u ∧ ∀ w, Rep N w d v
  fns : ¬ c.hot = true → ∀ x f ar, c.fns.lookup x = some (f, ar) → ∃ fd ps, X.mg x = some (.ref (N.fa f)) ∧ PySem.W.keepIn X.K (.ref (N.fa f)) = true ∧ Binds X.K fd ps [] ∧ FnOk X.prog X.w X.K X.mg X.base (L2.CX X.prog X.w) (2 * c.k + 3) (N.fa f) fd ps (spC N c.C ar f)
  blt : ∀ x, x ∈ c.blt → X.mg x = none
  calm : ¬ c.hot = true → X.calm = true
  room : ¬ c.hot = true → Room (2 * c.k + 3) X.A
  slk : ¬ c.hot = true → ¬ c.sub = true → Room (2 * c.k + 4) X.A
  tab : c.gen = true → ∃ cd P, P ∈ N.tb ∧ TabB X.base X.mg cd P ∧ X.env.code = .ref cd
  att : ∀ k x, c.at_[k]? = some x → N.attr k = x
  exc : ∀ y ci fs, c.xe = some (y, ci, fs) → ∃ (X0 : Cx) (a : Addr) (oe : Obj) (pn : List (Addr × Obj)) (dd : Option Addr) (fv : List (Str × V)) (i : Nat), X = X0.suite a ((a, oe) :: pn) ∧ Zc (.ref (N.ca ci)) dd oe ∧ (∃ vs, oe.data = .fields vs) ∧ N.xs = some (i, a) ∧ X.N[i]? = some y ∧ X.env.scope.names.lookup y = some .local ∧
    (fs = [] → dd = none) ∧ (fs ≠ [] → ∃ ad, dd = some ad ∧ N.kp ad = some fv ∧ ∃ w, Repf N w fs fv)
  xkt : c.xis = true → ∀ i k b, c.mt i k = some b → ExcC X.K (N.ca i) ∧ PySem.W.kitOne X.K (.ref (N.ca i)) (.ref (N.ca k)) = some b ∧ PySem.W.kitOne X.K (.ref (N.ca i)) (.type "ValueError") = some true
  xin : ∀ i ks, c.xin.lookup i = some ks → ks ≠ [] ∧ ks.length ≤ 1000 ∧ XfC X.K (N.ca i) ∧ (∀ k ∈ ks, PySem.W.findIn X.K (.ref (N.ca i)) (N.attr k) = some none) ∧ OexC X.K (N.ca i) ∧ ∃ fI fd ps, PySem.W.findIn X.K (.ref (N.ca i)) "__init__" = some (some (.ref fI)) ∧ PySem.W.typeIn X.K (.ref fI) = some (.type "function") ∧ Binds X.K fd ps [] ∧ ∀ k, FnOk X.prog X.w X.K X.mg X.base (L2.CX X.prog X.w) (k + 1) fI fd ps (spX (N.ca i) (ks.map N.attr))
  atn : c.at_.Nodup
  okf : ∀ ci k, c.okf ci k = true → Cls X.K (N.ca ci) ∧ NoAttr X.K (N.ca ci) (N.attr k)
  mth : ∀ m l, c.mth.lookup m = some l → (∀ i, i < c.na → N.attr i ≠ m) ∧ (¬ c.hot = true → ∀ ci f ar, l.lookup ci = some (f, ar) → Cls X.K (N.ca ci) ∧ Meth X.K (N.ca ci) m (N.fa f) ∧ ∃ fd ps, FnOk X.prog X.w X.K X.mg X.base (L2.CX X.prog X.w) (2 * c.k + 3) (N.fa f) fd ps (spC N c.C ar f) ∧ Binds X.K fd ps [])
  mak : ¬ c.hot = true → ∀ x ci f ar, c.cls.lookup x = some (ci, f, ar) → X.mg x = some (.ref (N.ca ci)) ∧ Mk X.K (N.ca ci) (N.fa f) ∧ ∃ fd ps, FnOk X.prog X.w X.K X.mg X.base (L2.CX X.prog X.w) (2 * c.k + 3) (N.fa f) fd ps (spC N c.C ar f) ∧ Binds X.K fd ps []
  xe0 : ¬ c.hot = true → c.xe = none
  un : X.A.units + 64 < cLine
  cold : ¬ c.hot = true → N.Cold
  mt : ∀ i k b, c.mt i k = some b → PySem.W.exmOne X.K (.ref (N.ca i)) (.ref (N.ca k)) = some b
  xcl : ∀ x i, c.xcl.lookup x = some i → X.mg x = some (.ref (N.ca i))
  xnw : ∀ i, i ∈ c.xnw → PySem.W.excIn X.K (N.ca i) He.veBase "ValueError.__new__" = true ∧ PySem.W.keepIn X.K (.ref (N.ca i)) = true ∧ Raises X (.ref (N.ca i))
  ss : ∀ x, (c.ss.names.lookup x = some .local → X.env.scope.names.lookup x = some .local) ∧ (c.ss.names.lookup x = some .cell → X.env.scope.names.lookup x = some .cell ∧ X.fn x = true)
section
variable {N : Nm} {c : Cc} {X : Cx} {W : WX}
theorem XOk.hu (o : XOk N c X) : X.A.units + 64 < cLine := o.un
theorem XOk.hu1 (o : XOk N c X) : X.A.units + 1 < cLine := by have := o.hu; omega
theorem XOk.slot (o : XOk N c X) {x : Str} {i : Nat} (h : c.slot x = some i) : X.N[i]? = some x ∧ Vis X.env.scope x := by
  unfold Cc.slot at h
  rw [o.sl, o.sc]
  split at h
  · rename_i e; exact ⟨ixOf_at h, .inl e⟩
  · rename_i e; exact ⟨ixOf_at h, .inr (.inl e)⟩
  · rename_i e; exact ⟨ixOf_at h, .inr (.inr e)⟩
  · cases h
theorem XOk.slotS (o : XOk N c X) {x : Str} {i : Nat} (h : c.slotS x = some i) : X.N[i]? = some x ∧ Loc X.env.scope x ∧ (X.fn x = true ∨ X.env.scope.names.lookup x = some .local) := by
  unfold Cc.slotS at h
  rw [o.sl]
  split at h
  · rename_i e; exact ⟨ixOf_at h, .inl ((o.ss x).1 e), .inr ((o.ss x).1 e)⟩
  · rename_i e; exact ⟨ixOf_at h, .inr ((o.ss x).2 e).1, .inl ((o.ss x).2 e).2⟩
  · cases h
theorem XOk.nodup (o : XOk N c X) : X.N.Nodup := by rw [o.sl]; exact o.nd
theorem XOk.isGlob (o : XOk N c X) {x : Str} (h : c.isGlob x = true) : Gl X x := by
  unfold Cc.isGlob at h
  split at h
  · rename_i e
    show X.env.scope.names.lookup x = some .globalImplicit
    rw [o.sc]
    exact e
  · cases h
theorem okName_of {x : Str} (h : okName x = true) : (x == ("__debug__" : Str)) = false ∧ (x == ("__classdict__" : Str)) = false ∧ x ≠ "__name__" := by
  unfold okName at h
  rw [Bool.and_eq_true, Bool.and_eq_true, Bool.not_eq_true', Bool.not_eq_true', Bool.not_eq_true'] at h
  obtain ⟨⟨h1, h2⟩, h3⟩ := h
  have g : ∀ {a b : Str}, strEq a b = false → a ≠ b := fun {a b} q e => by
    rw [strEq_iff.mpr e] at q
    cases q
  exact ⟨beq_eq_false_iff_ne.mpr (g h1), beq_eq_false_iff_ne.mpr (g h2), g h3⟩
theorem XOk.free (o : XOk N c X) {x : Str} (h : c.free x = true) : Gl X x ∧ X.mg x = none ∧ okName x = true := by
  unfold Cc.free at h
  rw [Bool.and_eq_true, Bool.and_eq_true] at h
  obtain ⟨⟨h1, h2⟩, h3⟩ := h
  refine ⟨o.isGlob h1, ?_, h2⟩
  obtain ⟨y, hy, e⟩ := List.any_eq_true.mp h3
  rw [strEq_iff.mp e]
  exact o.blt y hy
end
/-! ### the syntax's side -/
theorem star_of {e : Expr} {es : List Expr} {env : PySem.Env} (h : plainE e = true) : starEach (e :: es) env = (false, eval e env) :: starEach es env := by
  cases e <;> first | rfl | cases h
theorem assign_of {e : Expr} {es : List Expr} {env : PySem.Env} (h : plainE e = true) : assignEach (e :: es) env = (false, assign e env) :: assignEach es env := by
  cases e <;> first | rfl | cases h
theorem marks_of {op : CmpOp} {e : Expr} (h : plainE e = true) : behindInMarks op e = false := by
  cases e <;> first | rfl | cases h
theorem folded_of {e : Expr} {env : PySem.Env} (h : plainE e = true) : ∀ x, foldedSetIterable e env x = pure x := by
  intro x
  cases e <;> first | rfl | cases h
theorem plainIx_of {e : Expr} (h : plainE e = true) : PlainIx e := by
  intro o i
  cases e <;> first | rfl | cases h
theorem true_of {e : Expr} {env : PySem.Env} (h : plainT e = true) : ∀ whole, isTrue e env whole = (do let v ← whole; standAt e.pos; holding [v] (truthy v)) := by
  intro whole
  cases e with
  | UnaryOp op a pos => cases op <;> first | rfl | cases h
  | _ => first | rfl | cases h
theorem stars_plain {pos : Pos} {env : PySem.Env} : ∀ {es : List Expr}, (∀ e ∈ es, plainE e = true) → (backTo pos (starEach es env)).any (·.1) = false ∧ (backTo pos (starEach es env)).all (fun x => !x.1) = true
  | [], _ => ⟨rfl, rfl⟩
  | e :: es, h => by
    obtain ⟨a, b⟩ := stars_plain (pos := pos) (env := env) (es := es) fun x hx => h x (List.mem_cons_of_mem _ hx)
    rw [star_of (h e List.mem_cons_self)]
    show ((false : Bool) || (backTo pos (starEach es env)).any (·.1)) = false ∧ ((!false) && (backTo pos (starEach es env)).all (fun x => !x.1)) = true
    rw [a, b]
    exact ⟨rfl, rfl⟩
theorem base_of {o : Expr} {m : Str} {env : PySem.Env} {whole : Sem Value} (h : recvOk o = true) : attributeBase o m env whole = whole := by
  cases o with
  | Call f args kws pos =>
    cases args with
    | nil =>
      cases kws with
      | nil => cases h
      | cons _ _ => cases f <;> rfl
    | cons _ _ => cases f <;> rfl
  | _ => rfl
section
variable {N : Nm} {c : Cc} {X : Cx} {W : WX} {r : Expr → Option (M D)} {rt : Expr → Option (M Bool)}
/-- what a compiler of expressions keeps, here -/
def KE (N : Nm) (X : Cx) (W : WX) (r : Expr → Option (M D)) : Prop := ∀ e m, r e = some m → plainE e = true ∧ PE X e (TD N m W)
def KT (N : Nm) (X : Cx) (W : WX) (r : Expr → Option (M Bool)) : Prop := ∀ e m, r e = some m → PT X e (TDt N m W)
theorem compL_ok (h : KE N X W r) : ∀ {es : List Expr} {ms : M (List D)}, compL r es = some ms → (∀ e ∈ es, plainE e = true) ∧ PA X es (TDs N ms W)
  | [], _, e => by
    cases e
    exact ⟨fun _ z => (by cases z), snd_nil⟩
  | x :: es, ms, e => by
    unfold compL at e
    split at e
    · rename_i a b ea eb
      cases e
      obtain ⟨p1, p2⟩ := h x a ea
      obtain ⟨p3, p4⟩ := compL_ok h eb
      refine ⟨fun y hy => ?_, snd_cons p2 p4 (star_of p1)⟩
      rcases List.mem_cons.mp hy with rfl | hy
      · exact p1
      · exact p3 y hy
    · cases e
theorem compAnd_ok (h : KE N X W r) {pos : Pos} : ∀ {es : List Expr} {m : M D}, compAnd r es = some m → PE X (.BoolOp .And es pos) (TD N m W)
  | [], _, e => by cases e
  | [x], _, e => pe_one (h x _ e).2
  | x :: y :: es, m, e => by
    have e : (match r x, compAnd r (y :: es) with
      | some a, some b => some (mAnd a b)
      | _, _ => none) = some m := e
    split at e
    · rename_i a b ea eb
      cases e
      exact snd_and (h x a ea).2 (compAnd_ok h eb)
    · cases e
theorem compOr_ok (h : KE N X W r) {pos : Pos} : ∀ {es : List Expr} {m : M D}, compOr r es = some m → PE X (.BoolOp .Or es pos) (TD N m W)
  | [], _, e => by cases e
  | [x], _, e => pe_one (h x _ e).2
  | x :: y :: es, m, e => by
    have e : (match r x, compOr r (y :: es) with
      | some a, some b => some (mOr a b)
      | _, _ => none) = some m := e
    split at e
    · rename_i a b ea eb
      cases e
      exact snd_or (h x a ea).2 (compOr_ok h eb)
    · cases e
theorem compTAnd_ok (h : KT N X W rt) {pos : Pos} : ∀ {es : List Expr} {m : M Bool}, compTAnd rt es = some m → PW X (.BoolOp .And es pos) (TDt N m W)
  | [], _, e => by cases e
  | [x], _, e => pw_and1 (h x _ e)
  | x :: y :: es, m, e => by
    have e : (match rt x, compTAnd rt (y :: es) with
      | some a, some b => some (DN.tAnd a b)
      | _, _ => none) = some m := e
    split at e
    · rename_i a b ea eb
      cases e
      exact snd_tand (h x a ea) (compTAnd_ok h eb)
    · cases e
theorem compTOr_ok (h : KT N X W rt) {pos : Pos} : ∀ {es : List Expr} {m : M Bool}, compTOr rt es = some m → PW X (.BoolOp .Or es pos) (TDt N m W)
  | [], _, e => by cases e
  | [x], _, e => pw_or1 (h x _ e)
  | x :: y :: es, m, e => by
    have e : (match rt x, compTOr rt (y :: es) with
      | some a, some b => some (DN.tOr a b)
      | _, _ => none) = some m := e
    split at e
    · rename_i a b ea eb
      cases e
      exact snd_tor (h x a ea) (compTOr_ok h eb)
    · cases e
theorem cName_ok (o : XOk N c X) {x : Str} {pos : Pos} {m : M D} (e : cName c x = some m) : PE X (.Name x pos) (TD N m W) := by
  unfold cName at e
  split at e
  · rename_i hok
    obtain ⟨d1, d2, d3⟩ := okName_of hok
    split at e
    · rename_i i hi
      cases e
      obtain ⟨h1, h2⟩ := o.slot hi
      exact snd_var (pe_var h1 h2 d1 d2)
    · split at e
      · rename_i hg
        split at e
        · rename_i d hd
          cases e
          obtain ⟨v, u, h1, h2, h3⟩ := o.glo x d hd
          exact snd_lit h3 (pe_glob (o.isGlob hg) h1 h2 d1)
        · cases e
      · cases e
  · cases e
theorem cConst_ok {v : Const} {k : Nat} {pos : Pos} {d : D} (e : constD v = some d) : PE X (.Constant v k pos) (TD N (mLit d) W) := by
  cases v with
  | none => cases e; exact snd_lit (fun _ => rfl) pe_non
  | bool b => cases e; exact snd_lit (fun _ => rfl) pe_bl
  | int i => cases e; exact snd_lit (fun _ => rfl) pe_int
  | str s =>
    cases e
    refine snd_lit (v := .str s) (fun _ => ?_) pe_str
    show V.str s = V.str (toS s.cps.toList)
    rw [toS_of]
  | _ => cases e
theorem binOf_ok {hp : Bool} {op : Operator} {f : D → D → Hs → R D} (hK : X.K = N.K) (e : binOf hp op = some f) : ∃ rr, OpR X (binaryOp op) rr ∧ OpS N rr f := by
  cases op with
  | Add => cases e; exact ⟨_, op_addA, by rw [hK]; exact ops_add hp⟩
  | Sub => cases e; exact ⟨_, op_sub, ops_sub⟩
  | Mult => cases e; exact ⟨_, op_mulA, by rw [hK]; exact ops_mul hp⟩
  | FloorDiv => cases e; exact ⟨_, op_fdivN, ops_fdiv⟩
  | Mod => cases e; exact ⟨_, op_modN, ops_mod⟩
  | Pow => cases e; exact ⟨_, op_pow, ops_pow⟩
  | _ => cases e
theorem copC_ok (o : XOk N c X) (op : CmpOp) : ∃ rr, OpR X (compareOp op) rr ∧ OpS N rr (opCmp (copC op)) := by
  obtain ⟨rr, h1, h2⟩ := cop_ok (N := N) o.K o.hu op
  exact ⟨rr, h1, by cases op <;> exact h2⟩
theorem tyOf_ok {x : Str} {t : Ty} (e : tyOf x = some t) : bootBuiltins x = some (.type t.name) := by
  unfold tyOf at e
  repeat (split at e; (rename_i hx; cases e; rw [strEq_iff.mp hx]; decide +kernel))
  cases e
theorem bFun1_ok (o : XOk N c X) {hp : Bool} {x : Str} {p pos : Pos} {a : Expr} {f : List D → Hs → R D} {m : M D} (hx : c.free x = true) (e : bFun1 hp x = some f) (pa : plainE a = true) (ha : PE X a (TD N m W)) : PE X (.Call (.Name x p) [a] [] pos) (TD N (mApp f (mCons m mNil)) W) := by
  obtain ⟨g1, g2, g3⟩ := o.free hx
  obtain ⟨d1, d2, d3⟩ := okName_of g3
  have hA : PA X [a] (TDs N (mCons m mNil) W) := snd_cons ha snd_nil (star_of pa)
  unfold bFun1 at e
  split at e
  · rename_i hx
    cases e
    have hx := strEq_iff.mp hx
    refine snd_cb (id := "len") cb_len (by rw [o.K]; exact cbs_len) g1 g2 (by rw [hx]; decide +kernel) hA d3 d1 (star_of pa) rfl
  split at e
  · rename_i hx
    cases e
    have hx := strEq_iff.mp hx
    exact snd_cb (id := "abs") call_abs cbs_abs g1 g2 (by rw [hx]; decide +kernel) hA d3 d1 (star_of pa) rfl
  split at e
  · rename_i hx
    cases e
    have hx := strEq_iff.mp hx
    exact snd_ct (T := "int") cb_int cbs_intS g1 g2 (by rw [hx]; decide +kernel) hA d3 d1 (star_of pa) rfl
  split at e
  · rename_i hx
    cases e
    have hx := strEq_iff.mp hx
    exact snd_cb (id := "ord") call_ord cbs_ord g1 g2 (by rw [hx]; decide +kernel) hA d3 d1 (star_of pa) rfl
  split at e
  · rename_i hx
    cases e
    have hx := strEq_iff.mp hx
    exact snd_ct (T := "list") call_list_of (by rw [o.K]; exact cbs_list hp) g1 g2 (by rw [hx]; decide +kernel) hA d3 d1 (star_of pa) rfl
  split at e
  · rename_i hx
    cases e
    have hx := strEq_iff.mp hx
    exact snd_ct (T := "tuple") cb_tuple (by rw [o.K]; exact cbs_tuple) g1 g2 (by rw [hx]; decide +kernel) hA d3 d1 (star_of pa) rfl
  split at e
  · rename_i hx
    cases e
    have hx := strEq_iff.mp hx
    exact snd_ct (T := "str") cb_str cbs_str g1 g2 (by rw [hx]; decide +kernel) hA d3 d1 (star_of pa) rfl
  · cases e
theorem bFun1c_ok (o : XOk N c X) {hp : Bool} {x : Str} {p pos : Pos} {a : Expr} {f : List D → Hs → R D} {m : M D} (hx : c.free x = true) (hh : ¬ c.hot = true) (e : bFun1c hp x = some f) (pa : plainE a = true) (ha : PE X a (TD N m W)) : PE X (.Call (.Name x p) [a] [] pos) (TD N (mApp f (mCons m mNil)) W) := by
  obtain ⟨g1, g2, g3⟩ := o.free hx
  obtain ⟨d1, d2, d3⟩ := okName_of g3
  have hA : PA X [a] (TDs N (mCons m mNil) W) := snd_cons ha snd_nil (star_of pa)
  unfold bFun1c at e
  split at e
  · rename_i hx
    cases e
    have hx := strEq_iff.mp hx
    exact snd_cb (id := "min") (cr_min (o.calm hh)) (by rw [o.K]; exact cbs_min1) g1 g2 (by rw [hx]; decide +kernel) hA d3 d1 (star_of pa) rfl
  split at e
  · rename_i hx
    cases e
    have hx := strEq_iff.mp hx
    exact snd_cb (id := "max") (cr_max (o.calm hh)) (by rw [o.K]; exact cbs_max1) g1 g2 (by rw [hx]; decide +kernel) hA d3 d1 (star_of pa) rfl
  split at e
  · rename_i hx
    cases e
    have hx := strEq_iff.mp hx
    exact snd_cb (id := "sum") (cr_sum (o.calm hh)) (by rw [o.K]; exact cbs_sum) g1 g2 (by rw [hx]; decide +kernel) hA d3 d1 (star_of pa) rfl
  split at e
  · rename_i hx
    cases e
    have hx := strEq_iff.mp hx
    exact snd_cb (id := "sorted") cr_sortedA (by rw [o.K]; exact cbs_sorted hp) g1 g2 (by rw [hx]; decide +kernel) hA d3 d1 (star_of pa) rfl
  · cases e
theorem bFun2_ok (o : XOk N c X) {x : Str} {p pos : Pos} {a b : Expr} {f : List D → Hs → R D} {m m' : M D} (hx : c.free x = true) (hh : ¬ c.hot = true) (e : bFun2 x = some f) (pa : plainE a = true) (ha : PE X a (TD N m W)) (pb : plainE b = true) (hb : PE X b (TD N m' W)) :
    PE X (.Call (.Name x p) [a, b] [] pos) (TD N (mApp f (mCons m (mCons m' mNil))) W) := by
  obtain ⟨g1, g2, g3⟩ := o.free hx
  obtain ⟨d1, d2, d3⟩ := okName_of g3
  have hA : PA X [a, b] (TDs N (mCons m (mCons m' mNil)) W) := snd_cons ha (snd_cons hb snd_nil (star_of pb)) (star_of pa)
  have hpl : (backTo pos (starEach [b] X.env)).any (·.1) = false := (stars_plain fun e he => by
    have he : e = b := by simpa using he
    rw [he]
    exact pb).1
  unfold bFun2 at e
  split at e
  · rename_i hx
    cases e
    have hx := strEq_iff.mp hx
    exact snd_cb (id := "min") (call_min2 (o.calm hh)) cbs_min2 g1 g2 (by rw [hx]; decide +kernel) hA d3 d1 (star_of pa) hpl
  split at e
  · rename_i hx
    cases e
    have hx := strEq_iff.mp hx
    exact snd_cb (id := "max") (call_max2 (o.calm hh)) cbs_max2 g1 g2 (by rw [hx]; decide +kernel) hA d3 d1 (star_of pa) hpl
  · cases e
/-- isinstance of the caught exception -/
theorem isE_core (o : XOk N c X) {y : Str} {ci i : Nat} {X0 : Cx} {a0 : Addr} {oe : Obj} {pn : List (Addr × Obj)} {x : Str} {p pos pz : Pos} {e2 : Expr} {v : V} {cv : Value} {b : Bool} (eX : X = X0.suite a0 ((a0, oe) :: pn)) (hz : Zc (.ref (N.ca ci)) none oe) (hf : ∃ vs, oe.data = .fields vs) (hxs : N.xs = some (i, a0)) (hi : X.N[i]? = some y) (hl : X.env.scope.names.lookup y = some .local)
    (hC : ExcC X.K (N.ca ci)) (hk : PySem.W.kitOne X.K (.ref (N.ca ci)) cv = some b) (hcv : ∀ u, RelV v u → u = cv) (hb : PE X e2 (tC v)) (pb : plainE e2 = true) (hg : Gl X x) (hm : X.mg x = none) (hv : bootBuiltins x = some (.builtin "isinstance")) (hn : x ≠ "__name__") (hdb : (x == ("__debug__" : Str)) = false) (hy : okName y = true) :
    PE X (.Call (.Name x p) [.Name y pz, e2] [] pos) (TD N (mLit (.bl b)) W) := by
  obtain ⟨d1, d2, d3⟩ := okName_of hy
  have hcall : CallR X (.builtin "isinstance") (rIsE X.K (N.ca ci) a0) := by
    subst eX
    exact call_isE hC hz hf
  have hvis : Vis X.env.scope y := .inl hl
  refine pe_imp (pe_callB hcall hg hm hv (pa_cons (pe_var hi hvis d1 d2) (pa_cons hb pa_nil (by rw [star_of pb] <;> rfl)) (by rw [star_of (e := .Name y pz) rfl])) hn hdb (star_of (e := .Name y pz) rfl) (by rw [star_of pb]; rfl)) fun σ H Q t => ?_
  obtain ⟨w, ρ, h, r1, r2, q⟩ := t
  refine ⟨.ref a0, r2.x i a0 hxs, ?_⟩
  show rIsE X.K (N.ca ci) a0 [.ref a0, v] H Q
  exact ⟨v, cv, b, rfl, hcv, hk, post_val q r1 rfl⟩
theorem pe_no {e : Expr} : PE X e (TD N mNo W) := ⟨fun pins s σ H Q I ⟨w, ρ, h, _, _, p⟩ => p.elim⟩
theorem cIsE_ok (o : XOk N c X) {x : Str} {p pos : Pos} {a b : Expr} {m : M D} (hg : Gl X x) (hm : X.mg x = none) (hv : bootBuiltins x = some (.builtin "isinstance")) (hn : x ≠ "__name__") (hdb : (x == ("__debug__" : Str)) = false) (e : cIsE c a b = some m) : PE X (.Call (.Name x p) [a, b] [] pos) (TD N m W) := by
  unfold cIsE at e
  split at e
  · rename_i y ci fs z pz t pt he
    split at e
    · rename_i hc
      rw [Bool.and_eq_true, Bool.and_eq_true, Bool.and_eq_true] at hc
      obtain ⟨⟨⟨h1, h2⟩, h3⟩, h4⟩ := hc
      have h1 := strEq_iff.mp h1
      subst h1
      split at e
      · rename_i hgt
        split at e
        · rename_i k hk
          cases e
          unfold mXis
          split
          · split
            · rename_i v hmt
              obtain ⟨X0, a0, oe, pn, dd, fv, i, eX, hz, hf, hxs, hi, hl, hd, _⟩ := o.exc _ _ _ he
              have hd := hd rfl
              subst hd
              obtain ⟨hC, hkit, _⟩ := o.xkt h4 ci k v hmt
              obtain ⟨d4, d5, d6⟩ := okName_of h3
              exact isE_core o eX hz hf hxs hi hl hC hkit (v := .ref (N.ca k)) (fun u r => r) (pe_glob (o.isGlob hgt) (o.xcl _ k hk) rfl d4) rfl hg hm hv hn hdb h2
            · exact pe_no
          · exact pe_no
        · cases e
      · cases e
    · cases e
  · cases e
theorem cIsV_ok (o : XOk N c X) {x t : Str} {p pos pt : Pos} {a : Expr} {m : M D} (ht : t = "ValueError") (hft : c.free t = true) (hg : Gl X x) (hm : X.mg x = none) (hv : bootBuiltins x = some (.builtin "isinstance")) (hn : x ≠ "__name__") (hdb : (x == ("__debug__" : Str)) = false) (e : cIsV c a = some m) : PE X (.Call (.Name x p) [a, .Name t pt] [] pos) (TD N m W) := by
  unfold cIsV at e
  split at e
  · rename_i y ci fs z pz he
    split at e
    · rename_i hc
      rw [Bool.and_eq_true, Bool.and_eq_true] at hc
      obtain ⟨⟨h1, h2⟩, h4⟩ := hc
      have h1 := strEq_iff.mp h1
      subst h1
      cases e
      unfold mXiv
      split
      · split
        · rename_i v hmt
          obtain ⟨X0, a0, oe, pn, dd, fv, i, eX, hz, hf, hxs, hi, hl, hd, _⟩ := o.exc _ _ _ he
          have hd := hd rfl
          subst hd
          obtain ⟨hC, _, hkit⟩ := o.xkt h4 ci ci v hmt
          obtain ⟨g1, g2, g3⟩ := o.free hft
          obtain ⟨d4, d5, d6⟩ := okName_of g3
          have hb : PE X (.Name t pt) (tC (.ty "ValueError")) := pe_bltn g1 g2 (by rw [ht]; decide +kernel) rfl d6 d4
          exact isE_core o eX hz hf hxs hi hl hC hkit (v := .ty "ValueError") (fun u r => r) hb rfl hg hm hv hn hdb h2
        · exact pe_no
      · exact pe_no
    · cases e
  · cases e
theorem lookup_repf {w : Wd} {k : Nat} {d : D} : ∀ {fs : List (Nat × D)} {fv : List (Str × V)}, Repf N w fs fv → (∀ q ∈ fs, N.attr q.1 = N.attr k → q.1 = k) → fs.lookup k = some d → ∃ v, fv.lookup (N.attr k) = some v ∧ Rep N w d v
  | [], _, _, _, e => by cases e
  | (j, x) :: fs, _, r, hj, e => by
    obtain ⟨v, r', rfl, h1, h2⟩ := r
    by_cases hk : k = j
    · subst hk
      have e : some x = some d := by simpa [List.lookup] using e
      cases e
      exact ⟨v, by simp [List.lookup], h1⟩
    · have e1 : (k == j) = false := by simpa using hk
      have e : fs.lookup k = some d := by simpa [List.lookup, e1] using e
      obtain ⟨v', h3, h4⟩ := lookup_repf h2 (fun q hq => hj q (List.mem_cons_of_mem _ hq)) e
      have e2 : (N.attr k == N.attr j) = false := by
        have : N.attr k ≠ N.attr j := fun z => hk (hj (j, x) List.mem_cons_self z.symm).symm
        simpa using this
      exact ⟨v', by simp [List.lookup, e2, h3], h4⟩
theorem flat_w {w w' : Wd} {d : D} {v : V} (f : flatOk d = true) (r : Rep N w d v) : Rep N w' d v := by
  cases d with
  | non => exact r
  | bl _ => exact r
  | int _ => exact r
  | str _ => exact r
  | _ => cases f
theorem fld_core (o : XOk N c X) {y m : Str} {ci i : Nat} {X0 : Cx} {a0 ad : Addr} {oe : Obj} {pn : List (Addr × Obj)} {p pz : Pos} {d : D} {fv : List (Str × V)} {v : V} (eX : X = X0.suite a0 ((a0, oe) :: pn)) (hz : Zc (.ref (N.ca ci)) (some ad) oe) (hf : ∃ vs, oe.data = .fields vs) (hxs : N.xs = some (i, a0)) (hi : X.N[i]? = some y) (hl : X.env.scope.names.lookup y = some .local)
    (hT : XfC X.K (N.ca ci)) (hno : PySem.W.findIn X.K (.ref (N.ca ci)) m = some none) (hkp : N.kp ad = some fv) (hlk : fv.lookup m = some v) (hv : ∀ w, Rep N w d v) (hy : okName y = true) : PE X (.Attribute (.Name y pz) m p) (TD N (mLit d) W) := by
  obtain ⟨d1, d2, d3⟩ := okName_of hy
  have hvis : Vis X.env.scope y := .inl hl
  have pv := pe_var (pos := pz) hi hvis d1 d2
  subst eX
  refine pe_imp (pe_xf hT hno hz hf pv) fun σ H Q t => ?_
  obtain ⟨w, ρ, h, r1, r2, q⟩ := t
  exact ⟨.ref a0, r2.x i a0 hxs, rfl, rfl, ad, fv, v, rfl, r1.kep ad fv hkp, hlk, post_val q r1 (hv w)⟩
theorem cFldE_ok (o : XOk N c X) {a : Expr} {mn : Str} {p : Pos} {m : M D} (e : cFldE c a mn = some m) : PE X (.Attribute a mn p) (TD N m W) := by
  unfold cFldE at e
  split at e
  · rename_i y ci fs z pz he
    split at e
    · rename_i hc
      rw [Bool.and_eq_true] at hc
      obtain ⟨h1, h2⟩ := hc
      have h1 := strEq_iff.mp h1
      subst h1
      split at e
      · rename_i k hk
        cases e
        unfold mXf
        split
        · rename_i ks hks
          split
          · rename_i hg
            rw [Bool.and_eq_true] at hg
            obtain ⟨hin, hal⟩ := hg
            split
            · rename_i d hd
              split
              · rename_i hfl
                obtain ⟨k', hk', ek⟩ := List.any_eq_true.mp hin
                have ek := Nat.eq_of_beq_eq_true ek
                subst ek
                have am : N.attr k = mn := o.att k mn (ixOf_at hk)
                obtain ⟨x1, x2, x3, x4, x5⟩ := o.xin ci ks hks
                obtain ⟨X0, a0, oe, pn, dd, fv, i, eX, hz, hf, hxs, hi, hl, _, hdd⟩ := o.exc _ _ _ he
                have hne : fs ≠ [] := fun z => by rw [z] at hd; cases hd
                obtain ⟨ad, ed, hkp, w, rf⟩ := hdd hne
                subst ed
                obtain ⟨v, hv1, hv2⟩ := lookup_repf (k := k) rf (fun q hq hqe => by
                  have z := List.all_eq_true.mp hal q hq
                  split at z
                  · rename_i x hx
                    have ax := o.att q.1 x hx
                    rw [Bool.or_eq_true] at z
                    rcases z with z | z
                    · exact Nat.eq_of_beq_eq_true z
                    · rw [← ax, hqe, am, strEq_iff.mpr rfl] at z
                      cases z
                  · cases z) hd
                have hno := x4 k hk'
                rw [am] at hno hv1
                exact fld_core o eX hz hf hxs hi hl x3 hno hkp hv1 (fun w' => flat_w hfl hv2) h2
              · exact pe_no
            · exact pe_no
          · exact pe_no
        · exact pe_no
      · cases e
    · cases e
  · cases e
theorem orElse_of {α : Type} {a b : Option α} {x : α} (e : orElse a b = some x) : a = some x ∨ b = some x := by
  unfold orElse at e
  split at e
  · exact .inl e
  · exact .inr e
theorem cIsX_ok (o : XOk N c X) (h : KE N X W r) {x : Str} {p pos : Pos} {a b : Expr} {m : M D} (hg : Gl X x) (hm : X.mg x = none) (hv : bootBuiltins x = some (.builtin "isinstance")) (hn : x ≠ "__name__") (hdb : (x == ("__debug__" : Str)) = false) (e : cIsX r c a b = some m) : PE X (.Call (.Name x p) [a, b] [] pos) (TD N m W) := by
  unfold cIsX at e
  split at e
  · rename_i t pt
    split at e
    · rename_i hc
      rw [Bool.and_eq_true, Bool.and_eq_true] at hc
      obtain ⟨⟨h1, h2⟩, h3⟩ := hc
      obtain ⟨d4, d5, d6⟩ := okName_of h1
      split at e
      · rename_i k m1 hk hm1
        cases e
        exact snd_xvI (fun i k b z => ⟨(o.xkt h2 i k b z).1, (o.xkt h2 i k b z).2.1⟩) (h a m1 hm1).2 (star_of (h a m1 hm1).1) (o.isGlob h3) (o.xcl _ k hk) d4 hg hm hv hn hdb
      · cases e
    · cases e
  · cases e
theorem cIsXV_ok (o : XOk N c X) (h : KE N X W r) {x t : Str} {p pos pt : Pos} {a : Expr} {m : M D} (ht : t = "ValueError") (hft : c.free t = true) (hg : Gl X x) (hm : X.mg x = none) (hv : bootBuiltins x = some (.builtin "isinstance")) (hn : x ≠ "__name__") (hdb : (x == ("__debug__" : Str)) = false) (e : cIsXV r c a = some m) : PE X (.Call (.Name x p) [a, .Name t pt] [] pos) (TD N m W) := by
  unfold cIsXV at e
  split at e
  · rename_i h2
    split at e
    · rename_i m1 hm1
      cases e
      obtain ⟨g1, g2, g3⟩ := o.free hft
      obtain ⟨d4, d5, d6⟩ := okName_of g3
      have hb : PE X (.Name t pt) (tC (.ty "ValueError")) := pe_bltn g1 g2 (by rw [ht]; decide +kernel) rfl d6 d4
      exact snd_xvV (fun i k b z => ⟨(o.xkt h2 i k b z).1, (o.xkt h2 i k b z).2.2⟩) (h a m1 hm1).2 (star_of (h a m1 hm1).1) hb hg hm hv hn hdb
    · cases e
  · cases e
theorem cXv_ok (o : XOk N c X) (tk : Takes X W) (h : KE N X W r) {x : Str} {args : List Expr} {p pos : Pos} {m : M D} (e : cXv r c x args = some m) : PE X (.Call (.Name x p) args [] pos) (TD N m W) := by
  unfold cXv at e
  split at e
  · rename_i hg
    rw [Bool.and_eq_true, Bool.and_eq_true, Bool.and_eq_true, Bool.not_eq_true', Bool.not_eq_true'] at hg
    obtain ⟨⟨⟨g1, g2⟩, g3⟩, g4⟩ := hg
    have hh : ¬ c.hot = true := by rw [g3]; decide
    obtain ⟨d1, d2, d3⟩ := okName_of g2
    split at e
    · rename_i i hi
      split at e
      · split at e
        · rename_i hx
          cases e
          obtain ⟨j, hj, ej⟩ := List.any_eq_true.mp hx
          have ej := Nat.eq_of_beq_eq_true ej
          subst ej
          obtain ⟨x1, x2, x3⟩ := o.xnw i hj
          exact snd_xv0 x1 (o.xcl _ i hi) x2 (o.isGlob g1) d1
        · cases e
      · rename_i a as
        split at e
        · rename_i ks ms hks hms
          split at e
          · cases e
            obtain ⟨x1, x2, x3, x4, x5, fI, fd, ps, x6, x7, x8, x9⟩ := o.xin i ks hks
            obtain ⟨p1, p2⟩ := compL_ok h hms
            exact snd_xvN x5 x6 x7 (x9 0) ((o.room hh).mono (by omega)) x8 (o.xcl _ i hi) (o.isGlob g1) x1 p2 d1 (star_of (p1 a List.mem_cons_self)) (stars_plain fun e he => p1 e (List.mem_cons_of_mem _ he)).1 x2
          · cases e
        · cases e
    · cases e
  · cases e
theorem cCall_ok (o : XOk N c X) (tk : Takes X W) (h : KE N X W r) {x : Str} {args : List Expr} {p pos : Pos} {m : M D} (e : cCall r c x args pos = some m) : PE X (.Call (.Name x p) args [] pos) (TD N m W) := by
  unfold cCall at e
  split at e
  · rename_i hg
    rw [Bool.and_eq_true] at hg
    obtain ⟨d1, d2, d3⟩ := okName_of hg.2
    split at e
    · rename_i f ar hf
      split at e
      · cases e
      rename_i hh
      obtain ⟨fd, ps, h1, h2, h3, h4⟩ := o.fns hh x f ar hf
      split at e
      · rename_i ms hms
        cases e
        obtain ⟨p1, p2⟩ := compL_ok h hms
        cases args with
        | nil =>
          cases hms
          exact snd_call0 h4 (o.room hh) (o.isGlob hg.1) h1 h2 h3 tk d1
        | cons a as => exact snd_call h4 (o.room hh) (o.isGlob hg.1) h1 h2 h3 tk p2 d1 (star_of (p1 a List.mem_cons_self)) (stars_plain fun e he => p1 e (List.mem_cons_of_mem _ he)).1
      · cases e
    · split at e
      · rename_i hx
        split at e
        · rename_i a
          split at e
          · rename_i f m1 hf hm
            cases e
            exact bFun1_ok o hx hf (h a m1 hm).1 (h a m1 hm).2
          · rename_i m1 hf hm
            split at e
            · cases e
            rename_i hh
            split at e
            · rename_i f hf2
              cases e
              exact bFun1c_ok o hx hh hf2 (h a m1 hm).1 (h a m1 hm).2
            · cases e
          · cases e
        · rename_i a b
          split at e
          · rename_i hi
            have hi := strEq_iff.mp hi
            obtain ⟨g4, g5, g6⟩ := o.free hx
            have hv4 : bootBuiltins x = some (.builtin "isinstance") := by rw [hi]; decide +kernel
            split at e
            · rename_i t pt
              split at e
              · rename_i hft
                split at e
                · rename_i hve
                  rcases orElse_of e with e | e
                  · exact cIsV_ok o (strEq_iff.mp hve) hft g4 g5 hv4 d3 d1 e
                  · exact cIsXV_ok o h (strEq_iff.mp hve) hft g4 g5 hv4 d3 d1 e
                · split at e
                  · rename_i t1 m1 ht hm
                    cases e
                    obtain ⟨g1, g2, g3⟩ := o.free hft
                    obtain ⟨d4, d5, d6⟩ := okName_of g3
                    have hb : PE X (.Name t pt) (tC (.ty t1.name)) := pe_bltn g1 g2 (tyOf_ok ht) rfl d6 d4
                    exact snd_isi t1 o.K g4 g5 hv4 (h a m1 hm).2 hb d3 d1 (star_of (h a m1 hm).1) rfl rfl
                  · cases e
              · rcases orElse_of e with e | e
                · exact cIsE_ok o g4 g5 hv4 d3 d1 e
                · exact cIsX_ok o h g4 g5 hv4 d3 d1 e
            · cases e
          · split at e
            · cases e
            rename_i hh
            split at e
            · rename_i f m1 m2 hf hm1 hm2
              cases e
              exact bFun2_ok o hx hh hf (h a m1 hm1).1 (h a m1 hm1).2 (h b m2 hm2).1 (h b m2 hm2).2
            · cases e
        · cases e
      · cases e
  · cases e
theorem mFun_ok {m : Str} {f : D → List D → Hs → R D} (e : mFun m = some f) : ∃ id rr, Slot "list" m id ∧ typeOf (.builtin id) = pure (.type "method_descriptor") ∧ MtR X id rr ∧ MtS N "list" rr f := by
  unfold mFun at e
  split at e
  · rename_i hx
    cases e
    rw [strEq_iff.mp hx]
    exact ⟨_, _, PySem.F.slot_list_append, PySem.F.type_list_append, mt_append, mts_append⟩
  split at e
  · rename_i hx
    cases e
    rw [strEq_iff.mp hx]
    exact ⟨_, _, PySem.F.slot_list_extend, PySem.F.type_list_extend, mt_extend, mts_extend⟩
  split at e
  · rename_i hx
    cases e
    rw [strEq_iff.mp hx]
    exact ⟨_, _, PySem.F.slot_list_pop, PySem.F.type_list_pop, mt_popA, mts_pop⟩
  · cases e
theorem mFunS_ok {hp : Bool} {m : Str} {f : D → List D → Hs → R D} (hK : X.K = N.K) (e : mFunS hp m = some f) : ∃ id rr, Slot "str" m id ∧ typeOf (.builtin id) = pure (.type "method_descriptor") ∧ MtR X id rr ∧ MtS N "str" rr f := by
  unfold mFunS at e
  split at e
  · rename_i hx
    cases e
    rw [strEq_iff.mp hx]
    exact ⟨_, _, PySem.F.slot_str_join, PySem.F.type_str_join, mt_join, by rw [hK]; exact mts_join⟩
  split at e
  · rename_i hx
    cases e
    rw [strEq_iff.mp hx]
    exact ⟨_, _, PySem.F.slot_str_split, PySem.F.type_str_split, mt_split, mts_split hp⟩
  split at e
  · rename_i hx
    cases e
    rw [strEq_iff.mp hx]
    exact ⟨_, _, PySem.F.slot_str_startswith, PySem.F.type_str_startswith, mt_startswith, mts_starts⟩
  split at e
  · rename_i hx
    cases e
    rw [strEq_iff.mp hx]
    exact ⟨_, _, PySem.F.slot_str_find, PySem.F.type_str_find, mt_find, mts_find⟩
  · cases e
theorem mFunS2_ok {hp : Bool} {m : Str} {f : D → List D → Hs → R D} (e : mFunS2 hp m = some f) : ∃ id rr, Slot "str" m id ∧ typeOf (.builtin id) = pure (.type "method_descriptor") ∧ MtR X id rr ∧ MtS N "str" rr f := by
  unfold mFunS2 at e
  split at e
  · rename_i hx
    cases e
    rw [strEq_iff.mp hx]
    exact ⟨_, _, PySem.F.slot_str_split, PySem.F.type_str_split, mt_splitMax, mts_split2 hp⟩
  · cases e
theorem cRep1_ok (h : KE N X W r) {e : Expr} {m : M D} (q : cRep1 r e = some m) : L2.PET X e (TD N m W) := by
  unfold cRep1 at q
  split at q
  · rename_i o mn ap y _ _ z _ _ pos
    split at q
    · rename_i hc
      simp only [Bool.and_eq_true, Bool.not_eq_true'] at hc
      obtain ⟨⟨⟨hm, hr⟩, hl⟩, hn⟩ := hc
      rw [strEq_iff.mp hm]
      split at q
      · rename_i mo hmo
        cases q
        refine pet_imp (CwR.pet_replC (h o mo hmo).2 ?_ rfl (base_of hr) hl) td_repl
        exact Bool.eq_false_iff.mpr fun w => by
          rw [strEq_iff.mpr (eq_of_beq w)] at hn
          cases hn
      · cases q
    · cases q
  · cases q
theorem cRep2_ok (h : KE N X W r) {e : Expr} {m : M D} (q : cRep2 r e = some m) : L2.PET X e (TD N m W) := by
  unfold cRep2 at q
  split at q
  · rename_i o mn ap y _ _ z _ _ pos
    split at q
    · rename_i hc
      simp only [Bool.and_eq_true, Bool.not_eq_true'] at hc
      obtain ⟨⟨⟨hm, hr⟩, hl⟩, hn⟩ := hc
      rw [strEq_iff.mp hm]
      split at q
      · rename_i mo hmo
        cases q
        refine pet_imp (CwR.pet_replT (cRep1_ok h hmo) ?_ rfl (base_of hr) hl) td_repl
        exact Bool.eq_false_iff.mpr fun w => by
          rw [strEq_iff.mpr (eq_of_beq w)] at hn
          cases hn
      · cases q
    · cases q
  · cases q
theorem cRepl_ok (o : XOk N c X) (h : KE N X W r) {a b : Expr} {op : Operator} {pos : Pos} {m : M D} (q : cRepl r c a op b pos = some m) : PE X (.BinOp a op b pos) (TD N m W) := by
  unfold cRepl at q
  split at q
  · split at q
    · rename_i mb hb
      cases q
      refine pe_litop op_addA (by rw [o.K]; exact ops_add (c.heap pos)) ?_
      unfold orElse at hb
      split at hb
      · rename_i x hx
        cases hb
        exact cRep2_ok h hx
      · exact cRep1_ok h hb
    · cases q
  · cases q
theorem cMeth_ok (o : XOk N c X) (h : KE N X W r) {ob : Expr} {mn : Str} {args : List Expr} {ap pos : Pos} {m : M D} (e : cMeth r c ob mn ap args pos = some m) : PE X (.Call (.Attribute ob mn ap) args [] pos) (TD N m W) := by
  unfold cMeth at e
  split at e
  · rename_i hr
    rw [Bool.and_eq_true] at hr
    split at e
    · split at e
      · rename_i hm
        have hm := strEq_iff.mp hm
        subst hm
        split at e
        · rename_i mo hmo
          cases e
          exact pe_imp (pe_bm0 PySem.F.plainAttrs_list PySem.F.slot_list_pop PySem.F.type_list_pop mt_popA (h ob mo hmo).2 (base_of hr.1) hr.2) (td_bm0 mts_pop o.K)
        · cases e
      · cases e
    · rename_i a
      split at e
      · rename_i hm
        have hm := strEq_iff.mp hm
        subst hm
        split at e
        · rename_i mo ma hmo hma
          cases e
          obtain ⟨pa, ha⟩ := h a ma hma
          refine snd_get1 o.hu1 (h ob mo hmo).2 ha ⟨base_of hr.1, ?_, hr.2, ?_⟩
          · rw [star_of pa]
            rfl
          · rw [star_of pa]
            rfl
        · cases e
      split at e
      · rename_i f mo ma hf hmo hma
        cases e
        obtain ⟨id, rr, s1, s2, s3, s4⟩ := mFun_ok (X := X) (N := N) hf
        obtain ⟨pa, ha⟩ := h a ma hma
        refine pe_imp (pe_bm PySem.F.plainAttrs_list s1 s2 s3 (h ob mo hmo).2 (snd_cons ha snd_nil (star_of pa)) (base_of hr.1) ?_ hr.2 (star_of pa) rfl) (td_bm s4 o.K)
        rw [star_of pa]
        rfl
      · rename_i mo ma hf hmo hma
        split at e
        · rename_i f hf2
          cases e
          obtain ⟨id, rr, s1, s2, s3, s4⟩ := mFunS_ok (X := X) (N := N) o.K hf2
          obtain ⟨pa, ha⟩ := h a ma hma
          refine pe_imp (pe_bm PySem.F.plainAttrs_str s1 s2 s3 (h ob mo hmo).2 (snd_cons ha snd_nil (star_of pa)) (base_of hr.1) ?_ hr.2 (star_of pa) rfl) (td_bm s4 o.K)
          rw [star_of pa]
          rfl
        · cases e
      · cases e
    · rename_i a b
      split at e
      · rename_i hm
        have hm := strEq_iff.mp hm
        subst hm
        split at e
        · rename_i mo ma mb hmo hma hmb
          cases e
          obtain ⟨pa, ha⟩ := h a ma hma
          obtain ⟨pb, hb⟩ := h b mb hmb
          refine snd_get2 o.hu1 (h ob mo hmo).2 ha hb ⟨base_of hr.1, ?_, hr.2, ?_⟩
          · rw [star_of pa, star_of pb]
            rfl
          · rw [star_of pa, star_of pb]
            rfl
        · cases e
      split at e
      · rename_i hm
        have hm := strEq_iff.mp hm
        subst hm
        split at e
        · rename_i mo ma mb hmo hma hmb
          cases e
          obtain ⟨pa, ha⟩ := h a ma hma
          obtain ⟨pb, hb⟩ := h b mb hmb
          refine snd_setd (h ob mo hmo).2 ha hb ⟨base_of hr.1, ?_, hr.2, ?_⟩
          · rw [star_of pa, star_of pb]
            rfl
          · rw [star_of pa, star_of pb]
            rfl
        · cases e
      split at e
      · rename_i f mo ma mb hf hmo hma hmb
        cases e
        obtain ⟨id, rr, s1, s2, s3, s4⟩ := mFunS2_ok (X := X) (N := N) hf
        obtain ⟨pa, ha⟩ := h a ma hma
        obtain ⟨pb, hb⟩ := h b mb hmb
        refine pe_imp (pe_bm PySem.F.plainAttrs_str s1 s2 s3 (h ob mo hmo).2 (snd_cons ha (snd_cons hb snd_nil (star_of pb)) (star_of pa)) (base_of hr.1) ?_ hr.2 (star_of pa) ?_) (td_bm s4 o.K)
        · rw [star_of pa, star_of pb]
          rfl
        exact (stars_plain fun e he => by
          have he : e = b := by simpa using he
          rw [he]
          exact pb).1
      · cases e
    · cases e
  · cases e
theorem XOk.inj (o : XOk N c X) : ∀ i j, i < c.na → j < c.na → N.attr i = N.attr j → i = j := fun i j hi hj e => by
  obtain ⟨x, ex⟩ : ∃ x, c.at_[i]? = some x := ⟨_, List.getElem?_eq_getElem hi⟩
  obtain ⟨y, ey⟩ : ∃ y, c.at_[j]? = some y := ⟨_, List.getElem?_eq_getElem hj⟩
  have e1 := o.att i x ex
  have e2 := o.att j y ey
  refine (List.getElem?_inj hi o.atn).mp ?_
  rw [ex, ey, ← e1, ← e2, e]
theorem stars_few {pos : Pos} {env : PySem.Env} {es : List Expr} (h : ∀ e ∈ es, plainE e = true) (hl : es.length < 30) : methodCallForm es.length (backTo pos (starEach es env)) (backToKw pos (keywordEach [] env)) = true := by
  unfold methodCallForm
  rw [(stars_plain (pos := pos) (env := env) h).2]
  show (true && true && decide (es.length + 0 < 30)) = true
  simpa using hl
theorem cMeth2_ok (o : XOk N c X) (tk : Takes X W) (h : KE N X W r) {ob : Expr} {mn : Str} {args : List Expr} {ap pos : Pos} {m : M D} (e : cMeth2 r c ob mn ap args pos = some m) : PE X (.Call (.Attribute ob mn ap) args [] pos) (TD N m W) := by
  unfold cMeth2 at e
  split at e
  · rename_i hg
    rw [Bool.and_eq_true, Bool.and_eq_true, Bool.and_eq_true, Bool.not_eq_true'] at hg
    obtain ⟨⟨⟨g1, g2⟩, g3⟩, g4⟩ := hg
    have hh : ¬ c.hot = true := by rw [g3]; decide
    split at e
    · rename_i l mo ms hl hmo hms
      cases e
      obtain ⟨p1, p2⟩ := compL_ok h hms
      obtain ⟨a1, a2⟩ := o.mth mn l hl
      have hm : ∀ ci f ar, l.lookup ci = some (f, ar) → MthAt X (N.ca ci) mn (N.fa f) (spC N c.C ar f) := fun ci f ar z => by
        obtain ⟨b1, b2, fd, ps, b3, b4⟩ := a2 hh ci f ar z
        exact ⟨b1, b2, _, fd, ps, b3, o.room hh, b4⟩
      cases args with
      | nil =>
        cases hms
        exact snd_mth0 a1 hm tk (h ob mo hmo).2 (base_of g1) g2
      | cons a as => exact snd_mth a1 hm tk (h ob mo hmo).2 p2 (base_of g1) (stars_few p1 (of_decide_eq_true g4)) g2 (star_of (p1 a List.mem_cons_self)) (stars_plain fun e he => p1 e (List.mem_cons_of_mem _ he)).1
    · cases e
  · cases e
theorem cFld2_ok (o : XOk N c X) (h : KE N X W r) {a : Expr} {mn : Str} {p : Pos} {m : M D} (e : cFld2 r c a mn = some m) : PE X (.Attribute a mn p) (TD N m W) := by
  unfold cFld2 at e
  split at e
  · rename_i hg
    split at e
    · rename_i k ma hk hma
      cases e
      have hf := o.att k mn (ixOf_at hk)
      exact snd_fld o.K o.inj hf (fun ci z => by rw [← hf]; exact o.okf ci k z) (h a ma hma).2 (base_of hg)
    · cases e
  · cases e
theorem cFldX_ok (o : XOk N c X) (h : KE N X W r) {a : Expr} {mn : Str} {p : Pos} {m : M D} (e : cFldX r c a mn = some m) : PE X (.Attribute a mn p) (TD N m W) := by
  unfold cFldX at e
  split at e
  · rename_i hg
    split at e
    · rename_i k ma hk hma
      cases e
      have hf := o.att k mn (ixOf_at hk)
      refine snd_xvF o.inj hf (fun ci z => ?_) (h a ma hma).2 (base_of hg)
      unfold xfOk at z
      split at z
      · rename_i ks hks
        obtain ⟨k', hk', ek⟩ := List.any_eq_true.mp z
        have ek := Nat.eq_of_beq_eq_true ek
        subst ek
        obtain ⟨x1, x2, x3, x4, x5⟩ := o.xin ci ks hks
        rw [← hf]
        exact ⟨x3, x4 k hk'⟩
      · cases z
    · cases e
  · cases e
theorem cMake_ok (o : XOk N c X) (tk : Takes X W) (h : KE N X W r) {x : Str} {args : List Expr} {p pos : Pos} {m : M D} (e : cMake r c x args = some m) : PE X (.Call (.Name x p) args [] pos) (TD N m W) := by
  unfold cMake at e
  split at e
  · rename_i hg
    rw [Bool.and_eq_true, Bool.and_eq_true, Bool.and_eq_true, Bool.not_eq_true', Bool.not_eq_true'] at hg
    obtain ⟨⟨⟨g1, g2⟩, g3⟩, g4⟩ := hg
    have hh : ¬ c.hot = true := by rw [g3]; decide
    have hs : ¬ c.sub = true := by rw [g4]; decide
    obtain ⟨d1, d2, d3⟩ := okName_of g2
    split at e
    · rename_i ci f ar a as ms hl hms
      cases e
      obtain ⟨p1, p2⟩ := compL_ok h hms
      obtain ⟨a1, a2, fd, ps, a3, a4⟩ := o.mak hh x ci f ar hl
      exact snd_mak ⟨a2, _, fd, ps, a3, o.slk hh hs, a4⟩ tk (o.isGlob g1) a1 p2 d1 (star_of (p1 a List.mem_cons_self)) (stars_plain fun e he => p1 e (List.mem_cons_of_mem _ he)).1
    · cases e
  · cases e
theorem cKey_ok {k : Option Expr} {d : D} (e : cKey k = some d) : ∃ q ke, k = some ke ∧ KeyRep d q ∧ PE X ke (tC (kV q)) := by
  unfold cKey at e
  split at e
  · rename_i v kk p
    split at e
    · rename_i d' hd
      split at e
      · cases e
        cases v with
        | int i => cases hd; exact ⟨.inl i, _, rfl, rfl, pe_int⟩
        | str s =>
          cases hd
          refine ⟨.inr s, _, rfl, ?_, pe_str⟩
          show (Sum.inr s : Key) = Sum.inr (toS s.cps.toList)
          rw [toS_of]
        | none => cases hd; rename_i z; cases z
        | bool b => cases hd; rename_i z; cases z
        | _ => cases hd
      · cases e
    · cases e
  · cases e
theorem cDict_ok (h : KE N X W r) {pos : Pos} : ∀ {keys : List (Option Expr)} {values : List Expr} {kd : List D} {ms : List (M D)}, cKeys keys = some kd → compML r values = some ms → kd.length = ms.length → ∃ ks, Paired KeyRep kd ks ∧ ks.length = ms.length ∧ keys.length = kd.length ∧ values.length = ms.length ∧ keys.all (·.isSome) = true ∧ PPs X pos keys values (((ks.map kV).zip ms).map fun p => (tC p.1, TD N p.2 W))
  | [], [], _, _, e1, e2, _ => by
    cases e1
    cases e2
    exact ⟨[], .nil, rfl, rfl, rfl, rfl, pps_nil⟩
  | [], v :: vs, _, _, e1, e2, l => by
    cases e1
    unfold compML at e2
    split at e2
    · cases e2; cases l
    · cases e2
  | k :: ks, [], _, _, e1, e2, l => by
    cases e2
    unfold cKeys at e1
    split at e1
    · cases e1; cases l
    · cases e1
  | k :: keys, v :: values, _, _, e1, e2, l => by
    unfold cKeys at e1
    unfold compML at e2
    split at e1
    · rename_i a b ha hb
      cases e1
      split at e2
      · rename_i m ms hm hms
        cases e2
        obtain ⟨q, ke, rfl, kr, pk⟩ := cKey_ok (X := X) ha
        obtain ⟨ks, z1, z2, z3, z4, z5, z6⟩ := cDict_ok h (pos := pos) hb hms (by simpa using l)
        exact ⟨q :: ks, .cons kr z1, by simp [z2], by simp [z3], by simp [z4], by simp [z5], pps_cons pk (h v m hm).2 z6⟩
      · cases e2
    · cases e1
theorem cIter_ok (o : XOk N c X) (h : KE N X W r) {tg e : Expr} {it : DN.It} (q : cIter r c e = some it) : PI X tg e (TDI N it W) := by
  unfold cIter at q
  split at q
  · rename_i x p args pos
    split at q
    · rename_i hr
      rw [Bool.and_eq_true] at hr
      have hx := strEq_iff.mp hr.2
      subst hx
      obtain ⟨g1, g2, g3⟩ := o.free hr.1
      split at q
      · rename_i a
        split at q
        · rename_i m hm
          cases q
          exact snd_irng1 g1 g2 (h a m hm).2 (star_of (h a m hm).1)
        · cases q
      · rename_i a b
        split at q
        · rename_i m m' hm hm'
          cases q
          refine snd_irng2 g1 g2 (h a m hm).2 (h b m' hm').2 ?_ (star_of (h b m' hm').1)
          rw [star_of (h a m hm).1, star_of (h b m' hm').1]
          rfl
        · cases q
      · cases q
    · split at q
      · rename_i m hm
        cases q
        exact snd_ival o.K (h _ m hm).2
      · cases q
  · split at q
    · rename_i m hm
      cases q
      exact snd_ival o.K (h _ m hm).2
    · cases q
end

/-! ### expressions -/
def SndE (N : Nm) (k : Nat) : Prop := ∀ (c : Cc) (X : Cx) (W : WX), XOk N c X → Takes X W → KE N X W (comp k c).1 ∧ KT N X W (comp k c).2
theorem relab_eq (scope : Scope) (env : PySem.Env) : relabel scope env = relab env.scope scope := rfl
theorem relab_lookup {env : PySem.Env} {k : NameKind} (hk : k ≠ .free) : ∀ {names : List (Str × NameKind)} {x : Str}, names.lookup x = some k →
    (names.map fun p => if (p.2 == NameKind.free && env.scope.kind == .function && env.scope.names.lookup p.1 == some .cell) then (p.1, NameKind.cell) else p).lookup x = some k
  | [], _, h => by cases h
  | (n, k') :: r, x, h => by
    have ih := @relab_lookup env k hk r x
    rw [List.map_cons]
    by_cases e : (x == n) = true
    · have h2 : some k' = some k := by
        rw [List.lookup_cons, e] at h
        exact h
      have h2 := Option.some.inj h2
      have hf : (k' == NameKind.free && env.scope.kind == .function && env.scope.names.lookup n == some .cell) = false := by
        have : (k' == NameKind.free) = false := by
          rw [h2]
          cases k <;> first | rfl | exact absurd rfl hk
        rw [this]
        rfl
      show List.lookup x ((if (k' == NameKind.free && env.scope.kind == .function && env.scope.names.lookup n == some .cell) = true then (n, NameKind.cell) else (n, k')) :: _) = some k
      rw [hf, if_neg (by simp), List.lookup_cons, e]
      exact congrArg some h2
    · have e' : (x == n) = false := by simpa using e
      have h2 : r.lookup x = some k := by
        rw [List.lookup_cons, e'] at h
        exact h
      show List.lookup x ((if (k' == NameKind.free && env.scope.kind == .function && env.scope.names.lookup n == some .cell) = true then (n, NameKind.cell) else (n, k')) :: _) = some k
      split
      · rw [List.lookup_cons, e']
        exact ih h2
      · rw [List.lookup_cons, e']
        exact ih h2
theorem XOk.blk {N : Nm} {c : Cc} {X : Cx} {s : Shared} {H : Hp} {scope : Scope} {cl : List (Str × Addr)} {C : Addr} {fp : List Addr} (o : XOk N c X) (hh : ¬ c.hot = true) : XOk N (c.blk scope) (X.blk s H scope (compEnvC scope cl C X.env) fp) :=
  { sl := o.sl, nd := o.nd, sc := (by show relabel scope X.env = relab c.sc scope; rw [relab_eq, o.sc]), K := o.K, glo := o.glo, fns := o.fns, blt := o.blt, calm := o.calm, room := o.room, slk := o.slk, tab := fun z => (by cases z), att := o.att,
    exc := fun y ci fs z => (by
      have z : c.xe = some (y, ci, fs) := z
      rw [o.xe0 hh] at z
      cases z), xkt := o.xkt, xin := o.xin, atn := o.atn, okf := o.okf, mth := o.mth, mak := o.mak, xe0 := o.xe0, un := o.un, cold := o.cold, mt := o.mt, xcl := o.xcl, xnw := o.xnw, ss := fun x => ⟨fun h => by
    show (relabel scope X.env).names.lookup x = some .local
    exact relab_lookup (by decide) h, fun h => ⟨by
    show (relabel scope X.env).names.lookup x = some .cell
    exact relab_lookup (by decide) h, by
    show (scope.names.lookup x == some NameKind.cell) = true
    have h : scope.names.lookup x = some .cell := h
    rw [h]
    rfl⟩⟩ }
theorem noCell {names : List (Str × NameKind)} (h : (names.all fun y => match y.2 with | .cell => false | _ => true) = true) : ∀ y ∈ names, y.2 ≠ NameKind.cell := fun y hy e => by
  have z := List.all_eq_true.mp h y hy
  rw [e] at z
  cases z
theorem XOk.genc {N : Nm} {c : Cc} {X : Cx} {s : Shared} {H : Hp} {scope : Scope} {C : Addr} {code : Value} {fp : List Addr} {pn : List (Addr × Obj)} (o : XOk N c X) (hh : ¬ c.hot = true) (hs : ¬ c.sub = true) (hsc : ∀ y ∈ scope.names, y.2 ≠ NameKind.cell) : XOk N (c.genc scope) (gCx X s H (gEnv X scope C code) fp pn) :=
  have r := o.slk hh hs
  { sl := o.sl, nd := o.nd, sc := rfl, K := o.K, glo := o.glo, fns := o.fns, blt := o.blt, calm := o.calm,
    room := fun _ => ⟨r.hd, by have z := r.dp; show X.A.depth + 1 + 3 * (2 * c.k + 3) + 5 < _; omega, by have z := r.un; show X.A.units + 1 + 1 + 3 + 16 * (2 * c.k + 3) + 200 < _; omega⟩,
    slk := fun _ z => absurd rfl z, tab := fun z => (by cases z), att := o.att,
    exc := fun y ci fs z => (by
      have z : c.xe = some (y, ci, fs) := z
      rw [o.xe0 hh] at z
      cases z), xkt := o.xkt, xin := o.xin, atn := o.atn, okf := o.okf, mth := o.mth, mak := o.mak, xe0 := o.xe0, un := (by have z := r.un; show X.A.units + 1 + 1 + 3 + 64 < _; omega), cold := o.cold, mt := o.mt, xcl := o.xcl,
    xnw := fun i hi => (o.xnw i hi), ss := fun x => ⟨fun h => h, fun h => (by
      have h : scope.names.lookup x = some .cell := h
      exact absurd rfl (hsc _ (PySem.mem_of_lookup h)))⟩ }
section
variable {N : Nm} {c : Cc} {X : Cx} {W : WX}
theorem cOwn_ok (o : XOk N c X) (hh : ¬ c.hot = true) {sc : Scope} {tg : Expr} {own : List (Str × Nat)} {is : List Nat} (e : cOwn c sc tg = some (own, is)) : isOk is = true ∧ (∀ i ∈ is, i ∈ own.map (·.2)) ∧
    ∀ (s : Shared) (H : Hp) (C : Addr) (cl : List (Str × Addr)) (fp : List Addr), PG (X.blk s H sc (compEnvC sc cl C X.env) fp) tg (gC X.K is) := by
  unfold cOwn at e
  split at e
  · rename_i x p
    split at e
    · rename_i i hi
      cases e
      refine ⟨rfl, by simp, fun s H C cl fp => ?_⟩
      obtain ⟨h1, h2, h3⟩ := (XOk.blk (s := s) (H := H) (scope := sc) (cl := cl) (C := C) (fp := fp) o hh).slotS hi
      exact pg_name (XOk.blk o hh).nodup h1 h2 h3
    · cases e
  · rename_i x p y p' k pos
    split at e
    · rename_i i j hi hj
      cases e
      refine ⟨rfl, by simp, fun s H C cl fp => ?_⟩
      have ob := XOk.blk (s := s) (H := H) (scope := sc) (cl := cl) (C := C) (fp := fp) o hh
      obtain ⟨h1, h2, h3⟩ := ob.slotS hi
      obtain ⟨h4, h5, h6⟩ := ob.slotS hj
      exact pg_tup (n := 2) (ob.calm hh) (pgs_cons (pg_name ob.nodup h1 h2 h3) (pgs_cons (pg_name ob.nodup h4 h5 h6) pgs_nil)) rfl rfl
    · cases e
  · cases e
theorem cComp_parts {k : Nat} (hk : SndE N k) (o : XOk N c X) (tk : Takes X W) {elt : Expr} {gens : List Comprehension} {scope : Scope} {pos : Pos} {m : M D} (e : cComp1 (comp k) c elt gens scope pos = some m) :
    ∃ tg iter ifs own is it t me, gens = [⟨tg, iter, ifs, 0⟩] ∧ m = mLc (c.heap pos) (own.map (·.2)) is it t me ∧ PI X tg iter (TDI N it W) ∧ BlkOk X.N X.env.scope scope own ∧ BlkS X N scope tg ifs elt is t me ∧ (∀ i ∈ is, i ∈ own.map (·.2)) ∧ isOk is = true ∧ plainE iter = true ∧ ¬ c.hot = true := by
  unfold cComp1 at e
  split at e
  · cases e
  rename_i hh
  split at e
  · rename_i tg iter ifs
    split at e
    · rename_i own is it me ho hi hm
      split at e
      · rename_i hp
        rw [Bool.and_eq_true] at hp
        obtain ⟨q1, q2, q3⟩ := cOwn_ok o hh ho
        have pi : PI X tg iter (TDI N it W) := cIter_ok o (hk c X W o tk).1 hi
        have bo : BlkOk X.N X.env.scope scope own := by
          rw [o.sl, o.sc]
          exact blkOk_by hp.2
        have he : ∀ (s : Shared) (H : Hp) (C : Addr) (cl : List (Str × Addr)) (fp : List Addr), PE (X.blk s H scope (compEnvC scope cl C X.env) fp) elt (TD N me W0) := fun s H C cl fp => ((hk _ _ W0 (XOk.blk o hh) takes0).1 elt me hm).2
        split at e
        · cases e
          exact ⟨tg, iter, [], own, is, it, tYesM, me, rfl, rfl, pi, bo, ⟨q3, fun s H C cl fp => snd_tests0, he⟩, q2, q1, hp.1, hh⟩
        · rename_i t
          split at e
          · rename_i tm ht
            cases e
            exact ⟨tg, iter, [t], own, is, it, tm, me, rfl, rfl, pi, bo, ⟨q3, fun s H C cl fp => snd_tests1 ((hk _ _ W0 (XOk.blk o hh) takes0).2 t tm ht), he⟩, q2, q1, hp.1, hh⟩
          · cases e
        · cases e
      · cases e
    · cases e
  · cases e
theorem cComp2_parts {k : Nat} (hk : SndE N k) (o : XOk N c X) (tk : Takes X W) {elt : Expr} {gens : List Comprehension} {scope : Scope} {pos : Pos} {m : M D} (e : cComp2 (comp k) c elt gens scope pos = some m) :
    ∃ tg iter own is it me tg1 iter1 own1 is1 it1, gens = [⟨tg, iter, [], 0⟩, ⟨tg1, iter1, [], 0⟩] ∧ m = mLc2 (c.heap pos) ((own ++ own1).map (·.2)) (own1.map (·.2)) is is1 it it1 me ∧ PI X tg iter (TDI N it W) ∧ BlkOk X.N X.env.scope scope (own ++ own1) ∧ Blk2S X N scope tg tg1 iter1 elt is is1 it1 me ∧ (∀ i ∈ is, i ∈ (own ++ own1).map (·.2)) ∧ isOk is = true ∧ (∀ i ∈ is1, i ∈ own1.map (·.2)) ∧ isOk is1 = true ∧ plainE iter = true ∧ plainE iter1 = true ∧ ¬ c.hot = true := by
  unfold cComp2 at e
  split at e
  · cases e
  rename_i hh
  split at e
  · rename_i tg iter tg1 iter1
    split at e
    · rename_i own is own1 is1 it it1 me ho ho1 hi hi1 hm
      split at e
      · rename_i hp
        simp only [Bool.and_eq_true] at hp
        obtain ⟨q1, q2, q3⟩ := cOwn_ok o hh ho
        obtain ⟨u1, u2, u3⟩ := cOwn_ok o hh ho1
        have pi : PI X tg iter (TDI N it W) := cIter_ok o (hk c X W o tk).1 hi
        have bo : BlkOk X.N X.env.scope scope (own ++ own1) := by
          rw [o.sl, o.sc]
          exact blkOk_by hp.2
        have he : ∀ (s : Shared) (H : Hp) (C : Addr) (cl : List (Str × Addr)) (fp : List Addr), PE (X.blk s H scope (compEnvC scope cl C X.env) fp) elt (TD N me W0) := fun s H C cl fp => ((hk _ _ W0 (XOk.blk o hh) takes0).1 elt me hm).2
        have h1 : ∀ (s : Shared) (H : Hp) (C : Addr) (cl : List (Str × Addr)) (fp : List Addr), PI (X.blk s H scope (compEnvC scope cl C X.env) fp) tg1 iter1 (TDI N it1 W0) := fun s H C cl fp => cIter_ok (XOk.blk o hh) (hk _ _ W0 (XOk.blk o hh) takes0).1 hi1
        cases e
        exact ⟨tg, iter, own, is, it, me, tg1, iter1, own1, is1, it1, rfl, rfl, pi, bo, ⟨q3, u3, h1, he⟩, fun i h => by rw [List.map_append]; exact List.mem_append_left _ (q2 i h), q1, u2, u1, hp.1.1, hp.1.2, hh⟩
      · cases e
    · cases e
  · cases e
theorem cComp_ok {k : Nat} (hk : SndE N k) (o : XOk N c X) (tk : Takes X W) {elt : Expr} {gens : List Comprehension} {scope : Scope} {pos : Pos} {m : M D} (e : cComp (comp k) c elt gens scope pos = some m) : PE X (.ListComp elt gens scope pos) (TD N m W) := by
  unfold cComp at e
  split at e
  · obtain ⟨tg, iter, own, is, it, me, tg1, iter1, own1, is1, it1, z, rfl, pi, bo, bs, q2, q1, u2, u1, hp, hp1, hh⟩ := cComp2_parts hk o tk e
    rw [z]
    exact snd_lc2 (o.cold hh) o.K (o.calm hh) o.nodup pi bo bs q2 q1 u2 u1 (fun i h => by rw [List.map_append]; exact List.mem_append_right _ h) (folded_of hp) (fun env => folded_of hp1)
  · obtain ⟨tg, iter, ifs, own, is, it, t, me, rfl, rfl, pi, bo, bs, q2, q1, hp, hh⟩ := cComp_parts hk o tk e
    exact snd_lc (o.cold hh) o.K (o.calm hh) o.nodup pi bo bs q2 q1 (folded_of hp)
theorem cOwnG_ok (o : XOk N c X) (hh : ¬ c.hot = true) (hs : ¬ c.sub = true) {sc : Scope} (hsc : ∀ y ∈ sc.names, y.2 ≠ NameKind.cell) {tg : Expr} {own : List (Str × Nat)} {is : List Nat} (e : cOwnG c sc tg = some (own, is)) : isOk is = true ∧ (∀ i ∈ is, i ∈ own.map (·.2)) ∧
    ∀ (s : Shared) (H : Hp) (C : Addr) (code : Value) (fp : List Addr) (pn : List (Addr × Obj)), PG (gCx X s H (gEnv X sc C code) fp pn) tg (gC X.K is) := by
  unfold cOwnG at e
  split at e
  · rename_i x p
    split at e
    · rename_i i hi
      cases e
      refine ⟨rfl, by simp, fun s H C code fp pn => ?_⟩
      have ob := XOk.genc (s := s) (H := H) (scope := sc) (C := C) (code := code) (fp := fp) (pn := pn) o hh hs hsc
      obtain ⟨h1, h2, h3⟩ := ob.slotS hi
      exact pg_name ob.nodup h1 h2 h3
    · cases e
  · rename_i x p y p' k pos
    split at e
    · rename_i i j hi hj
      cases e
      refine ⟨rfl, by simp, fun s H C code fp pn => ?_⟩
      have ob := XOk.genc (s := s) (H := H) (scope := sc) (C := C) (code := code) (fp := fp) (pn := pn) o hh hs hsc
      obtain ⟨h1, h2, h3⟩ := ob.slotS hi
      obtain ⟨h4, h5, h6⟩ := ob.slotS hj
      exact pg_tup (n := 2) (ob.calm hh) (pgs_cons (pg_name ob.nodup h1 h2 h3) (pgs_cons (pg_name ob.nodup h4 h5 h6) pgs_nil)) rfl rfl
    · cases e
  · cases e
theorem genFolded_of {e : Expr} {env : PySem.Env} (h : plainE e = true) (h2 : notList e = true) : ∀ x, genFold e env x = pure x := by
  intro x
  cases e <;> first | rfl | (cases h2; done) | (cases h; done)
theorem cAll_ok {k : Nat} (hk : SndE N k) (o : XOk N c X) (tk : Takes X W) {x : Str} {elt : Expr} {gens : List Comprehension} {scope : Scope} {p gp pos : Pos} {m : M D} (e : cAll (comp k) c x elt gens scope = some m) : PE X (.Call (.Name x p) [.GeneratorExp elt gens scope gp] [] pos) (TD N m W) := by
  unfold cAll at e
  split at e
  · cases e
  rename_i hg
  simp only [Bool.or_eq_true, Bool.not_eq_true', not_or, Bool.not_eq_false] at hg
  obtain ⟨⟨⟨⟨hh, hs⟩, hgen⟩, hx⟩, hfr⟩ := hg
  have hx := strEq_iff.mp hx
  subst hx
  obtain ⟨g1, g2, g3⟩ := o.free hfr
  obtain ⟨cd, P, hP, TB, hcode⟩ := o.tab hgen
  split at e
  · rename_i tg iter ifs
    split at e
    · rename_i own is it me ho hi hm
      split at e
      · rename_i hp
        rw [Bool.and_eq_true, Bool.and_eq_true, Bool.and_eq_true] at hp
        obtain ⟨⟨⟨hp1, hp2⟩, hp3⟩, hp4⟩ := hp
        unfold genSc at hp3
        rw [Bool.and_eq_true, Bool.and_eq_true, Bool.not_eq_true'] at hp3
        obtain ⟨⟨c1, c2⟩, c3⟩ := hp3
        have hcell := noCell c2
        have hdot : scope.names.lookup (".0" : Str) = some NameKind.local := by
          split at c3
          · assumption
          · cases c3
        obtain ⟨q1, q2, q3⟩ := cOwnG_ok o hh hs hcell ho
        have pi : PI X tg iter (TDI N it W) := cIter_ok o (hk c X W o tk).1 hi
        have bo : BlkOk X.N X.env.scope scope own := by
          rw [o.sl, o.sc]
          exact blkOk_by hp4
        have he : ∀ (s : Shared) (H : Hp) (C : Addr) (code : Value) (fp : List Addr) (pn : List (Addr × Obj)), PE (gCx X s H (gEnv X scope C code) fp pn) elt (TD N me W0) := fun s H C code fp pn => ((hk _ _ W0 (XOk.genc o hh hs hcell) takes0).1 elt me hm).2
        have hd : X.A.depth < recursionLimit := by have := (o.slk hh hs).dp; omega
        split at e
        · cases e
          exact snd_all hP (o.cold hh) o.K (o.calm hh) hd o.nodup g1 g2 TB hcode pi bo c1 hcell hdot ⟨q3, fun s H C code fp pn => snd_tests0, he⟩ q2 q1 (genFolded_of hp1 hp2)
        · rename_i t
          split at e
          · rename_i tm ht
            cases e
            exact snd_all hP (o.cold hh) o.K (o.calm hh) hd o.nodup g1 g2 TB hcode pi bo c1 hcell hdot ⟨q3, fun s H C code fp pn => snd_tests1 ((hk _ _ W0 (XOk.genc o hh hs hcell) takes0).2 t tm ht), he⟩ q2 q1 (genFolded_of hp1 hp2)
          · cases e
        · cases e
      · cases e
    · cases e
  · cases e
theorem cSSet_ok {r : Expr → Option (M D)} (o : XOk N c X) (h : KE N X W r) {x : Str} {args : List Expr} {p pos : Pos} {m : M D} (e : cSSet r c x args pos = some m) : PE X (.Call (.Name x p) args [] pos) (TD N m W) := by
  unfold cSSet at e
  split at e
  · rename_i y p2 a q
    split at e
    · rename_i hc
      simp only [Bool.and_eq_true, Bool.not_eq_true'] at hc
      obtain ⟨⟨⟨⟨⟨h1, h2⟩, h3⟩, h4⟩, h5⟩, h6⟩ := hc
      have h1 := strEq_iff.mp h1
      have h2 := strEq_iff.mp h2
      subst h1
      subst h2
      split at e
      · rename_i m1 hm
        cases e
        obtain ⟨g1, g2, g3⟩ := o.free h3
        obtain ⟨g4, g5, g6⟩ := o.free h4
        have hh : ¬ c.hot = true := by rw [h5]; decide
        exact snd_sset o.K (o.calm hh) g1 g2 g4 g5 (h a m1 hm).2 (star_of h6)
      · cases e
    · cases e
  · cases e
theorem cPart_ok {r : Expr → Option (M D)} (h : KE N X W r) {e : Option Expr} {m : Option (M D)} (q : cPart r e = some m) : PO X e (TDg N (fun _ x y => x = y) (mPart m) W) := by
  unfold cPart at q
  split at q
  · cases q
    exact snd_part0
  · split at q
    · rename_i e m' hm
      cases q
      exact snd_part1 (h _ m' hm).2
    · cases q
theorem cFParts_ok {r : Expr → Option (M D)} (h : KE N X W r) : ∀ {es : List Expr} {ms : List (M D)}, cFParts r es = some ms → PJ X es (ms.map fun m => TD N m W)
  | [], ms, q => by
    cases q
    exact .nil
  | e :: es, ms, q => by
    unfold cFParts at q
    split at q
    · rename_i m ms' hm hms
      cases q
      refine .cons ?_ (cFParts_ok h hms)
      unfold cFPart at hm
      split at hm
      · rename_i e' conv pos
        split at hm
        · rename_i hc
          have hc : conv = -1 := by simpa using hc
          subst hc
          split at hm
          · rename_i m' hm'
            cases hm
            exact pe_imp (pe_fmt (h _ _ hm').2) td_fmt
          · cases hm
        · cases hm
      · cases hm
        exact cConst_ok rfl
      · cases hm
    · cases q
theorem stepE_ok {k : Nat} (hk : SndE N k) (o : XOk N c X) (tk : Takes X W) : KE N X W (stepE (comp k) c) := by
  intro e m q
  obtain ⟨hE, hT⟩ := hk c X W o tk
  unfold stepE at q
  split at q
  · rename_i hp
    refine ⟨hp, ?_⟩
    split at q
    · exact cName_ok o q
    · split at q
      · rename_i d hd
        cases q
        exact cConst_ok hd
      · cases q
    · unfold orElse at q
      split at q
      · rename_i x hx
        cases q
        exact cRepl_ok o hE hx
      · split at q
        · rename_i f m1 m2 hf h1 h2
          cases q
          obtain ⟨rr, s1, s2⟩ := binOf_ok o.K hf
          exact snd_bin s1 s2 (hE _ _ h1).2 (hE _ _ h2).2
        · cases q
    · split at q
      · rename_i m1 h1
        cases q
        exact snd_neg (hE _ _ h1).2
      · cases q
    · split at q
      · rename_i m1 h1
        cases q
        exact snd_notV o.K (hE _ _ h1).2
      · cases q
    · exact compAnd_ok hE q
    · exact compOr_ok hE q
    · split at q
      · rename_i op _ _ _ _ m1 m2 h1 h2
        cases q
        obtain ⟨rr, s1, s2⟩ := copC_ok o op
        exact snd_cmp s1 s2 (hE _ _ h1).2 (hE _ _ h2).2 (marks_of (hE _ _ h2).1)
      · cases q
    · split at q
      · rename_i op op' _ _ _ _ _ _ m1 m2 m3 h1 h2 h3
        cases q
        obtain ⟨rr, s1, s2⟩ := copC_ok o op
        obtain ⟨rr', s1', s2'⟩ := copC_ok o op'
        exact snd_chain s1 s1' s2 s2' (hE _ _ h1).2 (hE _ _ h2).2 (hE _ _ h3).2 (marks_of (hE _ _ h3).1)
      · cases q
    · split at q
      · rename_i m1 m2 m3 h1 h2 h3
        cases q
        exact snd_ife (hT _ _ h1) (hE _ _ h2).2 (hE _ _ h3).2
      · cases q
    · split at q
      · rename_i m1 h1
        cases q
        exact snd_tup (compL_ok hE h1).2
      · cases q
    · split at q
      · rename_i m1 h1
        cases q
        exact snd_lst _ (compL_ok hE h1).2
      · cases q
    · split at q
      · rename_i m1 l h h1 h2 h3
        cases q
        exact snd_slc _ o.K (hE _ _ h1).2 (cPart_ok hE h2) (cPart_ok hE h3)
      · cases q
    · split at q
      · rename_i m1 m2 h1 h2
        cases q
        exact snd_ix o.hu1 o.K (hE _ _ h1).2 (hE _ _ h2).2 (plainIx_of (hE _ _ h2).1)
      · cases q
    · exact cAll_ok hk o tk q
    · rcases orElse_of q with q | q
      · exact cSSet_ok o hE q
      · rcases orElse_of q with q | q
        · exact cMake_ok o tk hE q
        · rcases orElse_of q with q | q
          · exact cCall_ok o tk hE q
          · exact cXv_ok o tk hE q
    · rcases orElse_of q with q | q
      · exact cFldE_ok o q
      · split at q
        · exact cFldX_ok o hE q
        · exact cFld2_ok o hE q
    · split at q
      · exact cMeth2_ok o tk hE q
      · rcases orElse_of q with q | q
        · exact cMeth_ok o hE q
        · exact cMeth2_ok o tk hE q
    · split at q
      · cases q
      · rename_i hh
        cases q
        exact snd_dict0 (o.cold hh)
    · split at q
      · rename_i kk ks ms hks hms
        split at q
        · rename_i hg
          cases q
          rw [Bool.and_eq_true, Bool.and_eq_true, Bool.not_eq_true'] at hg
          obtain ⟨⟨g1, g2⟩, g3⟩ := hg
          have hh : ¬ c.hot = true := by rw [g3]; decide
          obtain ⟨kv, z1, z2, z3, z4, z5, z6⟩ := cDict_ok hE hks hms (Nat.eq_of_beq_eq_true g1)
          refine pe_imp (pe_disp z6 z5 (by rw [z3, z4]; exact Nat.eq_of_beq_eq_true g1) (fun e => by rw [e] at z3; cases z3) (by rw [z3]; exact of_decide_eq_true g2)) (td_disp (o.cold hh) z1 z2)
        · cases q
      · cases q
    · exact cComp_ok hk o tk q
    · split at q
      · rename_i ms hms
        cases q
        exact pe_join (cFParts_ok hE hms)
      · cases q
    · cases q
  · cases q
theorem stepT_ok {k : Nat} (hk : SndE N k) (o : XOk N c X) (tk : Takes X W) : KT N X W (stepT (comp k c)) := by
  intro e m q
  obtain ⟨hE, hT⟩ := hk c X W o tk
  unfold stepT at q
  split at q
  · split at q
    · rename_i m1 h1
      cases q
      exact snd_not (hT _ _ h1)
    · cases q
  · exact (compTAnd_ok hT q).pt
  · exact (compTOr_ok hT q).pt
  · split at q
    · rename_i op _ _ _ _ m1 m2 h1 h2
      cases q
      obtain ⟨rr, s1, s2⟩ := copC_ok o op
      exact snd_tcmp s1 s2 (hE _ _ h1).2 (hE _ _ h2).2 (marks_of (hE _ _ h2).1)
    · cases q
  · split at q
    · rename_i op op' _ _ _ _ _ _ m1 m2 m3 h1 h2 h3
      cases q
      obtain ⟨rr, s1, s2⟩ := copC_ok o op
      obtain ⟨rr', s1', s2'⟩ := copC_ok o op'
      exact snd_tchain s1 s1' s2 s2' (hE _ _ h1).2 (hE _ _ h2).2 (hE _ _ h3).2 (marks_of (hE _ _ h3).1)
    · cases q
  · split at q
    · rename_i hp
      split at q
      · rename_i m1 h1
        cases q
        exact snd_tval o.K (hE _ _ h1).2 (true_of hp)
      · cases q
    · cases q
end
theorem comp_ok (N : Nm) : ∀ k, SndE N k
  | 0 => fun c X W o tk => ⟨fun _ _ q => (by cases q), fun _ _ q => (by cases q)⟩
  | k + 1 => fun c X W o tk => ⟨stepE_ok (comp_ok N k) o tk, stepT_ok (comp_ok N k) o tk⟩

/-! ### statements -/
section
variable {N : Nm} {c : Cc} {X : Cx} {W : WX}
theorem cTg1_ok {r : Expr → Option (M D)} (o : XOk N c X) (h : KE N X W r) {tg : Expr} {g : Tg} (q : cTg1 r c tg = some g) : plainE tg = true ∧ PG X tg (TDG N g) := by
  unfold cTg1 at q
  split at q
  · split at q
    · cases q
    rename_i hh
    split at q
    · rename_i i hi
      cases q
      obtain ⟨h1, h2, h3⟩ := o.slotS hi
      exact ⟨rfl, snd_gvar (o.cold hh).1 (pg_name o.nodup h1 h2 h3)⟩
    · cases q
  · rename_i ob ix pos
    split at q
    · rename_i hp
      split at q
      · rename_i m1 m2 h1 h2
        cases q
        refine ⟨rfl, snd_gsub o.hu1 (h _ _ h1).2 (h _ _ h2).2 fun v => ?_⟩
        cases ix <;> first | rfl | cases hp
      · cases q
    · cases q
  · cases q
theorem cTgs_ok {r : Expr → Option (M D)} (o : XOk N c X) (h : KE N X W r) : ∀ {tgs : List Expr} {gs : List Tg}, cTgs r c tgs = some gs → PGs X tgs (TDGs N gs) ∧ (assignEach tgs X.env).length = gs.length ∧ (assignEach tgs X.env).findIdx? (·.1) = none
  | [], gs, q => by
    cases q
    exact ⟨snd_gnil, rfl, rfl⟩
  | tg :: tgs, gs, q => by
    unfold cTgs at q
    split at q
    · rename_i g gs' h1 h2
      cases q
      obtain ⟨p1, p2⟩ := cTg1_ok o h h1
      obtain ⟨p3, p4, p5⟩ := cTgs_ok o h h2
      refine ⟨snd_gcons p2 p3 (by rw [assign_of p1] <;> rfl), by rw [assign_of p1, List.length_cons, List.length_cons, p4], ?_⟩
      rw [assign_of p1, List.findIdx?_cons]
      show (if false = true then some 0 else _) = none
      rw [if_neg (by simp), p5]
      rfl
    · cases q
theorem cTgt_ok {r : Expr → Option (M D)} (o : XOk N c X) (h : KE N X W r) {tg : Expr} {g : Tg} (q : cTgt r c tg = some g) : plainE tg = true ∧ PG X tg (TDG N g) := by
  unfold cTgt at q
  split at q
  · split at q
    · cases q
    rename_i hh
    split at q
    · rename_i gs h1
      cases q
      obtain ⟨p3, p4, p5⟩ := cTgs_ok o h h1
      exact ⟨rfl, snd_gtup o.K (o.calm hh) p3 p4 p5⟩
    · cases q
  · exact cTg1_ok o h q
theorem swaps_of {e tg : Expr} {l : Nat} {env : PySem.Env} (h : isComp e = false) : swapsWithSole [tg] e l env = pure false := by
  cases e <;> first | rfl | cases h
theorem swapsN_of {e : Expr} {l : Nat} {env : PySem.Env} (h : isComp e = false) : swapsWith e none l env = pure false := by
  cases e <;> first | rfl | cases h
theorem swapsA_of {e : Expr} {t : Option Expr} {l : Nat} {env : PySem.Env} (h : isComp e = false) : swapsWith e t l env = pure false := by
  cases e <;> first | rfl | cases h
theorem swapped_of {e tg : Expr} {env : PySem.Env} (h : (isTuple tg && isTuple e) = false) (hp : plainE tg = true) (hl : ∀ es p, tg ≠ .List es p) : swappedStores [tg] e env = pure none := by
  cases tg with
  | Tuple ts k p => cases e <;> first | rfl | cases h
  | List es p => exact absurd rfl (hl es p)
  | _ => rfl
theorem cTgt_notList {r : Expr → Option (M D)} {tg : Expr} {g : Tg} (q : cTgt r c tg = some g) : ∀ es p, tg ≠ .List es p := by
  intro es p e
  subst e
  cases q
theorem sw_par {x y : Str} {px py pt pt2 : Pos} {kt k2} {a b : Expr} {env : PySem.Env} (hk : env.blockKind = .function) (hx : env.kindOf x = some .local) (hy : env.kindOf y = some .local) (hl : (py.line == px.line) = true) (hne : x ≠ y)
    (pa : plainE a = true) (pb : plainE b = true) (h1 : [a, b].all (foldedForSure 8) = false) (h2 : [a, b].all (constantsAlone 8) = false) :
    swappedStores [.Tuple [.Name x px, .Name y py] kt pt] (.Tuple [a, b] k2 pt2) env = pure (some [x, y]) := by
  unfold swappedStores
  have e1 : (x == y) = false := by simpa using hne
  have e2 : (y == x) = false := by simpa using Ne.symm hne
  have hl' : py.line = px.line := by simpa using hl
  have hk' : (env.blockKind != .function) = false := by rw [hk]; rfl
  simp only [h1, h2, hk']
  simp [hx, hy, hl', Expr.pos, List.eraseDups, List.eraseDupsBy, List.eraseDupsBy.loop, e1, e2]
  intro z
  exfalso
  rcases z with z | z
  · cases a <;> first | exact absurd z (by decide) | exact absurd z Bool.false_ne_true | exact absurd pa (by decide) | exact absurd pa Bool.false_ne_true
  · cases b <;> first | exact absurd z (by decide) | exact absurd z Bool.false_ne_true | exact absurd pb (by decide) | exact absurd pb Bool.false_ne_true
theorem XOk.slotX (o : XOk N c X) {x : Str} {i : Nat} (h : c.slotX x = some i) : X.N[i]? = some x ∧ X.env.scope.names.lookup x = some .local := by
  unfold Cc.slotX at h
  split at h
  · rename_i hl
    exact ⟨by rw [o.sl]; exact ixOf_at h, by rw [o.sc]; exact hl⟩
  · cases h
theorem sw_cell {y : Str} {py p : Pos} {elt : Expr} {gens : List Comprehension} {scope : Scope} {l : Nat} {env : PySem.Env} (h : env.scope.names.lookup y = some .cell) : swapsWithSole [.Name y py] (.ListComp elt gens scope p) l env = pure false := by
  show (pure (env.blockKind == .function && (env.scope.names.lookup y == some .local) && _ && _) : Sem Bool) = _
  rw [h]
  have : ((some NameKind.cell : Option NameKind) == some .local) = false := rfl
  rw [this, Bool.and_false, Bool.false_and, Bool.false_and]
theorem cAsg_ok {k : Nat} (o : XOk N c X) (tk : Takes X W) {tg e : Expr} {b : B} {pos : Pos} (q : cAsg (comp k c) c tg e = some b) : PS X (.Assign [tg] e pos) (TDS N b W) := by
  obtain ⟨hE, hT⟩ := comp_ok N k c X W o tk
  unfold cAsg at q
  split at q
  · rename_i y py elt gens scope p
    split at q
    · rename_i i hl hi
      split at q
      · rename_i hc
        rw [Bool.and_eq_true, Bool.not_eq_true'] at hc
        split at q
        · rename_i m hm
          cases q
          cases k with
          | zero => cases hm
          | succ k =>
            have hm2 : cComp (comp k) c elt gens scope p = some m := hm
            obtain ⟨h1, h2, h3⟩ := o.slotS hi
            have hyl : X.env.scope.names.lookup y = some .local := (o.ss y).1 hl
            by_cases hkf : X.env.scope.kind = .function
            · unfold cComp at hm2
              split at hm2
              · obtain ⟨tg, iter, own, is, it, me, tg1, iter1, own1, is1, it1, z, rfl, pi, bo, bs, q2, q1, u2, u1, hp, hp1, hh⟩ := cComp2_parts (comp_ok N k) o tk hm2
                rw [z]
                exact snd_setlc2 (o.cold hh) o.K (o.calm hh) o.nodup h1 hyl (sw_true hkf hyl hc.1 hc.2) pi bo bs q2 q1 u2 u1 (fun i h => by rw [List.map_append]; exact List.mem_append_right _ h) (folded_of hp) (fun env => folded_of hp1)
              · obtain ⟨tg, iter, ifs, own, is, it, t, me, rfl, rfl, pi, bo, bs, q2, q1, hp, hh⟩ := cComp_parts (comp_ok N k) o tk hm2
                exact snd_setlc (o.cold hh) o.K (o.calm hh) o.nodup h1 hyl (sw_true hkf hyl hc.1 hc.2) pi bo bs q2 q1 (folded_of hp)
            · exact ⟨fun pins s σ H Dn I t => absurd I.ok.kind hkf⟩
        · cases q
      · cases q
    · rename_i i hl hi
      split at q
      · rename_i m g hm hg
        cases q
        obtain ⟨p1, p2⟩ := cTgt_ok o hE hg
        have hyl : X.env.scope.names.lookup y = some .cell := ((o.ss y).2 hl).1
        refine snd_asg (hE _ _ hm).2 p2 (sw_cell hyl) (swapped_of rfl p1 (cTgt_notList hg)) ?_
        rw [assign_of p1]
        rfl
      · cases q
    · cases q
  · rename_i x px y py kt pt a b' k2 pt2
    split at q
    · rename_i hc
      simp only [Bool.and_eq_true, Bool.not_eq_true'] at hc
      obtain ⟨⟨⟨⟨⟨⟨hh, hl⟩, hne⟩, pa⟩, pb⟩, h1⟩, h2⟩ := hc
      have hh : ¬ c.hot = true := by rw [hh]; decide
      split at q
      · rename_i i j m hi hj hm
        split at q
        · cases q
        · rename_i hij
          cases q
          obtain ⟨n1, l1⟩ := o.slotX hi
          obtain ⟨n2, l2⟩ := o.slotX hj
          have hxy : x ≠ y := fun e => by
            rw [e] at hne
            unfold strEq at hne
            simp at hne
          by_cases hkf : X.env.scope.kind = .function
          · exact snd_par (o.cold hh).1 (o.calm hh) o.nodup n1 n2 (by simpa using hij) l1 l2 (compL_ok hE hm).2 (sw_par (by show (if X.env.scope.kind.isAnnotationScope then ScopeKind.function else X.env.scope.kind) = .function; rw [hkf]; rfl) l1 l2 hl hxy pa pb h1 h2)
          · exact ⟨fun pins s σ H Dn I t => absurd I.ok.kind hkf⟩
      · cases q
    · cases q
  · split at q
    · cases q
    · rename_i hn
      have hn : (isComp e || isTuple tg && isTuple e) = false := by
        cases z : (isComp e || isTuple tg && isTuple e) with
        | false => rfl
        | true => exact absurd z hn
      rw [Bool.or_eq_false_iff] at hn
      split at q
      · rename_i m g hm hg
        cases q
        obtain ⟨p1, p2⟩ := cTgt_ok o hE hg
        refine snd_asg (hE _ _ hm).2 p2 (swaps_of hn.1) (swapped_of hn.2 p1 (cTgt_notList hg)) ?_
        rw [assign_of p1]
        rfl
      · cases q
theorem cBlk_ok {f : Stmt → Option B} (h : ∀ s b, f s = some b → PS X s (TDS N b W)) : ∀ {ss : List Stmt} {b : B}, cBlk f ss = some b → PSs X ss (TDS N b W)
  | [], b, q => by
    cases q
    exact snd_snil
  | s :: ss, b, q => by
    unfold cBlk at q
    split at q
    · rename_i a b' h1 h2
      cases q
      exact snd_seq (h s a h1) (cBlk_ok h h2)
    · cases q
/-- the context of a try's body -/
theorem XOk.tr (o : XOk N c X) (hh : ¬ c.hot = true) (pn : List (Addr × Obj)) (xe : Value → Shared → Prop) : XOk N c (X.tr pn xe) :=
  { sl := o.sl, nd := o.nd, sc := o.sc, K := o.K, glo := o.glo, fns := o.fns, blt := o.blt, calm := o.calm, room := o.room, slk := o.slk, tab := o.tab, att := o.att,
    exc := fun y ci fs z => (by
      rw [o.xe0 hh] at z
      cases z), xkt := o.xkt, xin := o.xin, atn := o.atn, okf := o.okf, mth := o.mth, mak := o.mak, xe0 := o.xe0, un := o.un, cold := o.cold, mt := o.mt, xcl := o.xcl, xnw := o.xnw, ss := o.ss }
/-- the context of a suite -/
theorem XOk.suite0 (o : XOk N c X) (ci : Nat) (fs : List (Nat × D)) (a : Addr) (pn : List (Addr × Obj)) : XOk N (c.heat none ci fs) (X.suite a pn) :=
  { sl := o.sl, nd := o.nd, sc := o.sc, K := o.K, glo := o.glo, fns := fun h => absurd rfl h, blt := o.blt, calm := fun h => absurd rfl h, room := fun h => absurd rfl h, slk := fun h => absurd rfl h, tab := o.tab, att := o.att,
    exc := fun y ci fs z => (by cases z), xkt := o.xkt, xin := o.xin, atn := o.atn, okf := o.okf, mth := fun m l e => ⟨(o.mth m l e).1, fun h => absurd rfl h⟩, mak := fun h => absurd rfl h, xe0 := fun h => absurd rfl h, un := o.un, cold := fun h => absurd rfl h, mt := o.mt, xcl := o.xcl, xnw := o.xnw, ss := o.ss }
theorem XOk.suiteN (o : XOk N c X) {n : Str} {ci i : Nat} {fs : List (Nat × D)} {a : Addr} {oe : Obj} {dd : Option Addr} {fv : List (Str × V)} (pn : List (Addr × Obj)) (hi : X.N[i]? = some n) (hl : X.env.scope.names.lookup n = some .local) (hz : Zc (.ref (N.ca ci)) dd oe) (hf : ∃ vs, oe.data = .fields vs) (xf : XF N fs dd fv) : XOk (N.heat i a dd fv) (c.heat (some n) ci fs) (X.suite a ((a, oe) :: pn)) :=
  { sl := o.sl, nd := o.nd, sc := o.sc, K := o.K, glo := fun x d e => (by
      obtain ⟨v, u, h1, h2, h3⟩ := o.glo x d e
      exact ⟨v, u, h1, h2, fun w => (rep_heat d v).mpr (h3 w)⟩), fns := fun h => absurd rfl h, blt := o.blt, calm := fun h => absurd rfl h, room := fun h => absurd rfl h, slk := fun h => absurd rfl h, tab := o.tab, att := o.att,
    exc := fun y ci' fs' z => (by
      have z : some (n, ci, fs) = some (y, ci', fs') := z
      cases z
      refine ⟨X, a, oe, pn, dd, fv, i, rfl, hz, hf, rfl, hi, hl, xf.1, fun hne => ?_⟩
      obtain ⟨⟨ad, e⟩, w, r⟩ := xf.2 hne
      exact ⟨ad, e, (by show (if dd = some ad then some fv else none) = _; rw [if_pos e]), w, (repf_heat fs fv).mpr r⟩), xkt := o.xkt, xin := o.xin, atn := o.atn, okf := o.okf, mth := fun m l e => ⟨(o.mth m l e).1, fun h => absurd rfl h⟩, mak := fun h => absurd rfl h, xe0 := fun h => absurd rfl h, un := o.un, cold := fun h => absurd rfl h, mt := o.mt, xcl := o.xcl, xnw := o.xnw, ss := o.ss }
def StmtOk (ke k : Nat) : Prop := ∀ (N : Nm) (c : Cc) (X : Cx) (W : WX), XOk N c X → Takes X W → (¬ c.hot = true → PassesOwn (model X.prog X.w) X.A X.env X.xe) → (¬ c.hot = true → X.stack = X.env :: X.outer ∧ X.env.frame = some X.env.locals) →
  ∀ (s : Stmt) (b : B), compS ke k c s = some b → PS X s (TDS N b W)
theorem suite_ok {ke k : Nat} (ih : StmtOk ke k) (o : XOk N c X) (hh : c.hot = true) (tk : Takes X W0) {ss : List Stmt} : PSs X ss (TDS N ((cBlk (compS ke k c) ss).getD fun _ _ => .no) W0) := by
  cases e : cBlk (compS ke k c) ss with
  | none => exact ⟨fun pins s σ H Dn I ⟨w, ρ, h, _, _, p⟩ => p.elim⟩
  | some b => exact cBlk_ok (fun s b q => ih N c X W0 o tk (fun h => absurd hh h) (fun h => absurd hh h) s b q) e
theorem cHds_ok {ke k : Nat} (ih : StmtOk ke k) (o : XOk N c X) : ∀ {hds : List ExceptHandler} {hs : List HdE}, cHds (compS ke k) c hds = some hs → HdOk X N hds hs
  | [], hs, q => by
    cases q
    exact .nil
  | h₀ :: hds, hs, q => by
    unfold cHds at q
    split at q
    · rename_i e
      cases e
    · rename_i x np nm b₀ suite pos' r e
      cases e
      split at q
      · rename_i hg
        rw [Bool.and_eq_true] at hg
        obtain ⟨d1, d2, d3⟩ := okName_of hg.2
        split at q
        · rename_i kk hs' hk hr
          have rest := cHds_ok ih o hr
          have g1 := o.xcl _ kk hk
          have nmx : Names X x (.ref (N.ca kk)) := ⟨o.isGlob hg.1, d1, .inl g1⟩
          split at q
          · cases q
            exact .only nmx (fun a oe ci fs dd pn hz hv => suite_ok (c := c.heat none ci fs) ih (o.suite0 ci fs a ((a, oe) :: pn)) rfl takes0) rest
          · rename_i n
            split at q
            · rename_i i hi
              cases q
              unfold Cc.slotX at hi
              split at hi
              · rename_i hl
                have hiN : X.N[i]? = some n := by rw [o.sl]; exact ixOf_at hi
                have hlN : X.env.scope.names.lookup n = some .local := by rw [o.sc]; exact hl
                exact .as_ nmx o.nodup hiN hlN
                  (fun a oe ci fs dd fv pn hz hv xf => suite_ok (N := N.heat i a dd fv) (c := c.heat (some n) ci fs) ih (o.suiteN pn hiN hlN hz hv xf) rfl takes0) rest
              · cases hi
            · cases q
        · cases q
      · cases q
    · cases q
theorem compS_ok (ke : Nat) : ∀ (k : Nat), StmtOk ke k
  | 0 => fun _ _ _ _ _ _ _ _ _ _ q => by cases q
  | k + 1 => fun N c X W o tk po sk s b q => by
    obtain ⟨hE, hT⟩ := comp_ok N ke c X W o tk
    have ih0 := compS_ok ke k
    have ih := ih0 N c X W o tk po sk
    unfold compS at q
    split at q
    · cases q
      exact snd_doc
    · split at q
      · cases q
      · rename_i hc
        split at q
        · rename_i m hm
          cases q
          exact snd_ex (hE _ _ hm).2 (swapsN_of (by simpa using hc))
        · cases q
    · cases q
      exact snd_retN
    · split at q
      · rename_i m hm
        cases q
        exact snd_ret (hE _ _ hm).2
      · cases q
    · split at q
      · rename_i t a b' ht ha hb
        cases q
        exact snd_if (hT _ _ ht) (cBlk_ok ih ha) (cBlk_ok ih hb)
      · cases q
    · split at q
      · cases q
      · rename_i hc
        rw [Bool.or_eq_true, not_or, Bool.not_eq_true', Bool.not_eq_false] at hc
        obtain ⟨hc1, hc2⟩ := hc
        split at q
        · rename_i k mo me hk hmo hme
          cases q
          have hf := o.att k _ (ixOf_at hk)
          exact snd_sfld o.inj hf (fun ci z => by rw [← hf]; exact o.okf ci k z) (hE _ _ hmo).2 (hE _ _ hme).2 (swapsA_of (by simpa using hc1))
        · cases q
    · exact cAsg_ok o tk q
    · split at q
      · cases q
      rename_i hh
      split at q
      · rename_i i m hi hm
        cases q
        obtain ⟨h1, h2, h3⟩ := o.slotS hi
        exact snd_aug (o.cold hh).1 o.nodup h1 h2 (hE _ _ hm).2 ip_addA ops_iadd h3
      · cases q
    · split at q
      · rename_i hp
        rw [Bool.and_eq_true, Bool.not_eq_true'] at hp
        have hh : ¬ c.hot = true := by rw [hp.2]; decide
        have hp := hp.1
        split at q
        · rename_i g it b' hg hi hb
          cases q
          exact snd_for (po hh) (o.calm hh) (cIter_ok o hE hi) (cTgt_ok o hE hg).2 (cBlk_ok ih hb) (folded_of hp)
        · cases q
      · cases q
    · split at q
      · cases q
      rename_i hh
      split at q
      · rename_i t b' ht hb
        cases q
        exact snd_while (po hh) (hT _ _ ht) (cBlk_ok ih hb)
      · cases q
    · split at q
      · rename_i hg
        rw [Bool.and_eq_true, Bool.and_eq_true, Bool.not_eq_true'] at hg
        have hh : ¬ c.hot = true := by rw [hg.2]; decide
        obtain ⟨d1, d2, d3⟩ := okName_of hg.1.2
        split at q
        · rename_i i hi
          split at q
          · rename_i hn
            cases q
            obtain ⟨j, hj, ej⟩ := List.any_eq_true.mp hn
            have ej : i = j := Nat.eq_of_beq_eq_true ej
            subst ej
            have g1 := o.xcl _ i hi
            obtain ⟨g2, g3, g4⟩ := o.xnw i hj
            exact snd_raise0 (o.calm hh) tk g2 g1 g3 g4 (o.isGlob hg.1.1) d1
          · cases q
        · cases q
      · cases q
    · split at q
      · rename_i x p a as pos p' hg
        rw [Bool.and_eq_true, Bool.and_eq_true, Bool.not_eq_true'] at hg
        have hh : ¬ c.hot = true := by rw [hg.2]; decide
        obtain ⟨d1, d2, d3⟩ := okName_of hg.1.2
        split at q
        · rename_i i hi
          split at q
          · rename_i ks ms hks hms
            split at q
            · cases q
              obtain ⟨x1, x2, x3, x4, x5, fI, fd, ps, x6, x7, x8, x9⟩ := o.xin i ks hks
              obtain ⟨p1, p2⟩ := compL_ok hE hms
              exact snd_raiseX (o.calm hh) tk x5 x6 x7 (x9 0) ((o.room hh).mono (by omega)) x8 (o.xcl _ i hi) (o.isGlob hg.1.1) x1 p2 d1 (star_of (p1 a List.mem_cons_self)) (stars_plain fun e he => p1 e (List.mem_cons_of_mem _ he)).1 x2
            · cases q
          · cases q
        · cases q
      · cases q
    · split at q
      · cases q
      rename_i hh
      split at q
      · rename_i b' hs hb hhs
        cases q
        exact snd_try (o.cold hh) o.mt (sk hh).1 (sk hh).2 tk (fun W2 pn xe tk2 po2 => cBlk_ok (fun s b q => ih0 N c (X.tr pn xe) W2 (o.tr hh pn xe) tk2 (fun _ => po2) (fun _ => sk hh) s b q) hb) (cHds_ok ih0 o hhs)
      · cases q
    · cases q
      exact snd_pass
    · cases q
      exact snd_brk
    · cases q
      exact snd_cnt
    · cases q
theorem compB_ok (o : XOk N c X) (tk : Takes X W) (po : PassesOwn (model X.prog X.w) X.A X.env X.xe) (sk : X.stack = X.env :: X.outer ∧ X.env.frame = some X.env.locals) {body : List Stmt} {b : B} (q : compB c body = some b) : PSs X body (TDS N b W) := cBlk_ok (compS_ok 40 40 N c X W o tk (fun _ => po) (fun _ => sk)) q
end
end DN

set_option Elab.async false
set_option linter.all false
set_option maxRecDepth 100000
/-! D16: the head's facts of own exceptions with an __init__ of their own. -/
namespace DN
open PySem PySem.Spec PySem.W PySem.Calls
open L2 hiding It
open PyProof.Rows hiding St
/-- the class's object, seen as Bool -/
def clsB (K : PySem.W.Frag) (C : Addr) : Bool := match K.lookup C with
  | some ob => (match ob.cls, ob.data with
    | .type tn, .cls cd => (match cd.mro, ob.slots.toList with
      | .ref C1 :: rest, [_, _, _, _, some (.builtin nw), _] => decide (tn = "type") && (decide (C1 = C) && (decide (nw = "ValueError.__new__") && ((!cd.hasDel) && (cd.hasDict && PySem.HandSPX.refsVE rest))))
      | _, _ => false)
    | _, _ => false)
  | none => false
theorem clsB_ok {K : PySem.W.Frag} {C : Addr} (h : clsB K C = true) : ∃ nm q N bs bm sn sub ab col dd k0 k1 k2 k3 k5, K.lookup C = some (excClassObj nm q C N bs bm true sn sub ab col dd k0 k1 k2 k3 k5 "ValueError.__new__") ∧ PySem.HandSPX.refsVE bm = true := by
  unfold clsB at h
  split at h
  · rename_i ob hob
    split at h
    · rename_i tn cd hc hd
      split at h
      · rename_i C1 rest k0 k1 k2 k3 nw k5 hm hs
        obtain ⟨h1, h⟩ := Bool.and_eq_true_iff.mp h
        obtain ⟨h2, h⟩ := Bool.and_eq_true_iff.mp h
        obtain ⟨h3, h⟩ := Bool.and_eq_true_iff.mp h
        obtain ⟨h4, h⟩ := Bool.and_eq_true_iff.mp h
        obtain ⟨h5, h6⟩ := Bool.and_eq_true_iff.mp h
        have g1 := of_decide_eq_true h1
        have g2 := of_decide_eq_true h2
        have g3 := of_decide_eq_true h3
        rw [Bool.not_eq_true'] at h4
        obtain ⟨oc, od, odat, osl⟩ := ob
        obtain ⟨nm, bs, mro, ns, qn, hdt, sn, sub, ab, col, del⟩ := cd
        dsimp only at hc hd hm hs h4 h5
        subst hc hd hm h4 h5 g1 g2 g3
        have hsl : osl = #[k0, k1, k2, k3, some (.builtin "ValueError.__new__"), k5] := by
          obtain ⟨l⟩ := osl
          simp only at hs
          rw [hs]
        subst hsl
        exact ⟨nm, qn, ns, bs, rest, sn, sub, ab, col, od, k0, k1, k2, k3, k5, hob, h6⟩
      · cases h
    · cases h
  · cases h
/-- the __init__'s object, seen as Bool -/
def iniB (K : PySem.W.Frag) (file : Str) (C f : Addr) : Bool := match K.lookup f with
  | some ob => (match ob.data with
    | .func fd => (match fd.closure, fd.code, fd.body, fd.defaults with
      | [(cn, cc)], .ref ca, .stmts _, .none => decide (cn = "__class__") && (decide (fd.globals = mainGlobals) && (decide (fd.builtins = builtinsNs) && (PySem.W.codeIn K (.ref ca) fd.qualname && ((match K.lookup cc with
          | some oc => (match oc.data with
            | .cell (some (.ref C1)) => decide (C1 = C)
            | _ => false)
          | none => false) && (match K.lookup ca with
          | some oc => (match oc.data with
            | .fields fvs => (match (fvs[2]? : Option Value) with
              | some (Value.str fl _) => file == fl
              | _ => false)
            | _ => false)
          | none => false)))))
      | _, _, _, _ => false)
    | _ => false)
  | none => false
theorem iniB_ok {K : PySem.W.Frag} {file : Str} {C f : Addr} (h : iniB K file C f = true) : ∃ fd, ∃ name qual params body scope kV doc pm an cda ct cc oc od osl, fd = ksFn name qual params body scope .none kV doc pm an (.ref cda) ct cc ∧ K.lookup f = some ⟨oc, od, .func fd, osl⟩ ∧ PySem.W.codeIn K (.ref cda) qual = true ∧
    (∃ ccl cdd fvs ccs fl tf, K.lookup cda = some ⟨ccl, cdd, .fields fvs, ccs⟩ ∧ fvs[2]? = some (.str fl tf) ∧ (file == fl) = true) ∧ (∃ cl cld csl, K.lookup cc = some ⟨cl, cld, .cell (some (.ref C)), csl⟩) := by
  unfold iniB at h
  split at h
  · rename_i ob hob
    split at h
    · rename_i fd hfd
      split at h
      · rename_i cn cc ca bd e1 e2 e3 e4
        obtain ⟨h1, h⟩ := Bool.and_eq_true_iff.mp h
        obtain ⟨h2, h⟩ := Bool.and_eq_true_iff.mp h
        obtain ⟨h3, h⟩ := Bool.and_eq_true_iff.mp h
        obtain ⟨h4, h⟩ := Bool.and_eq_true_iff.mp h
        obtain ⟨h5, h6⟩ := Bool.and_eq_true_iff.mp h
        have g1 := of_decide_eq_true h1
        have g2 := of_decide_eq_true h2
        have g3 := of_decide_eq_true h3
        obtain ⟨oc, od, odat, osl⟩ := ob
        obtain ⟨nm, qn, ps, body, sc, gl, cl, dV, kV, doc, pm, an, cd, ct, bi⟩ := fd
        clear h1 h2 h3
        dsimp only at hfd g2 g3 h4 e1 e2 e3 e4
        subst hfd g1 g2 g3 e1 e2 e3 e4
        refine ⟨_, nm, qn, ps, bd, sc, kV, doc, pm, an, ca, ct, cc, oc, od, osl, rfl, hob, h4, ?_, ?_⟩
        · split at h6
          · rename_i o1 ho1
            split at h6
            · rename_i fvs hf
              split at h6
              · rename_i fl tf hl
                obtain ⟨a1, a2, a3, a4⟩ := o1
                dsimp only at hf
                subst hf
                exact ⟨a1, a2, fvs, a4, fl, tf, ho1, hl, h6⟩
              · cases h6
            · cases h6
          · cases h6
        · split at h5
          · rename_i o1 ho1
            split at h5
            · rename_i C1 hf
              obtain ⟨a1, a2, a3, a4⟩ := o1
              dsimp only at hf
              subst hf
              rw [of_decide_eq_true h5] at ho1
              exact ⟨a1, a2, a4, ho1⟩
            · cases h5
          · cases h5
      · cases h
    · cases h
  · cases h
/-- all that is asked of such a class -/
def supB (K : PySem.W.Frag) (file x : Str) (fs : List Str) : Bool :=
  [clsB K (He.ga K x), He.eqO (PySem.W.findIn K (.ref (He.ga K x)) "__setattr__") (some (some (.builtin "object.__setattr__"))), decide (PySem.W.subIn K (.ref (He.ga K x)) (.type "BaseException") = some true), decide (PySem.W.typeIn K (.ref (He.ga K x)) = some (.type "type")), PySem.W.keepIn K (.ref (He.ga K x)),
    He.eqO (PySem.W.findIn K (.ref (He.ga K x)) "__init__") (some (some (.ref (He.ma K (He.ga K x) "__init__")))), decide (PySem.W.typeIn K (.ref (He.ma K (He.ga K x) "__init__")) = some (.type "function")), iniB K file (He.ga K x) (He.ma K (He.ga K x) "__init__"), decide (PySem.W.mroIn K (He.ga K x) (.ref (He.ga K x)) = some true),
    He.eqO (PySem.W.nsIn K cStatics "thirdparty.any") (some none), He.eqO (ks_superIn K (He.ga K x) (He.ga K x) "__init__") (some (some (.builtin "ValueError.__init__"))), decide (PySem.W.subIn K (.ref (He.ga K x)) (.type "ValueError") = some true), fs.all fun n => He.eqO (PySem.W.findIn K (.ref (He.ga K x)) n) (some none), xfB K (He.ga K x)].all id
/-- what the __init__ says -/
abbrev IniW : Type := Option (Str × Str × Arguments × FuncBody × Scope)
def iniW (K : PySem.W.Frag) (x : Str) : IniW := match K.lookup (He.ma K (He.ga K x) "__init__") with
  | some ob => (match ob.data with
    | .func fd => some (fd.name, fd.qualname, fd.params, fd.body, fd.scope)
    | _ => none)
  | none => none
theorem supB_ok {P : Program} {K : PySem.W.Frag} {x : Str} {fs : List Str} {name qual : Str} {params : Arguments} {body : List Stmt} {scope : Scope} (h : supB K P.main.file x fs = true) (w : iniW K x = some (name, qual, params, .stmts body, scope)) (top : (P.main.scope.names.lookup ("super" : Str)).isSome = false) :
    ∃ fd, SupC P K (He.ga K x) (He.ma K (He.ga K x) "__init__") fd fs ∧ XfC K (He.ga K x) ∧ (fd.name = name ∧ fd.qualname = qual ∧ fd.params = params ∧ fd.body = .stmts body ∧ fd.scope = scope) ∧ ∃ kV doc pm an cda ct cc, fd = ksFn name qual params body scope .none kV doc pm an (.ref cda) ct cc := by
  unfold supB at h
  simp only [List.all_cons, List.all_nil, Bool.and_true, Bool.and_eq_true, id] at h
  obtain ⟨h1, h2, h3, h4, h5, h6, h7, h8, h9, h10, h11, h12, h13, h14⟩ := h
  obtain ⟨fd, nm, qn, ps, bd, sc, kV, doc, pm, an, cda, ct, cc, oc, od, osl, e, lk, h15, h16, h17⟩ := iniB_ok h8
  unfold iniW at w
  rw [lk] at w
  subst e
  cases w
  refine ⟨_, ⟨⟨clsB_ok h1, He.eqO_ok h2, of_decide_eq_true h3, of_decide_eq_true h4, h5⟩, He.eqO_ok h6, of_decide_eq_true h7, ⟨_, _, _, _, _, _, _, _, _, _, cda, ct, cc, oc, od, osl, rfl, lk, h15, h16, h17⟩, of_decide_eq_true h9, He.eqO_ok h10, He.eqO_ok h11, of_decide_eq_true h12, fun n hn => He.eqO_ok (List.all_eq_true.mp h13 n hn), top⟩, xfB_ok h14, ⟨rfl, rfl, rfl, rfl, rfl⟩, kV, doc, pm, an, cda, ct, cc, rfl⟩
/-! ### a head that tells them, too -/
abbrev AlZ : Type := He.AlX × List IniW
/-- what is seen: the module's things, and the interpreter's own table of statics -/
abbrev frZ (n : Nat) (g : Addr → Option Obj) : PySem.W.Frag := He.frT g (cStatics :: He.asD g n)
def obsK (fa : List He.Fa) (fn : List He.DefD) (tf : List He.Defn) (ex : PySem.W.Frag → Bool) (xi : List Str) (g : Addr → Option Obj) (K : PySem.W.Frag) : AlZ := ((He.obsT fa fn [] K, ex K && He.tabsB g tf K), xi.map (iniW K))
def obsZ (n : Nat) (fa : List He.Fa) (fn : List He.DefD) (tf : List He.Defn) (ex : PySem.W.Frag → Bool) (xi : List Str) (g : Addr → Option Obj) : AlZ := obsK fa fn tf ex xi g (frZ n g)
theorem saysZ {n : Nat} {fa : List He.Fa} {fn : List He.DefD} {tf : List He.Defn} {ex : PySem.W.Frag → Bool} {xi : List Str} {xv : List IniW} {w : World} {h : Heap} (e : obsZ n fa fn tf ex xi h.get? = (He.valX fn [] w, xv)) : He.SaysX fa fn [] tf ex w h (frZ n h.get?) ∧ xi.map (iniW (frZ n h.get?)) = xv := by
  have e0 : obsK fa fn tf ex xi h.get? (frZ n h.get?) = (He.valX fn [] w, xv) := e
  clear e
  have hK : ∀ {a : Addr} {o : Obj}, h.get? a = some o → He.emptyTab o = true → (frZ n h.get?).lookup a = none := fun {a o} q z => He.frT_none q z
  generalize frZ n h.get? = K at e0 hK ⊢
  have e1 : He.obsT fa fn [] K = He.valT fn [] w := congrArg (fun z : AlZ => z.1.1) e0
  have e2 : (ex K && He.tabsB h.get? tf K) = true := congrArg (fun z : AlZ => z.1.2) e0
  have e3 : xi.map (iniW K) = xv := congrArg (fun z : AlZ => z.2) e0
  obtain ⟨g1, g2⟩ := Bool.and_eq_true_iff.mp e2
  have at_ : ∀ p ∈ tf, PySem.W.codeHdIn K (He.cT K p).1 (He.cT K p).2 = true ∧ ∃ o, h.get? (He.cT K p).2 = some o ∧ He.emptyTab o = true := fun p hp => by
    obtain ⟨g3, g4⟩ := Bool.and_eq_true_iff.mp (List.all_eq_true.mp g2 p hp)
    refine ⟨g3, ?_⟩
    split at g4
    · rename_i o ho
      exact ⟨o, ho, g4⟩
    · cases g4
  refine ⟨⟨e1, g1, fun p hp => (at_ p hp).1, fun p hp => ?_, fun p hp => ?_⟩, e3⟩
  · obtain ⟨_, o, q, z⟩ := at_ p hp
    exact hK q z
  · obtain ⟨_, o, q, z⟩ := at_ p hp
    rw [q, He.emptyTab_eq z]
def hookZ (n : Nat) (fa : List He.Fa) (fn : List He.DefD) (tf : List He.Defn) (ex : PySem.W.Frag → Bool) (xi : List Str) (xv : List IniW) : PySem.W.Hook where
  α := AlZ
  obs := fun s => obsZ n fa fn tf ex xi s.heap.get?
  val := fun w => (He.valX fn [] w, xv)
  says := fun w h => ∃ K : PySem.W.Frag, K.In h ∧ He.SaysX fa fn [] tf ex w h K ∧ xi.map (iniW K) = xv
  of := fun w s e => ⟨_, He.frT_in, saysZ e⟩
  keeps := fun _ _ _ ⟨K, hK, c, d⟩ k => ⟨K, PySem.W.Frag.In.keeps hK k, ⟨c.t, c.more, c.hd, c.out, fun p hp => k _ _ (c.empty p hp)⟩, d⟩
theorem obsZ_eq {n : Nat} {fa : List He.Fa} {fn : List He.DefD} {tf : List He.Defn} {ex : PySem.W.Frag → Bool} {xi : List Str} {xv : List IniW} {g : Addr → Option Obj} {s : Shared} (h : ∀ a, g a = s.heap.get? a) : obsZ n fa fn tf ex xi g = (hookZ n fa fn tf ex xi xv).obs s := by
  have e : g = s.heap.get? := funext h
  rw [e] <;> rfl
end DN

set_option Elab.async false
set_option linter.all false
set_option maxRecDepth 100000
/-! DE: from the defs' meanings to the law. -/
namespace DN
open PySem PySem.Spec
open L2 hiding It
open PyProof.Rows hiding St

/-- one def of the text: where it stands, its slots, its parameters, its meaning -/
structure Row where
  name : Str
  st : Stmt
  N : List Str
  ps : List Str
  fe : FnE
  gen : Bool
  cl : Option Str
  qual : Str
/-- an own exception's __init__: super().__init__(..), then its fields -/
structure Ini where
  c : Nat
  name : Str
  ks : List Nat
  qual : Str
  params : Arguments
  body : List Stmt
  scope : Scope
  ps : List Str
def Ini.val (r : Ini) : IniW := some ("__init__", r.qual, r.params, .stmts r.body, r.scope)
structure LawT where
  rows : List Row
  glob : List (Str × D)
  blt : List Str
  hp : List (Nat × Nat)
  xcs : List Str
  mtl : List (List Bool)
  xnw : List Nat
  xis : Bool
  at_ : List Str
  inis : List Ini
  cls : List Str
  maks : List (Str × Nat × Nat × Nat)
  mths : List (Str × List (Nat × Nat × Nat))
  okl : List (Nat × Nat)
  obn : List Str
def LawT.okf (L : LawT) (c k : Nat) : Bool := L.okl.any fun q => Nat.beq q.1 c && Nat.beq q.2 k
/-- where a def stands -/
def Row.at_ (r : Row) : Str × Option Str := match r.cl with
  | none => (r.name, none)
  | some c => (c, some r.name)
def LawT.attr (L : LawT) : Nat → Str := fun k => match L.at_[k]? with
  | some x => x
  | none => Str.empty
def xclOf : Nat → List Str → List (Str × Nat)
  | _, [] => []
  | i, x :: xs => (x, i) :: xclOf (i + 1) xs
def mtOf (m : List (List Bool)) (i k : Nat) : Option Bool := match m[i]? with
  | some r => r[k]?
  | none => none
def fnsFrom : Nat → List Row → List (Str × Nat × Nat)
  | _, [] => []
  | i, r :: rs => match r.cl with
    | none => (r.name, i, r.fe.ar) :: fnsFrom (i + 1) rs
    | some _ => fnsFrom (i + 1) rs
def LawT.cc (L : LawT) (fns : List (Str × Nat × Nat)) (r : Row) (C : Calls) (n k : Nat) : Cc := ⟨r.N, defScope r.st, defScope r.st, fns, L.glob, L.blt, L.hp, C, n, k, false, xclOf 0 L.xcs, L.xnw, mtOf L.mtl, none, r.gen, false, L.at_, L.inis.map fun r => (r.c, r.ks), L.xis, L.maks, L.mths, L.okf, L.obn⟩
def LawT.tab (L : LawT) : Nat → Option FnE := fun f => (L.rows[f]?).map (·.fe)
/-- a def that the compile function does not serve promises nothing -/
def bodyOf (o : Option B) : B := match o with
  | some b => b
  | none => fun _ _ => .no
structure RowOk (L : LawT) (fns : List (Str × Nat × Nat)) (r : Row) : Prop where
  body : ∀ C n k, bodyOf (compB (L.cc fns r C n k) (defBody r.st)) = r.fe.body n C
  scope : FnScope r.N r.ps (defScope r.st)
  bind : ∀ (kV doc pm : Value) (an : Option Addr) (cdv ct : Value) (us : List Value), us.length = r.ps.length → bindArgs (PySem.W.fnOf r.name r.qual (defArgs r.st) (defBody r.st) (defScope r.st) .none kV doc pm an cdv ct) ⟨us, []⟩ = pure (r.ps.zip us)
  ar : r.ps.length = r.fe.ar
  sl : r.N.length = r.fe.sl
def Row.defD (r : Row) : He.DefD := ⟨r.at_, r.name, r.qual, defArgs r.st, defBody r.st, defScope r.st, [], []⟩
def LawT.nm (L : LawT) (K : PySem.W.Frag) : Nm := ⟨K, L.attr, fun i => match L.rows[i]? with
  | some r => He.fAd K r.at_
  | none => 0, fun i => match (L.xcs ++ L.cls)[i]? with
  | some x => He.ga K x
  | none => 0, none, fun _ => none, (L.rows.filter (·.gen)).map fun r => (He.cT K r.at_).2⟩
def LawT.tf (L : LawT) : List (Str × Option Str) := (L.rows.filter (·.gen)).map Row.at_
theorem LawT.tbE (L : LawT) (K : PySem.W.Frag) {P : Addr} (h : P ∈ (L.nm K).tb) : ∃ p ∈ L.tf, P = (He.cT K p).2 := by
  obtain ⟨r, hr, e⟩ := List.mem_map.mp (show P ∈ (L.rows.filter (·.gen)).map fun r => (He.cT K r.at_).2 from h)
  exact ⟨_, List.mem_map.mpr ⟨r, hr, rfl⟩, e.symm⟩
/-! ### isinstance of own exceptions: facts -/
def excCB (K : PySem.W.Frag) (x : Str) : Bool := decide (PySem.W.findIn K (.ref (He.ga K x)) "__getattribute__" = some (some (.builtin "BaseException.__getattribute__"))) && (decide (PySem.W.findIn K (.ref (He.ga K x)) "__getattr__" = some none) && (decide (PySem.W.subIn K (.ref (He.ga K x)) (.type "BaseException") = some true) && (PySem.W.hasDictIn K (He.ga K x) &&
  (decide (PySem.W.findIn K (.ref (He.ga K x)) "__class__" = some (some (.builtin "object.__class__"))) && (decide (PySem.W.specialIn K (.builtin "object.__class__") "__get__" = some (some (.builtin "getset_descriptor.__get__"))) && (decide (PySem.W.takesIn K (.builtin "object.__class__") = some true) && decide (PySem.W.mroIn K (He.ga K x) (.type "object") = some true)))))))
theorem excCB_ok {K : PySem.W.Frag} {x : Str} (h : excCB K x = true) : ExcC K (He.ga K x) := by
  obtain ⟨h1, h⟩ := Bool.and_eq_true_iff.mp h
  obtain ⟨h2, h⟩ := Bool.and_eq_true_iff.mp h
  obtain ⟨h3, h⟩ := Bool.and_eq_true_iff.mp h
  obtain ⟨h4, h⟩ := Bool.and_eq_true_iff.mp h
  obtain ⟨h5, h⟩ := Bool.and_eq_true_iff.mp h
  obtain ⟨h6, h⟩ := Bool.and_eq_true_iff.mp h
  obtain ⟨h7, h8⟩ := Bool.and_eq_true_iff.mp h
  exact ⟨of_decide_eq_true h1, of_decide_eq_true h2, of_decide_eq_true h3, h4, of_decide_eq_true h5, of_decide_eq_true h6, of_decide_eq_true h7, of_decide_eq_true h8⟩
def kitB (K : PySem.W.Frag) (x y : Str) (b : Bool) : Bool := decide (PySem.W.kitOne K (.ref (He.ga K x)) (.ref (He.ga K y)) = some b) && decide (PySem.W.kitOne K (.ref (He.ga K x)) (.type "ValueError") = some true)
def xisRow (K : PySem.W.Frag) (x : Str) : List Str → List Bool → Bool
  | y :: ys, b :: bs => kitB K x y b && xisRow K x ys bs
  | _, [] => true
  | [], _ :: _ => false
def xisAll (K : PySem.W.Frag) (all : List Str) : List Str → List (List Bool) → Bool
  | x :: xs, r :: rs => excCB K x && xisRow K x all r && xisAll K all xs rs
  | _, [] => true
  | [], _ :: _ => false
def xisB (K : PySem.W.Frag) (xcs : List Str) (m : List (List Bool)) : Bool := xisAll K xcs xcs m
theorem xisRow_ok {K : PySem.W.Frag} {x : Str} : ∀ {ys : List Str} {bs : List Bool} {k : Nat} {b : Bool}, xisRow K x ys bs = true → bs[k]? = some b → ∃ y, ys[k]? = some y ∧ kitB K x y b = true
  | _, [], _, _, _, e => by simp at e
  | [], _ :: _, _, _, h, _ => by cases h
  | y :: ys, c :: bs, k, b, h, e => by
    obtain ⟨h1, h2⟩ := Bool.and_eq_true_iff.mp h
    cases k with
    | zero =>
      cases e
      exact ⟨y, rfl, h1⟩
    | succ k => exact xisRow_ok (k := k) h2 (by simpa using e)
theorem xisAll_ok {K : PySem.W.Frag} {all : List Str} : ∀ {xs : List Str} {rs : List (List Bool)} {i : Nat} {r : List Bool}, xisAll K all xs rs = true → rs[i]? = some r → ∃ x, xs[i]? = some x ∧ excCB K x = true ∧ xisRow K x all r = true
  | _, [], _, _, _, e => by simp at e
  | [], _ :: _, _, _, h, _ => by cases h
  | x :: xs, c :: rs, i, r, h, e => by
    obtain ⟨h0, h3⟩ := Bool.and_eq_true_iff.mp h
    obtain ⟨h1, h2⟩ := Bool.and_eq_true_iff.mp h0
    cases i with
    | zero =>
      cases e
      exact ⟨x, rfl, h1, h2⟩
    | succ i => exact xisAll_ok (i := i) h3 (by simpa using e)
theorem xisB_ok {K : PySem.W.Frag} {xcs : List Str} {m : List (List Bool)} {i k : Nat} {b : Bool} (h : xisB K xcs m = true) (e : mtOf m i k = some b) : ∃ x y, xcs[i]? = some x ∧ xcs[k]? = some y ∧ ExcC K (He.ga K x) ∧ kitB K x y b = true := by
  unfold mtOf at e
  split at e
  · rename_i r hr
    obtain ⟨x, h1, h2, h3⟩ := xisAll_ok h hr
    obtain ⟨y, h4, h5⟩ := xisRow_ok h3 e
    exact ⟨x, y, h1, h4, excCB_ok h2, h5⟩
  · cases e
structure IniOk (attr : Nat → Str) (r : Ini) : Prop where
  fn : ∀ {P : Program} {w : World} {K : PySem.W.Frag} {mg : Str → Option Value} {base : Heap} {C fI : Addr} {fd : FuncData}, SupC P K C fI fd (r.ks.map attr) → mg "super" = none → (fd.name = "__init__" ∧ fd.qualname = r.qual ∧ fd.params = r.params ∧ fd.body = .stmts r.body ∧ fd.scope = r.scope) → ∀ k, FnOk P w K mg base (L2.CX P w) (k + 1) fI fd r.ps (spX C (r.ks.map attr))
  bind : ∀ (kV doc pm : Value) (an : Option Addr) (cda : Addr) (ct : Value) (cc : Addr) (us : List Value), us.length = r.ps.length → bindArgs (PySem.W.ksFn "__init__" r.qual r.params r.body r.scope .none kV doc pm an (.ref cda) ct cc) ⟨us, []⟩ = pure (r.ps.zip us)
  ne : r.ks ≠ [] ∧ r.ks.length ≤ 1000
/-- the facts of such a class -/
def IniAt (L : LawT) (P : Program) (K : PySem.W.Frag) (r : Ini) : Prop := ∃ fd, SupC P K (He.ga K r.name) (He.ma K (He.ga K r.name) "__init__") fd (r.ks.map L.attr) ∧ XfC K (He.ga K r.name) ∧ (fd.name = "__init__" ∧ fd.qualname = r.qual ∧ fd.params = r.params ∧ fd.body = .stmts r.body ∧ fd.scope = r.scope) ∧ ∃ kV doc pm an cda ct cc, fd = PySem.W.ksFn "__init__" r.qual r.params r.body r.scope .none kV doc pm an (.ref cda) ct cc
theorem xin_at : ∀ {rs : List Ini} {i : Nat} {ks : List Nat}, (rs.map fun r => (r.c, r.ks)).lookup i = some ks → ∃ r ∈ rs, r.c = i ∧ r.ks = ks
  | [], _, _, h => by cases h
  | r :: rs, i, ks, h => by
    rw [List.map_cons, List.lookup_cons] at h
    by_cases e : (i == r.c) = true
    · rw [e] at h
      cases h
      exact ⟨r, by simp, (beq_iff_eq.mp e).symm, rfl⟩
    · have e' : (i == r.c) = false := by simpa using e
      rw [e'] at h
      obtain ⟨r', h1, h2, h3⟩ := xin_at h
      exact ⟨r', by simp [h1], h2, h3⟩
theorem fns_at : ∀ {rs : List Row} {i : Nat} {x : Str} {f ar : Nat}, (fnsFrom i rs).lookup x = some (f, ar) → ∃ j r, f = i + j ∧ rs[j]? = some r ∧ r.name = x ∧ r.cl = none ∧ ar = r.fe.ar
  | [], _, _, _, _, h => by cases h
  | r :: rs, i, x, f, ar, h => by
    unfold fnsFrom at h
    split at h
    · rename_i hc
      rw [List.lookup_cons] at h
      by_cases e : (x == r.name) = true
      · rw [e] at h
        cases h
        exact ⟨0, r, rfl, rfl, (beq_iff_eq.mp e).symm, hc, rfl⟩
      · have e' : (x == r.name) = false := by simpa using e
        rw [e'] at h
        obtain ⟨j, r', e1, e2, e3, e4⟩ := fns_at h
        exact ⟨j + 1, r', by omega, by simpa using e2, e3, e4⟩
    · obtain ⟨j, r', e1, e2, e3, e4⟩ := fns_at h
      exact ⟨j + 1, r', by omega, by simpa using e2, e3, e4⟩
theorem LawT.ca_x {L : LawT} {K : PySem.W.Frag} {i : Nat} {x : Str} (e : L.xcs[i]? = some x) : (L.nm K).ca i = He.ga K x := by
  show (match (L.xcs ++ L.cls)[i]? with | some x => He.ga K x | none => 0) = _
  rw [List.getElem?_append_left (List.getElem?_eq_some_iff.mp e).1, e]
theorem LawT.ca_c {L : LawT} {K : PySem.W.Frag} {i : Nat} {x : Str} (e : (L.xcs ++ L.cls)[i]? = some x) : (L.nm K).ca i = He.ga K x := by
  show (match (L.xcs ++ L.cls)[i]? with | some x => He.ga K x | none => 0) = _
  rw [e]
/-- the classes of the text that are no exceptions: their facts are told -/
structure ClsOk (L : LawT) (fa : List He.Fa) : Prop where
  nd : L.at_.Nodup
  ok : ∀ q ∈ L.okl, ∃ x a, (L.xcs ++ L.cls)[q.1]? = some x ∧ L.at_[q.2]? = some a ∧ He.Fa.cls x ∈ fa ∧ He.Fa.noat x a ∈ fa
  mth : ∀ p ∈ L.mths, p.1 ∉ L.at_ ∧ ∀ q ∈ p.2, ∃ x r, (L.xcs ++ L.cls)[q.1]? = some x ∧ L.rows[q.2.1]? = some r ∧ r.cl = some x ∧ r.name = p.1 ∧ q.2.2 = r.fe.ar ∧ He.Fa.cls x ∈ fa ∧ He.Fa.meth x p.1 ∈ fa
  mak : ∀ p ∈ L.maks, ∃ r, (L.xcs ++ L.cls)[p.2.1]? = some p.1 ∧ L.rows[p.2.2.1]? = some r ∧ r.cl = some p.1 ∧ r.name = "__init__" ∧ p.2.2.2 = r.fe.ar ∧ He.Fa.mkr p.1 ∈ fa ∧ He.Fa.glo p.1 ∈ fa
theorem lookup_memG {α β : Type} [BEq α] [LawfulBEq α] : ∀ {l : List (α × β)} {x : α} {d : β}, l.lookup x = some d → (x, d) ∈ l
  | [], _, _, h => by cases h
  | (y, e) :: l, x, d, h => by
    rw [List.lookup_cons] at h
    by_cases z : (x == y) = true
    · rw [z] at h
      cases h
      rw [beq_iff_eq.mp z]
      exact List.mem_cons_self
    · have z' : (x == y) = false := by simpa using z
      rw [z'] at h
      exact List.mem_cons_of_mem _ (lookup_memG h)
theorem xcl_at : ∀ {xs : List Str} {i : Nat} {x : Str} {c : Nat}, (xclOf i xs).lookup x = some c → ∃ j, c = i + j ∧ xs[j]? = some x
  | [], _, _, _, h => by cases h
  | y :: ys, i, x, c, h => by
    unfold xclOf at h
    rw [List.lookup_cons] at h
    by_cases e : (x == y) = true
    · rw [e] at h
      cases h
      exact ⟨0, rfl, by rw [beq_iff_eq.mp e]; rfl⟩
    · have e' : (x == y) = false := by simpa using e
      rw [e'] at h
      obtain ⟨j, e1, e2⟩ := xcl_at h
      exact ⟨j + 1, by omega, by simpa using e2⟩
section
variable {L : LawT} {P : Program} {wd : World} {K : PySem.W.Frag} {mg : Str → Option Value} {base : Heap} {fa : List He.Fa} {fn : List He.DefD}
/-- all defs keep their promises, at every depth -/
theorem LawT.key (c : He.SaysD fa fn K) (hfn : fn = L.rows.map Row.defD) (i : Nat) (r : Row) (h : L.rows[i]? = some r) : ∃ fd, FunD K r.name r.qual (defArgs r.st) (defBody r.st) (defScope r.st) [] [] (He.fAd K r.at_) fd := by
  have h2 : fn[i]? = some r.defD := by rw [hfn, List.getElem?_map, h]; rfl
  obtain ⟨fd, F⟩ := c.def_ i (d := r.defD) h2
  exact ⟨fd, F⟩
theorem LawT.fact (c : He.SaysD fa fn K) : ∀ f ∈ fa, f.ok K = true := fun f h => by
  obtain ⟨i, hi, e⟩ := List.mem_iff_getElem.mp h
  exact c.fact i (f := f) (by rw [List.getElem?_eq_getElem hi, e])
theorem LawT.all (ok : ∀ r ∈ L.rows, RowOk L (fnsFrom 0 L.rows) r) (X : K.In base) (G : base.Ns mainGlobals mg) (c : He.SaysD fa fn K) (hfn : fn = L.rows.map Row.defD) (hfa : ∀ r ∈ L.rows, r.cl = none → He.Fa.glo r.name ∈ fa) (hfb : ∀ x ∈ L.blt, He.Fa.free x ∈ fa) (hfx : ∀ x ∈ L.xcs, He.Fa.glo x ∈ fa) (hfnw : ∀ i ∈ L.xnw, ∃ x, L.xcs[i]? = some x ∧ He.Fa.exc x ∈ fa) (hfm : ∀ i k b, mtOf L.mtl i k = some b → ∃ x y, L.xcs[i]? = some x ∧ L.xcs[k]? = some y ∧ He.Fa.exm x y b ∈ fa)
    (hgl : ∀ x d, L.glob.lookup x = some d → ∃ v u, mg x = some u ∧ RelV v u ∧ ∀ w, Rep (L.nm K) w d v) (hxi : L.xis = true → xisB K L.xcs L.mtl = true) (hT : ∀ r ∈ L.rows, r.gen = true → GxR.TabB base mg (He.cT K r.at_).1 (He.cT K r.at_).2) (hin : ∀ r ∈ L.inis, IniOk L.attr r ∧ L.xcs[r.c]? = some r.name) (hia : ∀ r ∈ L.inis, IniAt L P K r ∧ mg "super" = none) (hcl : ClsOk L fa) (n : Nat) : ∀ (d i : Nat) (r : Row) (fd : FuncData), L.rows[i]? = some r →
    FunD K r.name r.qual (defArgs r.st) (defBody r.st) (defScope r.st) [] [] (He.fAd K r.at_) fd →
    FnOk P wd K mg base (L2.CX P wd) (2 * d + 3) (He.fAd K r.at_) fd r.ps (spC (L.nm K) (callF L.tab n d) r.fe.ar i) := by
  intro d
  induction d with
  | zero =>
    intro i r fd h F
    have hr := ok r (List.mem_of_getElem? h)
    refine ⟨fun vs H Q E q => ?_, fun A outer s H args us vs Q E _ _ _ _ q => ?_⟩
    · obtain ⟨_, _, _, _, _, _, p⟩ := q
      rw [callF_0] at p
      exact p.elim
    · obtain ⟨_, _, _, _, _, _, p⟩ := q
      rw [callF_0] at p
      exact p.elim
  | succ d ih =>
    intro i r fd h F
    have hr := ok r (List.mem_of_getElem? h)
    refine fn_sound (k := 2 * d + 4) (n := n) (C := callF L.tab n d) F hr.scope hr.ar hr.sl rfl (fun ds hh => ?_) (fun cdv A outer s H E hcd rm tk po => ?_)
    · have e : L.tab i = some r.fe := by
        unfold LawT.tab
        rw [h]
        rfl
      exact callF_s e ds hh
    · have hb := hr.body (callF L.tab n d) n d
      cases ec : compB (L.cc (fnsFrom 0 L.rows) r (callF L.tab n d) n d) (defBody r.st) with
      | none =>
        rw [ec] at hb
        rw [← hb]
        exact ⟨fun _ _ _ _ _ _ t => t.elim fun _ z => z.elim fun _ z => z.elim fun _ z => z.2.2.elim⟩
      | some bb =>
      rw [ec] at hb
      rw [← hb]
      refine compB_ok (N := L.nm K) (c := L.cc (fnsFrom 0 L.rows) r (callF L.tab n d) n d) ?_ tk po ⟨rfl, rfl⟩ ec
      refine { sl := rfl, nd := hr.scope.nd, sc := rfl, K := rfl, glo := hgl, fns := ?_, blt := ?_, calm := fun _ => rfl, room := fun _ => rm.mono (Nat.le_succ _), slk := fun _ _ => rm, tab := fun hg => ?_, att := fun k x e => (by show (match L.at_[k]? with | some x => x | none => Str.empty) = x; rw [show L.at_[k]? = some x from e]), exc := fun y ci fs z => (by cases z), xkt := ?_, xin := ?_, atn := hcl.nd, okf := ?_, mth := ?_, mak := ?_, xe0 := fun _ => rfl, un := rm.units, cold := fun _ => ⟨rfl, fun _ => rfl⟩, mt := ?_, xcl := ?_, xnw := ?_, ss := fun x => ⟨fun q => q, fun q => ⟨q, rfl⟩⟩ }
      · intro _ x f ar q
        obtain ⟨j, r', e1, e2, e3, e5, e4⟩ := fns_at q
        obtain ⟨fd', F'⟩ := LawT.key c hfn j r' e2
        have hr' := ok r' (List.mem_of_getElem? e2)
        have ef : f = j := by omega
        subst ef
        have eat : He.fAd K r'.at_ = He.ga K r'.name := by
          unfold Row.at_
          rw [e5]
          rfl
        have en : (L.nm K).fa f = He.fAd K r'.at_ := by
          show (match L.rows[f]? with | some r => He.fAd K r.at_ | none => 0) = _
          rw [e2]
        have g1 := He.glo_ok X G (LawT.fact c _ (hfa r' (List.mem_of_getElem? e2) e5))
        rw [← eat] at g1
        rw [en, ← e3, e4]
        exact ⟨fd', r'.ps, g1, F'.kp, F'.bindsN hr'.bind, ih f r' fd' e2 F'⟩
      · intro x q
        exact He.free_ok X G (LawT.fact c _ (hfb x q))
      · obtain ⟨hc1, oc, od, osl, lk, hc2⟩ := hcd
        obtain ⟨cc, ec⟩ := He.codeIn_ref hc1
        refine ⟨(He.cT K r.at_).1, (He.cT K r.at_).2, List.mem_map.mpr ⟨r, List.mem_filter.mpr ⟨List.mem_of_getElem? h, hg⟩, rfl⟩, hT r (List.mem_of_getElem? h) hg, ?_⟩
        show cdv = _
        have z : He.codeOf K r.at_ = cc := He.codeOf_eq (p := r.at_) lk (hc2.trans ec)
        show cdv = .ref (He.codeOf K r.at_)
        rw [z, ec]
      · intro hx i k b q
        obtain ⟨x, y, e1, e2, e3, e4⟩ := xisB_ok (hxi hx) q
        have en : (L.nm K).ca i = He.ga K x := LawT.ca_x e1
        have en2 : (L.nm K).ca k = He.ga K y := LawT.ca_x e2
        rw [en, en2]
        unfold kitB at e4
        rw [Bool.and_eq_true] at e4
        exact ⟨e3, of_decide_eq_true e4.1, of_decide_eq_true e4.2⟩
      · intro i ks q
        obtain ⟨r', hr', e1, e2⟩ := xin_at q
        obtain ⟨i1, i2⟩ := hin r' hr'
        obtain ⟨⟨fd', S, xf, nm', kV, doc, pm, an, cda, ct, cc, efd⟩, hm⟩ := hia r' hr'
        have en : (L.nm K).ca i = He.ga K r'.name := LawT.ca_x (by rw [← e1]; exact i2)
        rw [en, ← e2]
        refine ⟨i1.ne.1, i1.ne.2, xf, fun k hk => S.no _ (List.mem_map.mpr ⟨k, hk, rfl⟩), S.t, _, fd', r'.ps, S.init, S.ty, ?_, fun k => i1.fn S hm nm' k⟩
        subst efd
        exact .all fun us hl => i1.bind kV doc pm an cda ct cc us hl
      · intro ci k q
        obtain ⟨p, hp, e⟩ := List.any_eq_true.mp q
        rw [Bool.and_eq_true] at e
        have e1 := Nat.eq_of_beq_eq_true e.1
        have e2 := Nat.eq_of_beq_eq_true e.2
        obtain ⟨x, a, z1, z2, z3, z4⟩ := hcl.ok p hp
        rw [e1] at z1
        rw [e2] at z2
        have ea : (L.nm K).attr k = a := by
          show (match L.at_[k]? with | some x => x | none => Str.empty) = a
          rw [z2]
        rw [LawT.ca_c z1, ea]
        exact ⟨He.cls_ok (LawT.fact c _ z3), He.noat_ok (LawT.fact c _ z4)⟩
      · intro m l q
        obtain ⟨n1, n2⟩ := hcl.mth _ (lookup_memG q)
        refine ⟨fun i hi e => n1 ?_, fun _ ci f ar q2 => ?_⟩
        · obtain ⟨a, ea⟩ : ∃ a, L.at_[i]? = some a := ⟨_, List.getElem?_eq_getElem hi⟩
          have e3 : (L.nm K).attr i = a := by
            show (match L.at_[i]? with | some x => x | none => Str.empty) = a
            rw [ea]
          rw [e3] at e
          subst e
          exact List.mem_of_getElem? ea
        · obtain ⟨x, r', z1, z2, z3, z4, z5, z6, z7⟩ := n2 _ (lookup_memG q2)
          obtain ⟨fd', F'⟩ := LawT.key c hfn f r' z2
          have hr' := ok r' (List.mem_of_getElem? z2)
          have eat : He.fAd K r'.at_ = He.ma K (He.ga K x) m := by
            unfold Row.at_
            rw [z3, z4]
            rfl
          have en : (L.nm K).fa f = He.fAd K r'.at_ := by
            show (match L.rows[f]? with | some r => He.fAd K r.at_ | none => 0) = _
            rw [z2]
          have z5 : ar = r'.fe.ar := z5
          have g := He.meth_ok (LawT.fact c _ z7)
          rw [← eat] at g
          rw [LawT.ca_c z1, en, z5]
          exact ⟨He.cls_ok (LawT.fact c _ z6), g, fd', r'.ps, ih f r' fd' z2 F', F'.bindsN hr'.bind⟩
      · intro _ x ci f ar q
        obtain ⟨r', z1, z2, z3, z4, z5, z6, z7⟩ := hcl.mak _ (lookup_memG q)
        obtain ⟨fd', F'⟩ := LawT.key c hfn f r' z2
        have hr' := ok r' (List.mem_of_getElem? z2)
        have eat : He.fAd K r'.at_ = He.ma K (He.ga K x) "__init__" := by
          unfold Row.at_
          rw [z3, z4]
          rfl
        have en : (L.nm K).fa f = He.fAd K r'.at_ := by
          show (match L.rows[f]? with | some r => He.fAd K r.at_ | none => 0) = _
          rw [z2]
        have z5 : ar = r'.fe.ar := z5
        have g := He.mkr_ok (LawT.fact c _ z6)
        rw [← eat] at g
        rw [LawT.ca_c z1, en, z5]
        exact ⟨He.glo_ok X G (LawT.fact c _ z7), g, fd', r'.ps, ih f r' fd' z2 F', F'.bindsN hr'.bind⟩
      · intro i k b q
        obtain ⟨x, y, e1, e2, e3⟩ := hfm i k b q
        have en : (L.nm K).ca i = He.ga K x := LawT.ca_x e1
        have en2 : (L.nm K).ca k = He.ga K y := LawT.ca_x e2
        rw [en, en2]
        exact He.exm_ok (LawT.fact c _ e3)
      · intro x i q
        obtain ⟨j, e1, e2⟩ := xcl_at q
        have ei : i = j := by omega
        subst ei
        have f1 := hfx x (List.mem_of_getElem? e2)
        have en : (L.nm K).ca i = He.ga K x := LawT.ca_x e2
        rw [en]
        exact He.glo_ok X G (LawT.fact c _ f1)
      · intro i q
        obtain ⟨x, e2, f2⟩ := hfnw i q
        have en : (L.nm K).ca i = He.ga K x := LawT.ca_x e2
        obtain ⟨g1, g2, g3, g4⟩ := He.exc_ok (LawT.fact c _ f2)
        rw [en]
        exact ⟨g1, g2, raises_own g3 g4⟩
end
/-- the law of a text: its meaning is true -/
theorem LawT.holds {L : LawT} {l : PySem.W.OpenLaw} {n k il : Nat} {q : Program} {loose : List Str} {XP : (Str → Option Value) → Heap → Prop} {d : DefRec} {x : Str} {rl : Row} {nn : Nat} {fa : List He.Fa} {fn : List He.DefD} {tf : List (Str × Option Str)} {ex : PySem.W.Frag → Bool} {xi : List Str} {xv : List IniW}
    (hn : l.most = some n) (hn2 : n ≤ sizeLine) (hdf : d.params.defaults = []) (hr : Room (2 * k + 3) callerA) (hd : d.name = "law") (hil : L.rows[il]? = some rl) (hnm : rl.name = "law") (hlc : rl.cl = none) (hps : rl.ps = [x])
    (ok : ∀ r ∈ L.rows, RowOk L (fnsFrom 0 L.rows) r) (hfn : fn = L.rows.map Row.defD) (htf : tf = L.tf) (hfa : ∀ r ∈ L.rows, r.cl = none → He.Fa.glo r.name ∈ fa) (hfb : ∀ x ∈ L.blt, He.Fa.free x ∈ fa) (hfx : ∀ x ∈ L.xcs, He.Fa.glo x ∈ fa) (hfnw : ∀ i ∈ L.xnw, ∃ x, L.xcs[i]? = some x ∧ He.Fa.exc x ∈ fa) (hfm : ∀ i k b, mtOf L.mtl i k = some b → ∃ x y, L.xcs[i]? = some x ∧ L.xcs[k]? = some y ∧ He.Fa.exm x y b ∈ fa)
    (hxi : L.xis = true → ∀ K : PySem.W.Frag, ex K = true → xisB K L.xcs L.mtl = true)
    (hgl : ∀ (K : PySem.W.Frag) (mg : Str → Option Value) (base : Heap), K.In base → base.Ns mainGlobals mg → He.SaysD fa fn K → ex K = true → ∀ x d, L.glob.lookup x = some d → ∃ v u, mg x = some u ∧ RelV v u ∧ ∀ w, Rep (L.nm K) w d v)
    (hin : ∀ r ∈ L.inis, IniOk L.attr r ∧ L.xcs[r.c]? = some r.name) (hsb : ∀ r ∈ L.inis, ("super" : Str) ∈ L.blt ∧ (l.prog.main.scope.names.lookup ("super" : Str)).isSome = false ∧ ∀ K : PySem.W.Frag, ex K = true → supB K l.prog.main.file r.name (r.ks.map L.attr) = true) (hxi2 : xi = L.inis.map (·.name)) (hxv : xv = L.inis.map Ini.val) (hcl : ClsOk L fa)
    (law : ∀ ns : List Int, ns.length ≤ n → ∃ m h, callF L.tab m k il [.sl (ns.map .int)] [] = .ok (.bl true) h) :
    PySem.W.WalkO q loose XP (hookZ nn fa fn tf ex xi xv).says l.row.toRowW d [] (fun f vs => PySem.call f vs) := by
  subst htf
  refine LamX.walk_ofTsE (CX := fun w => L2.CX l.prog w) hn hn2 hdf hr (x := x) (fun w mg fa' h Y G hmg => ?_) fun w H s e s' ⟨_, _, _, _, _, _, _, _, _, _, _, _, z⟩ => z
  obtain ⟨K, KX, cX, cI⟩ := Y
  have c : He.SaysD fa fn K := cX.t.d
  have cx := cX.more
  obtain ⟨fd, Fl⟩ := LawT.key c hfn il rl hil
  have hrl := ok rl (List.mem_of_getElem? hil)
  have b2 := Fl.bindsA hrl.bind
  have b3 := He.glo_ok KX G (LawT.fact c _ (hfa rl (List.mem_of_getElem? hil) hlc))
  have eat : He.fAd K rl.at_ = He.ga K rl.name := by
    unfold Row.at_
    rw [hlc]
    rfl
  rw [← eat] at b3
  have efa : fa' = He.fAd K rl.at_ := by
    have e := hmg.symm.trans ((by rw [hd, ← hnm] : mg d.name = mg rl.name).trans b3)
    cases e
    rfl
  subst efa
  refine ⟨K, KX, fd, L.tf.map (He.cT K), fun vs H Q E => ∃ m, spC (L.nm K) (callF L.tab m k) rl.fe.ar il vs H Q E, fun p hp => ?_, fun p hp => ?_, fun p hp => ?_, fun s u => ?_, fun H a ns hl hbits hHT hS => ?_, fun base KB GB hTB => ?_⟩
  · obtain ⟨q, hq, e⟩ := List.mem_map.mp hp
    rw [← e]
    exact cX.empty q hq
  · obtain ⟨q, hq, e⟩ := List.mem_map.mp hp
    rw [← e]
    exact cX.out q hq
  · obtain ⟨q, hq, e⟩ := List.mem_map.mp hp
    rw [← e]
    exact PySem.W.codeHd_of_K KX (cX.hd q hq)
  · have z := b2 s [u] (by rw [hps]; rfl)
    rw [hps] at z
    exact z
  · obtain ⟨m, h', e⟩ := law ns hl
    have har : rl.fe.ar = 1 := by
      rw [← (ok rl (List.mem_of_getElem? hil)).ar, hps]
      rfl
    have htb : ∀ P ∈ (L.nm K).tb, H P = some (.tbl #[]) := fun P hP => by
      obtain ⟨p, hp, e⟩ := L.tbE K hP
      rw [e]
      exact hHT _ (List.mem_map.mpr ⟨p, hp, rfl⟩)
    have core : ∀ im : Hp, (∀ b o, im b = some o → H b = some o) → (∀ P ∈ (L.nm K).tb, im P = none) → ScrAt (L.nm K) ⟨[], im, fun _ => none⟩ a (ns.map V.int) → spC (L.nm K) (callF L.tab m k) rl.fe.ar il [.ref a] H (fun v _ => v = .bl true) fun _ _ _ => False := fun im h1 h2 h3 => by
      refine ⟨⟨[], im, fun _ => none⟩, [], [.sl (ns.map .int)], ?_, ?_, har.symm, ?_⟩
      · refine ⟨fun b o e => h1 b o e, fun b o e => (by cases e), rfl, List.nodup_nil, fun b hb => (by cases hb), fun i b o e1 e2 => (by simp at e2), fun b o e => (by cases e), fun P hP => ⟨⟨h2 P hP, rfl⟩, #[], htb P hP, trivial⟩⟩
      · refine ⟨.ref a, [], rfl, ⟨a, ns.map V.int, rfl, h3, ?_⟩, rfl⟩
        clear hl hbits hS e h3
        induction ns with
        | nil => rfl
        | cons i ns ih => exact ⟨.int i, _, rfl, rfl, ih⟩
      · rw [e]
        exact fun w' H' v _ _ q => q
    refine ⟨m, ?_⟩
    rcases hS with (hS | ⟨o, hS⟩) | hS
    · refine core (fun b => if b = a then H a else none) (fun b o e => ?_) (fun P hP => ?_) (.inr (.inl ?_))
      · have e : (if b = a then H a else none) = some o := e
        by_cases hb : b = a
        · rw [if_pos hb] at e
          rw [hb]
          exact e
        · rw [if_neg hb] at e
          cases e
      · show (if P = a then H a else none) = none
        by_cases hb : P = a
        · have z := htb P hP
          rw [hb, hS] at z
          cases z
        · rw [if_neg hb]
      · show (if a = a then H a else none) = _
        rw [if_pos rfl]
        exact hS
    · refine core (fun b => if b = a then H a else none) (fun b o e => ?_) (fun P hP => ?_) (.inl ⟨o, ?_⟩)
      · have e : (if b = a then H a else none) = some o := e
        by_cases hb : b = a
        · rw [if_pos hb] at e
          rw [hb]
          exact e
        · rw [if_neg hb] at e
          cases e
      · show (if P = a then H a else none) = none
        by_cases hb : P = a
        · have z := htb P hP
          rw [hb, hS] at z
          cases z
        · rw [if_neg hb]
      · show (if a = a then H a else none) = _
        rw [if_pos rfl]
        exact hS
    · exact core (fun _ => none) (fun b o e => by cases e) (fun P hP => rfl) (.inr (.inr (.inr hS)))
  · have hT : ∀ r ∈ L.rows, r.gen = true → GxR.TabB base mg (He.cT K r.at_).1 (He.cT K r.at_).2 := fun r hr hg => by
      have z := hTB (He.cT K r.at_) (List.mem_map.mpr ⟨r.at_, List.mem_map.mpr ⟨r, List.mem_filter.mpr ⟨hr, hg⟩, rfl⟩, rfl⟩)
      exact ⟨z.code, z.bm, z.gP⟩
    have hia : ∀ r ∈ L.inis, IniAt L l.prog K r ∧ mg "super" = none := fun r hr => by
      obtain ⟨s1, s2, s3⟩ := hsb r hr
      have cI2 : (L.inis.map fun r => iniW K r.name) = L.inis.map Ini.val := by
        rw [hxi2, hxv, List.map_map] at cI
        exact cI
      have w := List.map_inj_left.mp cI2 r hr
      exact ⟨supB_ok (s3 K cx) w s2, He.free_ok KB GB (LawT.fact c _ (hfb _ s1))⟩
    have FO := fun m => LawT.all (P := l.prog) (wd := w) ok KB GB c hfn hfa hfb hfx hfnw hfm (hgl K mg base KB GB c cx) (fun z => hxi z K cx) hT hin hia hcl m k il rl fd hil Fl
    rw [← hps]
    exact ⟨fun vs H Q E ⟨m, q⟩ => (FO m).len vs H Q E q, fun A outer s H args us vs Q E rm e0 bt va ⟨m, q⟩ => (FO m).run A outer s H args us vs Q E rm e0 bt va q⟩
theorem lookup_mem : ∀ {l : List (Str × D)} {x : Str} {d : D}, l.lookup x = some d → (x, d) ∈ l
  | [], _, _, h => by cases h
  | (y, e) :: l, x, d, h => by
    rw [List.lookup_cons] at h
    by_cases z : (x == y) = true
    · rw [z] at h
      cases h
      rw [beq_iff_eq.mp z]
      exact List.mem_cons_self
    · have z' : (x == y) = false := by simpa using z
      rw [z'] at h
      exact List.mem_cons_of_mem _ (lookup_mem h)
/-- a value of the module as plain data -/
def GlobAt (N : Nm) (mg : Str → Option Value) (x : Str) (d : D) : Prop := ∃ v u, mg x = some u ∧ RelV v u ∧ ∀ w, Rep N w d v
theorem glob_int {N : Nm} {K : PySem.W.Frag} {mg : Str → Option Value} {base : Heap} {x : Str} {i : Int} (X : K.In base) (G : base.Ns mainGlobals mg) (c : (He.Fa.int x i).ok K = true) : GlobAt N mg x (.int i) := by
  obtain ⟨t, e⟩ := He.int_ok X G c
  exact ⟨.int i, _, e, ⟨t, rfl⟩, fun w => rfl⟩
theorem glob_str {N : Nm} {K : PySem.W.Frag} {mg : Str → Option Value} {base : Heap} {x z : Str} (X : K.In base) (G : base.Ns mainGlobals mg) (c : (He.Fa.str x z).ok K = true) : GlobAt N mg x (.str z.cps.toList) := by
  obtain ⟨t, e⟩ := He.str_ok X G c
  refine ⟨.str z, _, e, ⟨t, rfl⟩, fun w => ?_⟩
  show V.str z = .str (toS z.cps.toList)
  rw [toS_of]
/-! ### global tuples -/
def dvD : He.Dv → D
  | .non => .non
  | .bl b => .bl b
  | .int i => .int i
  | .str x => .str x.cps.toList
  | _ => .xc 0 []
def dvOk : He.Dv → Bool
  | .non => true
  | .bl _ => true
  | .int _ => true
  | .str _ => true
  | _ => false
theorem reps_dv {N : Nm} {w : Wd} {K : PySem.W.Frag} : ∀ (vs : List He.Dv), vs.all dvOk = true → Reps N w (vs.map dvD) (vs.map (He.Dv.v K))
  | [], _ => rfl
  | v :: vs, h => by
    rw [List.all_cons, Bool.and_eq_true] at h
    refine ⟨v.v K, _, rfl, ?_, reps_dv vs h.2⟩
    cases v with
    | non => rfl
    | bl b => rfl
    | int i => rfl
    | str x =>
      show V.str x = .str (toS x.cps.toList)
      rw [toS_of]
    | byt _ => exact Bool.noConfusion h.1
    | flt _ => exact Bool.noConfusion h.1
    | ty _ => exact Bool.noConfusion h.1
    | glo _ => exact Bool.noConfusion h.1
    | adr _ => exact Bool.noConfusion h.1
theorem glob_tup {L : LawT} {K : PySem.W.Frag} {mg : Str → Option Value} {base : Heap} {x : Str} {vs : List He.Dv} (X : K.In base) (G : base.Ns mainGlobals mg) (g : (He.Fa.glo x).ok K = true) (c : He.tupB K x vs = true) (h : vs.all dvOk = true) : GlobAt (L.nm K) mg x (.tup (vs.map dvD)) :=
  ⟨.ref (He.ga K x), .ref (He.ga K x), He.glo_ok X G g, rfl, fun w => ⟨_, _, rfl, .inr (He.tupB_ok c _), reps_dv vs h⟩⟩
/-! all places of a table of flags -/
def rowAll (P : Nat → Bool → Prop) : Nat → List Bool → Prop
  | _, [] => True
  | k, b :: bs => P k b ∧ rowAll P (k + 1) bs
def matAll (P : Nat → Nat → Bool → Prop) : Nat → List (List Bool) → Prop
  | _, [] => True
  | i, r :: rs => rowAll (P i) 0 r ∧ matAll P (i + 1) rs
theorem rowAll_at {P : Nat → Bool → Prop} : ∀ {bs : List Bool} {j k : Nat} {b : Bool}, rowAll P j bs → bs[k]? = some b → P (j + k) b
  | [], _, _, _, _, e => by simp at e
  | c :: bs, j, 0, b, h, e => by
    cases e
    exact h.1
  | c :: bs, j, k + 1, b, h, e => by
    have z := rowAll_at (k := k) h.2 (by simpa using e)
    rw [show j + (k + 1) = j + 1 + k by omega]
    exact z
theorem matAll_at {P : Nat → Nat → Bool → Prop} : ∀ {rs : List (List Bool)} {j i : Nat} {r : List Bool}, matAll P j rs → rs[i]? = some r → rowAll (P (j + i)) 0 r
  | [], _, _, _, _, e => by simp at e
  | c :: rs, j, 0, r, h, e => by
    cases e
    exact h.1
  | c :: rs, j, i + 1, r, h, e => by
    have z := matAll_at (i := i) h.2 (by simpa using e)
    rw [show j + (i + 1) = j + 1 + i by omega]
    exact z
theorem mt_all {P : Nat → Nat → Bool → Prop} {m : List (List Bool)} (h : matAll P 0 m) (i k : Nat) (b : Bool) (e : mtOf m i k = some b) : P i k b := by
  unfold mtOf at e
  split at e
  · rename_i r hr
    have z := rowAll_at (matAll_at h hr) e
    rw [Nat.zero_add, Nat.zero_add] at z
    exact z
  · cases e
end DN

set_option Elab.async false
set_option linter.all false
set_option maxRecDepth 100000
set_option maxHeartbeats 0
namespace Hd
open PySem PySem.Spec PyProof.Rows L2
def top (i : Nat) : Stmt := PySem.Challenge.pw_sinktree_k00_errors.main.body.getD i (.Pass ⟨0, 0, 0, 0⟩)
def d0 : He.DefD := ⟨("_law_cell", none), "_law_cell", "_law_cell", defArgs (top 12), defBody (top 12), defScope (top 12), [], []⟩
def d1 : He.DefD := ⟨("_law_draws", none), "_law_draws", "_law_draws", defArgs (top 13), defBody (top 13), defScope (top 13), [], []⟩
def d2 : He.DefD := ⟨("_law_next", none), "_law_next", "_law_next", defArgs (top 14), defBody (top 14), defScope (top 14), [], []⟩
def d3 : He.DefD := ⟨("_law_kinds", none), "_law_kinds", "_law_kinds", defArgs (top 15), defBody (top 15), defScope (top 15), [], []⟩
def d4 : He.DefD := ⟨("law", none), "law", "law", defArgs (top 16), defBody (top 16), defScope (top 16), [], []⟩
def fn0 : List He.DefD := [d0, d1, d2, d3, d4]
def fn : List He.DefD := fn0
def fa0 : List He.Fa := [.glo "SinkError", .glo "BadSchema", .glo "BadProgram", .glo "BadText", .glo "BadCode", .glo "BadKey", .glo "BadRecord", .glo "DiskError", .glo "DiskCrashed", .glo "DiskFull", .glo "_law_cell", .glo "_law_draws", .glo "_law_next", .glo "_law_kinds", .glo "law", .exc "SinkError", .exc "BadSchema", .exc "BadKey", .exc "BadRecord", .exc "DiskError", .exc "DiskCrashed", .exc "DiskFull", .exm "SinkError" "SinkError" true, .exm "SinkError" "BadSchema" false, .exm "SinkError" "BadProgram" false, .exm "SinkError" "BadText" false, .exm "SinkError" "BadCode" false, .exm "SinkError" "BadKey" false, .exm "SinkError" "BadRecord" false, .exm "SinkError" "DiskError" false]
def fa1 : List He.Fa := [.exm "SinkError" "DiskCrashed" false, .exm "SinkError" "DiskFull" false, .exm "BadSchema" "SinkError" true, .exm "BadSchema" "BadSchema" true, .exm "BadSchema" "BadProgram" false, .exm "BadSchema" "BadText" false, .exm "BadSchema" "BadCode" false, .exm "BadSchema" "BadKey" false, .exm "BadSchema" "BadRecord" false, .exm "BadSchema" "DiskError" false, .exm "BadSchema" "DiskCrashed" false, .exm "BadSchema" "DiskFull" false, .exm "BadProgram" "SinkError" true, .exm "BadProgram" "BadSchema" false, .exm "BadProgram" "BadProgram" true, .exm "BadProgram" "BadText" false, .exm "BadProgram" "BadCode" false, .exm "BadProgram" "BadKey" false, .exm "BadProgram" "BadRecord" false, .exm "BadProgram" "DiskError" false, .exm "BadProgram" "DiskCrashed" false, .exm "BadProgram" "DiskFull" false, .exm "BadText" "SinkError" true, .exm "BadText" "BadSchema" false, .exm "BadText" "BadProgram" false, .exm "BadText" "BadText" true, .exm "BadText" "BadCode" false, .exm "BadText" "BadKey" false, .exm "BadText" "BadRecord" false, .exm "BadText" "DiskError" false]
def fa2 : List He.Fa := [.exm "BadText" "DiskCrashed" false, .exm "BadText" "DiskFull" false, .exm "BadCode" "SinkError" true, .exm "BadCode" "BadSchema" false, .exm "BadCode" "BadProgram" false, .exm "BadCode" "BadText" false, .exm "BadCode" "BadCode" true, .exm "BadCode" "BadKey" false, .exm "BadCode" "BadRecord" false, .exm "BadCode" "DiskError" false, .exm "BadCode" "DiskCrashed" false, .exm "BadCode" "DiskFull" false, .exm "BadKey" "SinkError" true, .exm "BadKey" "BadSchema" false, .exm "BadKey" "BadProgram" false, .exm "BadKey" "BadText" false, .exm "BadKey" "BadCode" false, .exm "BadKey" "BadKey" true, .exm "BadKey" "BadRecord" false, .exm "BadKey" "DiskError" false, .exm "BadKey" "DiskCrashed" false, .exm "BadKey" "DiskFull" false, .exm "BadRecord" "SinkError" true, .exm "BadRecord" "BadSchema" false, .exm "BadRecord" "BadProgram" false, .exm "BadRecord" "BadText" false, .exm "BadRecord" "BadCode" false, .exm "BadRecord" "BadKey" false, .exm "BadRecord" "BadRecord" true, .exm "BadRecord" "DiskError" false]
def fa3 : List He.Fa := [.exm "BadRecord" "DiskCrashed" false, .exm "BadRecord" "DiskFull" false, .exm "DiskError" "SinkError" true, .exm "DiskError" "BadSchema" false, .exm "DiskError" "BadProgram" false, .exm "DiskError" "BadText" false, .exm "DiskError" "BadCode" false, .exm "DiskError" "BadKey" false, .exm "DiskError" "BadRecord" false, .exm "DiskError" "DiskError" true, .exm "DiskError" "DiskCrashed" false, .exm "DiskError" "DiskFull" false, .exm "DiskCrashed" "SinkError" true, .exm "DiskCrashed" "BadSchema" false, .exm "DiskCrashed" "BadProgram" false, .exm "DiskCrashed" "BadText" false, .exm "DiskCrashed" "BadCode" false, .exm "DiskCrashed" "BadKey" false, .exm "DiskCrashed" "BadRecord" false, .exm "DiskCrashed" "DiskError" false, .exm "DiskCrashed" "DiskCrashed" true, .exm "DiskCrashed" "DiskFull" false, .exm "DiskFull" "SinkError" true, .exm "DiskFull" "BadSchema" false, .exm "DiskFull" "BadProgram" false, .exm "DiskFull" "BadText" false, .exm "DiskFull" "BadCode" false, .exm "DiskFull" "BadKey" false, .exm "DiskFull" "BadRecord" false, .exm "DiskFull" "DiskError" false]
def fa4 : List He.Fa := [.exm "DiskFull" "DiskCrashed" false, .exm "DiskFull" "DiskFull" true, .free "ValueError", .free "abs", .free "int", .free "isinstance", .free "len", .free "range", .free "super"]
def fa : List He.Fa := fa0 ++ fa1 ++ fa2 ++ fa3 ++ fa4
def loose0 : List PySem.Str := ["__name__", "SinkError", "BadSchema", "BadProgram", "BadText", "BadCode", "BadKey", "BadRecord", "DiskError", "DiskCrashed", "DiskFull", "_law_cell", "_law_draws", "_law_next", "_law_kinds"]
def loose : List PySem.Str := loose0
abbrev R : PySem.W.OpenRow := PySem.W.OpenLaw.row PySem.Challenge.rw_sinktree_k00_errors
def exs (K : PySem.W.Frag) : List Bool := [DN.xisB K ["SinkError", "BadSchema", "BadProgram", "BadText", "BadCode", "BadKey", "BadRecord", "DiskError", "DiskCrashed", "DiskFull"] [[true, false, false, false, false, false, false, false, false, false], [true, true, false, false, false, false, false, false, false, false], [true, false, true, false, false, false, false, false, false, false], [true, false, false, true, false, false, false, false, false, false], [true, false, false, false, true, false, false, false, false, false], [true, false, false, false, false, true, false, false, false, false], [true, false, false, false, false, false, true, false, false, false], [true, false, false, false, false, false, false, true, false, false], [true, false, false, false, false, false, false, false, true, false], [true, false, false, false, false, false, false, false, false, true]], DN.supB K PySem.Challenge.pw_sinktree_k00_errors.main.file "BadProgram" ["reason"], DN.supB K PySem.Challenge.pw_sinktree_k00_errors.main.file "BadText" ["index"], DN.supB K PySem.Challenge.pw_sinktree_k00_errors.main.file "BadCode" ["index", "reason"]]
def ex (K : PySem.W.Frag) : Bool := (exs K).all id
def tf : List (PySem.Str × Option PySem.Str) := []
def xi : List PySem.Str := ["BadProgram", "BadText", "BadCode"]
def xv : List DN.IniW := [some ("__init__", "BadProgram.__init__", defArgs (inClass (top 3) 0), .stmts (defBody (inClass (top 3) 0)), defScope (inClass (top 3) 0)), some ("__init__", "BadText.__init__", defArgs (inClass (top 4) 0), .stmts (defBody (inClass (top 4) 0)), defScope (inClass (top 4) 0)), some ("__init__", "BadCode.__init__", defArgs (inClass (top 5) 0), .stmts (defBody (inClass (top 5) 0)), defScope (inClass (top 5) 0))]
abbrev hk : PySem.W.Hook := DN.hookZ 4 fa fn tf ex xi xv
def ob (s : PySem.W.SharedT) : DN.AlZ := DN.obsZ 4 fa fn tf ex xi (HandSHeadRun.getT s)
theorem ob_eq (s : PySem.W.SharedT) : ob s = hk.obs s.abs := DN.obsZ_eq (HandSHeadRun.getT_eq s)
theorem run (w : World) : HandSHeadRun.RunEq R (PySem.W.view R.prog [16]) hk ob 20000 loose w := by
  intro os
  kernel_rfl
end Hd

set_option Elab.async false
set_option linter.all false
set_option maxRecDepth 100000
/-! T0: a meaning goes well: tools for the plain law. -/
namespace DN
open PySem

/-- what may be let out -/
abbrev XR := Nat → List (Nat × D) → Hs → Prop
abbrev XO := Nat → List (Nat × D) → Env → Hs → Prop
def OkRx (E : XR) {α : Type} (r : R α) (Q : α → Hs → Prop) : Prop := match r with
  | .ok a h => Q a h
  | .xc c fs h => E c fs h
  | .no => False
abbrev OkR {α : Type} (r : R α) (Q : α → Hs → Prop) : Prop := OkRx (fun _ _ _ => False) r Q
variable {E : XR} {F : XO}
@[simp ↓] theorem okr_ok {α : Type} (a : α) (h : Hs) (Q : α → Hs → Prop) : OkRx E (.ok a h) Q = Q a h := Eq.trans rfl rfl
@[simp ↓] theorem okr_no {α : Type} (Q : α → Hs → Prop) : OkRx E (.no) Q = False := Eq.trans rfl rfl
@[simp ↓] theorem okr_xc {α : Type} (c : Nat) (fs : List (Nat × D)) (h : Hs) (Q : α → Hs → Prop) : OkRx E (.xc c fs h) Q = E c fs h := Eq.trans rfl rfl
@[simp ↓] theorem okr_bind {α β : Type} (r : R α) (f : α → Hs → R β) (Q : β → Hs → Prop) : OkRx E (r.bind f) Q = OkRx E r fun a h => OkRx E (f a h) Q := by cases r <;> rfl
theorem OkR.mono {α : Type} {r : R α} {Q Q' : α → Hs → Prop} (p : OkR r Q) (i : ∀ a h, Q a h → Q' a h) : OkRx E r Q' := by
  cases r with
  | ok a h => exact i a h p
  | xc _ _ _ => exact False.elim p
  | no => exact False.elim p
theorem OkRx.mono {α : Type} {E' : XR} {r : R α} {Q Q' : α → Hs → Prop} (p : OkRx E' r Q) (i : ∀ a h, Q a h → Q' a h) (e : ∀ c fs h, E' c fs h → E c fs h) : OkRx E r Q' := by
  cases r with
  | ok a h => exact i a h p
  | xc c fs h => exact e c fs h p
  | no => exact False.elim p
theorem OkR.ex {α : Type} {r : R α} {Q : α → Hs → Prop} (p : OkR r Q) : ∃ a h, r = .ok a h ∧ Q a h := by
  cases r with
  | ok a h => exact ⟨a, h, rfl, p⟩
  | xc _ _ _ => exact False.elim p
  | no => exact False.elim p
theorem OkR.of {α : Type} {r : R α} {Q : α → Hs → Prop} {a : α} {h : Hs} (e : r = .ok a h) (q : Q a h) : OkRx E r Q := by
  rw [e]
  exact q
def opt {α : Type} (o : Option α) (P : α → Prop) : Prop := match o with
  | some a => P a
  | none => False
@[simp ↓] theorem opt_some {α : Type} (a : α) (P : α → Prop) : opt (some a) P = P a := Eq.trans rfl rfl
@[simp ↓] theorem opt_none {α : Type} (P : α → Prop) : opt none P = False := Eq.trans rfl rfl
/-- a value of a slot -/
def slt (o : Option (Option D)) (P : D → Prop) : Prop := match o with
  | some (some a) => P a
  | _ => False
@[simp ↓] theorem slt_some (a : D) (P : D → Prop) : slt (some (some a)) P = P a := Eq.trans rfl rfl
def asB (x : D) (P : Bool → Prop) : Prop := match x with
  | .bl b => P b
  | _ => False
@[simp ↓] theorem asB_bl (b : Bool) (P : Bool → Prop) : asB (.bl b) P = P b := Eq.trans rfl rfl
def asI (x : D) (P : Int → Prop) : Prop := match x with
  | .int b => P b
  | _ => False
@[simp ↓] theorem asI_int (b : Int) (P : Int → Prop) : asI (.int b) P = P b := Eq.trans rfl rfl
theorem okr_opt {α : Type} {o : Option Bool} {f : Bool → R α} {Q : α → Hs → Prop} : OkRx E (match o with | some b => f b | none => .no) Q = opt o fun b => OkRx E (f b) Q := by
  cases o <;> rfl
def OkOx (F : XO) (o : Out) (qn : Env → Hs → Prop) (qr : D → Hs → Prop) (qb qc : Env → Hs → Prop) : Prop := match o with
  | .nx σ h => qn σ h
  | .rt d h => qr d h
  | .bk σ h => qb σ h
  | .ct σ h => qc σ h
  | .xc c fs σ h => F c fs σ h
  | .no => False
abbrev OkO (o : Out) (qn : Env → Hs → Prop) (qr : D → Hs → Prop) (qb qc : Env → Hs → Prop) : Prop := OkOx (fun _ _ _ _ => False) o qn qr qb qc
section
variable {qn qb qc : Env → Hs → Prop} {qr : D → Hs → Prop} {σ : Env} {h : Hs} {a b : B} {m m' m'' : M D} {t t' : M Bool} {Q : D → Hs → Prop} {QB : Bool → Hs → Prop} {QL : List D → Hs → Prop} {ml : M (List D)} {f : D → D → Hs → R D} {g : Tg}
@[simp ↓] theorem oko_nx : OkOx F (.nx σ h) qn qr qb qc = qn σ h := Eq.trans rfl rfl
@[simp ↓] theorem oko_rt {d : D} : OkOx F (.rt d h) qn qr qb qc = qr d h := Eq.trans rfl rfl
@[simp ↓] theorem oko_bk : OkOx F (.bk σ h) qn qr qb qc = qb σ h := Eq.trans rfl rfl
@[simp ↓] theorem oko_ct : OkOx F (.ct σ h) qn qr qb qc = qc σ h := Eq.trans rfl rfl
@[simp ↓] theorem oko_pass : OkOx F (sPass σ h) qn qr qb qc = qn σ h := Eq.trans rfl rfl
@[simp ↓] theorem oko_brk : OkOx F (sBrk σ h) qn qr qb qc = qb σ h := Eq.trans rfl rfl
@[simp ↓] theorem oko_cnt : OkOx F (sCnt σ h) qn qr qb qc = qc σ h := Eq.trans rfl rfl
@[simp ↓] theorem oko_seq : OkOx F (sSeq a b σ h) qn qr qb qc = OkOx F (a σ h) (fun σ1 h1 => OkOx F (b σ1 h1) qn qr qb qc) qr qb qc := by
  show OkOx F ((a σ h).andThen b) _ _ _ _ = _
  cases a σ h <;> rfl
theorem oko_out {α : Type} {r : R α} {f : α → Hs → Out} : OkOx F (r.out σ f) qn qr qb qc = OkRx (fun c fs h => F c fs σ h) r fun x h1 => OkOx F (f x h1) qn qr qb qc := by
  cases r <;> rfl
@[simp ↓] theorem oko_ex : OkOx F (sEx m σ h) qn qr qb qc = OkRx (fun c fs h => F c fs σ h) (m σ h) fun _ h1 => qn σ h1 := oko_out
@[simp ↓] theorem oko_ret : OkOx F (sRet m σ h) qn qr qb qc = OkRx (fun c fs h => F c fs σ h) (m σ h) qr := oko_out
@[simp ↓] theorem oko_if : OkOx F (sIf t a b σ h) qn qr qb qc = OkRx (fun c fs h => F c fs σ h) (t σ h) fun x h1 => if x = true then OkOx F (a σ h1) qn qr qb qc else OkOx F (b σ h1) qn qr qb qc := by
  refine oko_out.trans ?_
  congr 1
  funext x h1
  by_cases e : x = true
  · rw [if_pos e, if_pos e]
  · rw [if_neg e, if_neg e]
@[simp ↓] theorem oko_asg : OkOx F (sAsg m g σ h) qn qr qb qc = OkRx (fun c fs h => F c fs σ h) (m σ h) fun x h1 => OkR (g x σ h1) qn := by
  refine oko_out.trans ?_
  congr 1
  funext x h1
  cases g x σ h1 <;> rfl
@[simp ↓] theorem oko_aug {i : Nat} : OkOx F (sAug i f m σ h) qn qr qb qc = slt σ[i]? fun x => OkRx (fun c fs h => F c fs σ h) (m σ h) fun y h1 => OkRx (fun c fs h => F c fs σ h) (f x y h1) fun z h2 => qn (σ.set i (some z)) h2 := by
  unfold sAug
  rcases σ[i]? with _ | _ | x
  · rfl
  · rfl
  · refine oko_out.trans ?_
    show _ = OkRx _ _ _
    congr 1
    funext y h1
    exact oko_out
theorem OkOx.mono {o : Out} {qn' qb' qc' : Env → Hs → Prop} {qr' : D → Hs → Prop} (p : OkOx F o qn qr qb qc) (hn : ∀ σ h, qn σ h → qn' σ h) (hr : ∀ d h, qr d h → qr' d h) (hb : ∀ σ h, qb σ h → qb' σ h) (hc : ∀ σ h, qc σ h → qc' σ h) : OkOx F o qn' qr' qb' qc' := by
  cases o with
  | nx σ h => exact hn _ _ p
  | rt d h => exact hr _ _ p
  | bk σ h => exact hb _ _ p
  | ct σ h => exact hc _ _ p
  | xc _ _ _ _ => exact p
  | no => exact p
@[simp ↓] theorem okr_fin {o : Out} : OkRx E (finB o) Q = OkOx (fun c fs _ h => E c fs h) o (fun _ h1 => Q .non h1) Q (fun _ _ => False) fun _ _ => False := by
  cases o <;> rfl
/-! expressions -/
@[simp ↓] theorem okr_lit {d : D} : OkRx E (mLit d σ h) Q = Q d h := Eq.trans rfl rfl
@[simp ↓] theorem okr_var {i : Nat} : OkRx E (mVar i σ h) Q = slt σ[i]? fun d => Q d h := by
  unfold mVar
  rcases σ[i]? with _ | _ | x <;> rfl
@[simp ↓] theorem okr_op : OkRx E (mOp f m m' σ h) Q = OkRx E (m σ h) fun x h1 => OkRx E (m' σ h1) fun y h2 => OkRx E (f x y h2) Q := by
  simp [mOp]
@[simp ↓] theorem okr_neg : OkRx E (mNeg m σ h) Q = OkRx E (m σ h) fun x h1 => asI x fun i => Q (.int (-i)) h1 := by
  unfold mNeg
  rw [okr_bind]
  congr 1
  funext x h1
  cases x <;> rfl
@[simp ↓] theorem okr_chain {o o' : Cop} : OkRx E (mChain o o' m m' m'' σ h) Q = OkRx E (m σ h) fun x h1 => OkRx E (m' σ h1) fun y h2 => opt (cmpD o x y h2) fun b => if b = true then OkRx E (m'' σ h2) fun z h3 => OkRx E (opCmp o' y z h3) Q else Q (.bl false) h2 := by
  unfold mChain
  rw [okr_bind]
  congr 1
  funext x h1
  rw [okr_bind]
  congr 1
  funext y h2
  rcases cmpD o x y h2 with _ | _ | _
  · rfl
  · rfl
  · show OkRx E (R.bind _ _) _ = _
    rw [okr_bind]
    rfl
@[simp ↓] theorem okr_and : OkRx E (mAnd m m' σ h) Q = OkRx E (m σ h) fun x h1 => asB x fun b => if b = true then OkRx E (m' σ h1) Q else Q (.bl false) h1 := by
  unfold mAnd
  rw [okr_bind]
  congr 1
  funext x h1
  rcases x with _ | ⟨_ | _⟩ | _ | _ | _ | _ | _ | _ | _ | _ | _
  all_goals rfl
@[simp ↓] theorem okr_or : OkRx E (mOr m m' σ h) Q = OkRx E (m σ h) fun x h1 => asB x fun b => if b = true then Q (.bl true) h1 else OkRx E (m' σ h1) Q := by
  unfold mOr
  rw [okr_bind]
  congr 1
  funext x h1
  rcases x with _ | ⟨_ | _⟩ | _ | _ | _ | _ | _ | _ | _ | _ | _
  all_goals rfl
@[simp ↓] theorem okr_notT : OkRx E (mNotT m σ h) Q = OkRx E (m σ h) fun x h1 => opt (truth h1 x) fun b => Q (.bl (!b)) h1 := by
  unfold mNotT
  rw [okr_bind]
  congr 1
  funext x h1
  cases truth h1 x <;> rfl
@[simp ↓] theorem okr_tval : OkRx E (tVal m σ h) QB = OkRx E (m σ h) fun x h1 => opt (truth h1 x) fun b => QB b h1 := by
  unfold tVal
  rw [okr_bind]
  congr 1
  funext x h1
  cases truth h1 x <;> rfl
@[simp ↓] theorem okr_tand : OkRx E (tAnd t t' σ h) QB = OkRx E (t σ h) fun x h1 => if x = true then OkRx E (t' σ h1) QB else QB false h1 := by
  unfold tAnd
  rw [okr_bind]
  congr 1
  funext x h1
  split <;> rfl
@[simp ↓] theorem okr_tor : OkRx E (tOr t t' σ h) QB = OkRx E (t σ h) fun x h1 => if x = true then QB true h1 else OkRx E (t' σ h1) QB := by
  unfold tOr
  rw [okr_bind]
  congr 1
  funext x h1
  split <;> rfl
@[simp ↓] theorem okr_tnot : OkRx E (tNot t σ h) QB = OkRx E (t σ h) fun x h1 => QB (!x) h1 := by
  unfold tNot
  rw [okr_bind]
  rfl
@[simp ↓] theorem okr_ife : OkRx E (mIfe t m m' σ h) Q = OkRx E (t σ h) fun x h1 => if x = true then OkRx E (m σ h1) Q else OkRx E (m' σ h1) Q := by
  unfold mIfe
  rw [okr_bind]
  congr 1
  funext x h1
  split <;> rfl
@[simp ↓] theorem okr_nil : OkRx E (mNil σ h) QL = QL [] h := Eq.trans rfl rfl
@[simp ↓] theorem okr_cons : OkRx E (mCons m ml σ h) QL = OkRx E (m σ h) fun x h1 => OkRx E (ml σ h1) fun xs h2 => QL (x :: xs) h2 := by
  unfold mCons
  rw [okr_bind]
  congr 1
  funext x h1
  rw [okr_bind]
  rfl
@[simp ↓] theorem okr_app {f : List D → Hs → R D} : OkRx E (mApp f ml σ h) Q = OkRx E (ml σ h) fun xs h1 => OkRx E (f xs h1) Q := by
  unfold mApp
  rw [okr_bind]
@[simp ↓] theorem okr_tup : OkRx E (mTup ml σ h) Q = OkRx E (ml σ h) fun xs h1 => OkRx E (mkT xs h1) Q := okr_app
@[simp ↓] theorem okr_lst {hp : Bool} : OkRx E (mLst hp ml σ h) Q = OkRx E (ml σ h) fun xs h1 => OkRx E (mkL hp xs h1) Q := okr_app
@[simp ↓] theorem okr_callN {C : Calls} {ar f : Nat} : OkRx E (mCallN C ar f ml σ h) Q = OkRx E (ml σ h) fun ds h1 => if ds.length = ar then OkRx E (C f ds h1) Q else False := by
  unfold mCallN
  rw [okr_app]
  congr 1
  funext ds h1
  split <;> rfl
@[simp ↓] theorem okr_isi {t : Ty} : OkRx E (mIsi t m σ h) Q = OkRx E (m σ h) fun x h1 => opt (isTy h1 x t) fun b => Q (.bl b) h1 := by
  unfold mIsi
  rw [okr_bind]
  congr 1
  funext x h1
  cases isTy h1 x t <;> rfl
@[simp ↓] theorem okr_bm {T : String} {f : D → List D → Hs → R D} : OkRx E (mBM T f m ml σ h) Q = OkRx E (m σ h) fun x h1 => if isT T h1 x = true then OkRx E (ml σ h1) fun ds h2 => OkRx E (f x ds h2) Q else False := by
  unfold mBM
  rw [okr_bind]
  congr 1
  funext x h1
  split
  · rw [okr_bind]
  · rfl
@[simp ↓] theorem okr_part_none {QP : Option Int → Hs → Prop} : OkRx E (mPart none σ h) QP = QP none h := Eq.trans rfl rfl
@[simp ↓] theorem okr_part_some {QP : Option Int → Hs → Prop} : OkRx E (mPart (some m) σ h) QP = OkRx E (m σ h) fun x h1 => asI x fun i => QP (some i) h1 := by
  unfold mPart
  rw [okr_bind]
  congr 1
  funext x h1
  cases x <;> rfl
@[simp ↓] theorem okr_slc {hp : Bool} {lo hi : Option (M D)} : OkRx E (mSlc hp m lo hi σ h) Q = OkRx E (m σ h) fun x h1 => OkRx E (mPart lo σ h1) fun l h2 => OkRx E (mPart hi σ h2) fun u h3 => OkRx E (opSlc hp x l u h3) Q := by
  simp [mSlc]
@[simp ↓] theorem okr_gvar {i : Nat} {d : D} {QE : Env → Hs → Prop} : OkRx E (gVar i d σ h) QE = QE (σ.set i (some d)) h := Eq.trans rfl rfl
@[simp ↓] theorem okr_gsub {v : D} {QE : Env → Hs → Prop} : OkRx E (gSub m m' v σ h) QE = OkRx E (m σ h) fun x h1 => OkRx E (m' σ h1) fun y h2 => opt (opSet x y v h2) fun h3 => QE σ h3 := by
  unfold gSub
  rw [okr_bind]
  congr 1
  funext x h1
  rw [okr_bind]
  congr 1
  funext y h2
  cases opSet x y v h2 <;> rfl
/-! operators on ints, strings -/
@[simp ↓] theorem okr_addI {hp : Bool} {i j : Int} : OkRx E (opAdd hp (.int i) (.int j) h) Q = Q (.int (i + j)) h := Eq.trans rfl rfl
@[simp ↓] theorem okr_subI {i j : Int} : OkRx E (opSub (.int i) (.int j) h) Q = Q (.int (i - j)) h := Eq.trans rfl rfl
@[simp ↓] theorem okr_cmp {o : Cop} {x y : D} : OkRx E (opCmp o x y h) Q = opt (cmpD o x y h) fun b => Q (.bl b) h := by
  unfold opCmp
  cases cmpD o x y h <;> rfl
theorem okr_mulI {hp : Bool} {i j : Int} (c : (-(2 ^ 64) < i ∧ i < 2 ^ 64) ∨ (-(2 ^ 64) < j ∧ j < 2 ^ 64)) : OkRx E (opMul hp (.int i) (.int j) h) Q = Q (.int (i * j)) h := by
  show OkRx E (if _ then _ else _) Q = _
  rw [if_pos c]
  rfl
@[simp ↓] theorem okr_mulL {hp : Bool} {i j : Int} : OkRx E (opMul hp (.int i) (.int j) h) Q = if ((-(2 ^ 64) < i ∧ i < 2 ^ 64) ∨ (-(2 ^ 64) < j ∧ j < 2 ^ 64)) then Q (.int (i * j)) h else False := by
  show OkRx E (if _ then _ else _) Q = _
  split <;> rfl
@[simp ↓] theorem okr_fdiv {i j : Int} : OkRx E (opFdiv (.int i) (.int j) h) Q = if j ≠ 0 ∧ j.natAbs < 1073741824 then Q (.int (i.fdiv j)) h else False := by
  show OkRx E (if _ then _ else _) Q = _
  split <;> rfl
@[simp ↓] theorem okr_mod {i j : Int} : OkRx E (opMod (.int i) (.int j) h) Q = if j ≠ 0 then Q (.int (i.fmod j)) h else False := by
  show OkRx E (if _ then _ else _) Q = _
  split <;> rfl
@[simp ↓] theorem okr_pow {i j : Int} : OkRx E (opPow (.int i) (.int j) h) Q = if 0 ≤ j ∧ j ≤ 1000000 ∧ i.natAbs < 2 ^ 64 then Q (.int (i ^ j.toNat)) h else False := by
  show OkRx E (if _ then _ else _) Q = _
  split <;> rfl
@[simp ↓] theorem okr_mkT {xs : List D} : OkRx E (mkT xs h) Q = if xs.length ≤ SZ then Q (.tup xs) h else False := by
  unfold mkT
  split <;> rfl
@[simp ↓] theorem okr_mkF {xs : List D} : OkRx E (mkL false xs h) Q = if xs.length ≤ SZ then Q (.fl xs) h else False := by
  unfold mkL
  split <;> rfl
@[simp ↓] theorem okr_mkH {xs : List D} : OkRx E (mkL true xs h) Q = if xs.length ≤ SZ then Q (.ref h.length) (h ++ [.lst xs]) else False := by
  unfold mkL
  split <;> rfl

/-- what stands at a place of the heap: a list, a dict -/
def ocase (o : Option O) (f : List D → Prop) (g : List (D × D) → Prop) : Prop := match o with
  | some (.lst xs) => f xs
  | some (.dct kvs) => g kvs
  | _ => False
@[simp ↓] theorem ocase_l (xs : List D) (f : List D → Prop) (g : List (D × D) → Prop) : ocase (some (.lst xs)) f g = f xs := Eq.trans rfl rfl
@[simp ↓] theorem ocase_d (xs : List (D × D)) (f : List D → Prop) (g : List (D × D) → Prop) : ocase (some (.dct xs)) f g = g xs := Eq.trans rfl rfl
def xcons (xs : List D) (f : D → List D → Prop) : Prop := match xs with
  | x :: xs => f x xs
  | [] => False
@[simp ↓] theorem xcons_c (x : D) (xs : List D) (f : D → List D → Prop) : xcons (x :: xs) f = f x xs := Eq.trans rfl rfl
theorem lstOf_ref {h : Hs} {p : Nat} {xs : List D} (e : h[p]? = some (.lst xs)) : lstOf h (.ref p) = some xs := by
  show (match h[p]? with | some (.lst xs) => some xs | _ => none) = _
  rw [e]
/-! loops -/
@[simp ↓] theorem oko_for {it : It} : OkOx F (sFor g it b σ h) qn qr qb qc = OkRx (fun c fs h => F c fs σ h) (it σ h) fun p h1 => OkOx F (loopGo p.2 g b p.1 σ h1) qn qr qb qc := oko_out
variable {QI : List D × (Hs → Prop) → Hs → Prop} {xs ys : List D} {i j : Int} {p : Nat} {P : D → Prop} {PB : Bool → Prop}
@[simp ↓] theorem okr_ival : OkRx E (iVal m σ h) QI = OkRx E (m σ h) fun d h1 => OkRx E (itOf h1 d) QI := okr_bind _ _ _
@[simp ↓] theorem okr_itT : OkRx E (itOf h (.tup xs)) QI = QI (xs, chkTrue) h := Eq.trans rfl rfl
@[simp ↓] theorem okr_itF : OkRx E (itOf h (.fl xs)) QI = QI (xs, chkTrue) h := Eq.trans rfl rfl
@[simp ↓] theorem okr_itSc : OkRx E (itOf h (.sl xs)) QI = QI (xs, chkTrue) h := Eq.trans rfl rfl
@[simp ↓] theorem okr_itS {s : List Nat} : OkRx E (itOf h (.str s)) QI = QI (s.map fun c => .str [c], chkTrue) h := Eq.trans rfl rfl
@[simp ↓] theorem okr_itR : OkRx E (itOf h (.ref p)) QI = ocase h[p]? (fun xs => QI (xs, fun h' => h'[p]? = some (.lst xs)) h) fun _ => False := by
  show OkRx E (match h[p]? with | some (.lst xs) => (.ok (xs, fun h' => h'[p]? = some (.lst xs)) h : R (List D × (Hs → Prop))) | _ => .no) QI = _
  rcases h[p]? with _ | _ | _ | _ <;> rfl
@[simp ↓] theorem okr_rng1 : OkRx E (iRng1 m σ h) QI = OkRx E (m σ h) fun x h1 => asI x fun j => if -(2 ^ 62) ≤ j ∧ j < 2 ^ 62 then QI (rngL 0 j.toNat, chkTrue) h1 else False := by
  unfold iRng1
  rw [okr_bind]
  congr 1
  funext x h1
  cases x with
  | int j => show OkRx E (if _ then _ else _) _ = if _ then _ else _; split <;> rfl
  | _ => rfl
@[simp ↓] theorem okr_rng2 : OkRx E (iRng2 m m' σ h) QI = OkRx E (m σ h) fun x h1 => OkRx E (m' σ h1) fun y h2 => asI x fun i => asI y fun j => if (-(2 ^ 62) ≤ i ∧ i < 2 ^ 62) ∧ -(2 ^ 62) ≤ j ∧ j < 2 ^ 62 then QI (rngL i (j - i).toNat, chkTrue) h2 else False := by
  unfold iRng2
  rw [okr_bind]
  congr 1
  funext x h1
  rw [okr_bind]
  congr 1
  funext y h2
  cases x with
  | int i => cases y with
    | int j => show OkRx E (if _ then _ else _) _ = if _ then _ else _; split <;> rfl
    | _ => rfl
  | _ => rfl
theorem loop_inv {chk : Hs → Prop} (I : List D → Env → Hs → Prop) (hc : ∀ xs σ h, I xs σ h → chk h) (hn : ∀ σ h, I [] σ h → qn σ h)
    (hs : ∀ x xs σ h, I (x :: xs) σ h → OkR (g x σ h) fun σ1 h1 => OkOx F (b σ1 h1) (I xs) qr qn (I xs)) : ∀ (xs : List D) (σ : Env) (h : Hs), I xs σ h → OkOx F (loopGo chk g b xs σ h) qn qr qb qc
  | [], σ, h, q => by
    unfold loopGo
    rw [if_pos (hc _ _ _ q)]
    exact hn _ _ q
  | x :: xs, σ, h, q => by
    unfold loopGo
    rw [if_pos (hc _ _ _ q)]
    have z := hs x xs σ h q
    cases e : g x σ h with
    | no => rw [e] at z; exact z.elim
    | xc _ _ _ => rw [e] at z; exact z.elim
    | ok σ1 h1 =>
      rw [e] at z
      show OkOx F (match b σ1 h1 with
        | .nx σ2 h2 => loopGo chk g b xs σ2 h2
        | .ct σ2 h2 => loopGo chk g b xs σ2 h2
        | .bk σ2 h2 => .nx σ2 h2
        | o => o) _ _ _ _
      have z' : OkOx F (b σ1 h1) (I xs) qr qn (I xs) := z
      cases e2 : b σ1 h1 with
      | nx σ2 h2 => rw [e2] at z'; exact loop_inv I hc hn hs xs σ2 h2 z'
      | ct σ2 h2 => rw [e2] at z'; exact loop_inv I hc hn hs xs σ2 h2 z'
      | bk σ2 h2 => rw [e2] at z'; exact z'
      | rt d h2 => rw [e2] at z'; exact z'
      | xc _ _ _ _ => rw [e2] at z'; exact z'
      | no => rw [e2] at z'; exact z'
/-- a loop over a thing that needs no look -/
theorem loop_t (I : List D → Env → Hs → Prop) (q : I xs σ h) (hn : ∀ σ h, I [] σ h → qn σ h)
    (hs : ∀ x xs σ h, I (x :: xs) σ h → OkR (g x σ h) fun σ1 h1 => OkOx F (b σ1 h1) (I xs) qr qn (I xs)) : OkOx F (loopGo chkTrue g b xs σ h) qn qr qb qc :=
  loop_inv I (fun _ _ _ _ => trivial) hn hs xs σ h q
@[simp ↓] theorem okr_lc {hp : Bool} {own is : List Nat} {it : It} : OkRx E (mLc hp own is it t m σ h) Q = OkRx E (it σ h) fun p h1 => OkR (lcGo p.2 own (cTg is) t m p.1 σ h1) fun ys h2 => OkRx E (mkL hp ys h2) Q := by
  unfold mLc
  rw [okr_bind]
  congr 1
  funext p h1
  cases lcGo p.2 own (cTg is) t m p.1 σ h1 <;> rfl
theorem lc_inv {chk : Hs → Prop} {own : List Nat} (I : List D → List D → Hs → Prop) (hc : ∀ xs acc h, I xs acc h → chk h)
    (hs : ∀ x xs acc h, I (x :: xs) acc h → OkR (g x (wipeE σ own) h) fun σ1 h1 => OkR (t σ1 h1) fun c h2 => if c = true then OkR (m σ1 h2) fun y h3 => I xs (acc ++ [y]) h3 else I xs acc h2) :
    ∀ (xs acc : List D) (h : Hs), I xs acc h → OkR (lcGo chk own g t m xs σ h) fun ys h' => I [] (acc ++ ys) h'
  | [], acc, h, q => by
    unfold lcGo
    rw [if_pos (hc _ _ _ q)]
    show I [] (acc ++ []) h
    rw [List.append_nil]
    exact q
  | x :: xs, acc, h, q => by
    unfold lcGo
    rw [if_pos (hc _ _ _ q)]
    have z := hs x xs acc h q
    cases e : g x (wipeE σ own) h with
    | no => rw [e] at z; exact z.elim
    | xc _ _ _ => rw [e] at z; exact z.elim
    | ok σ1 h1 =>
      rw [e] at z
      have z : OkR (t σ1 h1) _ := z
      simp only []
      cases e1 : t σ1 h1 with
      | no => rw [e1] at z; exact z.elim
      | xc _ _ _ => rw [e1] at z; exact z.elim
      | ok c h2 =>
        rw [e1] at z
        cases c with
        | false => exact lc_inv I hc hs xs acc h2 z
        | true =>
          have z : OkR (m σ1 h2) _ := z
          simp only []
          cases e2 : m σ1 h2 with
          | no => rw [e2] at z; exact z.elim
          | xc _ _ _ => rw [e2] at z; exact z.elim
          | ok y h3 =>
            rw [e2] at z
            have z : I xs (acc ++ [y]) h3 := z
            have w := lc_inv I hc hs xs (acc ++ [y]) h3 z
            simp only []
            cases e3 : lcGo chk own g t m xs σ h3 with
            | no => rw [e3] at w; exact w.elim
            | xc _ _ _ => rw [e3] at w; exact w.elim
            | ok ys h4 =>
              rw [e3] at w
              show I [] (acc ++ (y :: ys)) h4
              have w : I [] ((acc ++ [y]) ++ ys) h4 := w
              rw [List.append_assoc] at w
              exact w
theorem lc_t {own : List Nat} (I : List D → List D → Hs → Prop) (q : I xs [] h) (hs : ∀ x xs acc h, I (x :: xs) acc h → OkR (g x (wipeE σ own) h) fun σ1 h1 => OkR (t σ1 h1) fun c h2 => if c = true then OkR (m σ1 h2) fun y h3 => I xs (acc ++ [y]) h3 else I xs acc h2)
    (hn : ∀ ys h', I [] ys h' → QL ys h') : OkR (lcGo chkTrue own g t m xs σ h) QL :=
  (lc_inv I (fun _ _ _ _ => trivial) hs xs [] h q).mono fun ys h' w => hn ys h' w
@[simp ↓] theorem oko_while {n : Nat} : OkOx F (sWhile n t b σ h) qn qr qb qc = OkOx F (whileGo t b n σ h) qn qr qb qc := Eq.trans rfl rfl
/-- a while: k falls -/
theorem while_inv (I : Nat → Env → Hs → Prop) (hs : ∀ k σ h, I k σ h → OkRx (fun c fs h => F c fs σ h) (t σ h) fun x h1 => if x = true then OkOx F (b σ h1) (fun σ2 h2 => ∃ j, j < k ∧ I j σ2 h2) qr qn (fun σ2 h2 => ∃ j, j < k ∧ I j σ2 h2) else qn σ h1) : ∀ (n k : Nat) (σ : Env) (h : Hs), k < n → I k σ h → OkOx F (whileGo t b n σ h) qn qr qb qc
  | 0, k, _, _, l, _ => absurd l (Nat.not_lt_zero k)
  | n + 1, k, σ, h, l, q => by
    have z := hs k σ h q
    unfold whileGo
    rw [oko_out]
    cases e : t σ h with
    | no => rw [e] at z; exact z.elim
    | xc c fs h1 => rw [e] at z; exact z
    | ok x h1 =>
      rw [e] at z
      have z : if x = true then OkOx F (b σ h1) (fun σ2 h2 => ∃ j, j < k ∧ I j σ2 h2) qr qn (fun σ2 h2 => ∃ j, j < k ∧ I j σ2 h2) else qn σ h1 := z
      show OkOx F (if x = true then (match b σ h1 with
        | .nx σ2 h2 => whileGo t b n σ2 h2
        | .ct σ2 h2 => whileGo t b n σ2 h2
        | .bk σ2 h2 => .nx σ2 h2
        | o => o) else .nx σ h1) _ _ _ _
      by_cases hx : x = true
      · rw [if_pos hx] at z ⊢
        cases e2 : b σ h1 with
        | nx σ2 h2 =>
          rw [e2] at z
          obtain ⟨j, lj, q2⟩ : ∃ j, j < k ∧ I j σ2 h2 := z
          exact while_inv I hs n j σ2 h2 (by omega) q2
        | ct σ2 h2 =>
          rw [e2] at z
          obtain ⟨j, lj, q2⟩ : ∃ j, j < k ∧ I j σ2 h2 := z
          exact while_inv I hs n j σ2 h2 (by omega) q2
        | bk σ2 h2 => rw [e2] at z; exact z
        | rt d h2 => rw [e2] at z; exact z
        | xc _ _ _ _ => rw [e2] at z; exact z
        | no => rw [e2] at z; exact z
      · rw [if_neg hx] at z ⊢
        exact z
theorem while_t {n : Nat} (I : Nat → Env → Hs → Prop) {k : Nat} (l : k < n) (q : I k σ h) (hs : ∀ k σ h, I k σ h → OkRx (fun c fs h => F c fs σ h) (t σ h) fun x h1 => if x = true then OkOx F (b σ h1) (fun σ2 h2 => ∃ j, j < k ∧ I j σ2 h2) qr qn (fun σ2 h2 => ∃ j, j < k ∧ I j σ2 h2) else qn σ h1) : OkOx F (whileGo t b n σ h) qn qr qb qc := while_inv I hs n k σ h l q
@[simp ↓] theorem okr_yes : OkRx E (tYesM σ h) QB = QB true h := Eq.trans rfl rfl
/-! tests -/
@[simp ↓] theorem cmp_eqI : cmpD .eq (.int i) (.int j) h = some (decide (i = j)) := by
  show eqD h (.int i) (.int j) = _
  unfold eqD
  simp [datOf, D.dat, D.eqv]
  by_cases e : i = j <;> simp [e]
@[simp ↓] theorem cmp_eqS {s s' : List Nat} : cmpD .eq (.str s) (.str s') h = some (s == s') := Eq.trans rfl rfl
@[simp ↓] theorem cmp_eqB {x y : Bool} : cmpD .eq (.bl x) (.bl y) h = some (x == y) := by
  show eqD h (.bl x) (.bl y) = _
  unfold eqD
  cases x <;> cases y <;> simp [datOf, D.dat, D.eqv]
@[simp ↓] theorem cmp_ne {x y : D} : cmpD .ne x y h = (cmpD .eq x y h).map (!·) := Eq.trans rfl rfl
@[simp ↓] theorem cmp_notin {x y : D} : cmpD .notin x y h = (cmpD .inn x y h).map (!·) := Eq.trans rfl rfl
@[simp ↓] theorem cmp_lt : cmpD .lt (.int i) (.int j) h = some (decide (i < j)) := Eq.trans rfl rfl
@[simp ↓] theorem cmp_le : cmpD .le (.int i) (.int j) h = some (decide (i ≤ j)) := Eq.trans rfl rfl
@[simp ↓] theorem cmp_gt : cmpD .gt (.int i) (.int j) h = some (decide (j < i)) := Eq.trans rfl rfl
@[simp ↓] theorem cmp_ge : cmpD .ge (.int i) (.int j) h = some (decide (j ≤ i)) := Eq.trans rfl rfl
@[simp ↓] theorem cmp_is {x y : D} : cmpD .isx x y h = isD x y := Eq.trans rfl rfl
@[simp ↓] theorem cmp_isnot {x y : D} : cmpD .isnot x y h = (isD x y).map (!·) := Eq.trans rfl rfl
@[simp ↓] theorem opt_map {α β : Type} {o : Option α} {f : α → β} {P : β → Prop} : opt (o.map f) P = opt o fun a => P (f a) := by
  cases o <;> rfl
@[simp ↓] theorem tr_bl {x : Bool} : truth h (.bl x) = some x := Eq.trans rfl rfl
@[simp ↓] theorem tr_int : truth h (.int i) = some (i != 0) := Eq.trans rfl rfl
@[simp ↓] theorem tr_tup : truth h (.tup xs) = some (!xs.isEmpty) := Eq.trans rfl rfl
@[simp ↓] theorem tr_fl : truth h (.fl xs) = some (!xs.isEmpty) := Eq.trans rfl rfl
@[simp ↓] theorem tr_non : truth h .non = some false := Eq.trans rfl rfl
@[simp] theorem SZ_val : SZ = 16777216 := by decide
/-! built-ins -/
@[simp ↓] theorem okr_lenF : OkRx E (bLen [.fl xs] h) Q = Q (.int xs.length) h := Eq.trans rfl rfl
@[simp ↓] theorem okr_lenT : OkRx E (bLen [.tup xs] h) Q = Q (.int xs.length) h := Eq.trans rfl rfl
@[simp ↓] theorem okr_lenSc : OkRx E (bLen [.sl xs] h) Q = Q (.int xs.length) h := Eq.trans rfl rfl
@[simp ↓] theorem okr_lenS {s : List Nat} : OkRx E (bLen [.str s] h) Q = if s.length ≤ SZ then Q (.int s.length) h else False := by
  show OkRx E (if _ then _ else _) _ = _
  split <;> rfl
@[simp ↓] theorem okr_lenR : OkRx E (bLen [.ref p] h) Q = ocase h[p]? (fun xs => Q (.int xs.length) h) fun kvs => Q (.int kvs.length) h := by
  show OkRx E (match lstOf h (.ref p) with | some xs => .ok (.int xs.length) h | none => (match dctOf h (.ref p) with | some kvs => .ok (.int kvs.length) h | none => .no)) Q = _
  show OkRx E (match (match h[p]? with | some (.lst xs) => some xs | _ => none) with | some xs => .ok (.int xs.length) h | none => (match (match h[p]? with | some (.dct kvs) => some kvs | _ => none) with | some kvs => .ok (.int kvs.length) h | none => .no)) Q = _
  rcases h[p]? with _ | _ | _ | _ <;> rfl
@[simp ↓] theorem okr_abs : OkRx E (bAbs [.int i] h) Q = Q (.int (if i < 0 then -i else i)) h := Eq.trans rfl rfl
@[simp ↓] theorem okr_int : OkRx E (bIntS [.int i] h) Q = Q (.int i) h := Eq.trans rfl rfl
@[simp ↓] theorem okr_intB {x : Bool} : OkRx E (bIntS [.bl x] h) Q = Q (.int (if x then 1 else 0)) h := Eq.trans rfl rfl
@[simp ↓] theorem okr_min : OkRx E (bMin2 [.int i, .int j] h) Q = Q (.int (if j < i then j else i)) h := Eq.trans rfl rfl
@[simp ↓] theorem okr_max : OkRx E (bMax2 [.int i, .int j] h) Q = Q (.int (if j > i then j else i)) h := Eq.trans rfl rfl
@[simp ↓] theorem okr_tupT : OkRx E (bTuple [.tup xs] h) Q = Q (.tup xs) h := Eq.trans rfl rfl
@[simp ↓] theorem okr_tupF : OkRx E (bTuple [.fl xs] h) Q = OkRx E (mkT xs h) Q := Eq.trans rfl rfl
@[simp ↓] theorem okr_tupR : OkRx E (bTuple [.ref p] h) Q = ocase h[p]? (fun xs => OkRx E (mkT xs h) Q) fun _ => False := by
  show OkRx E (match (match h[p]? with | some (.lst xs) => some xs | _ => none) with | some xs => mkT xs h | none => .no) Q = _
  rcases h[p]? with _ | _ | _ | _ <;> rfl
@[simp ↓] theorem okr_listT {hp : Bool} : OkRx E (bList hp [.tup xs] h) Q = OkRx E (mkL hp xs h) Q := Eq.trans rfl rfl
@[simp ↓] theorem okr_listF {hp : Bool} : OkRx E (bList hp [.fl xs] h) Q = OkRx E (mkL hp xs h) Q := Eq.trans rfl rfl
@[simp ↓] theorem okr_listR {hp : Bool} : OkRx E (bList hp [.ref p] h) Q = ocase h[p]? (fun xs => OkRx E (mkL hp xs h) Q) fun _ => False := by
  show OkRx E (match (match h[p]? with | some (.lst xs) => some xs | _ => none) with | some xs => mkL hp xs h | none => .no) Q = _
  rcases h[p]? with _ | _ | _ | _ <;> rfl
@[simp ↓] theorem okr_append {d : D} : OkRx E (eAppend (.ref p) [d] h) Q = ocase h[p]? (fun xs => if xs.length < SZ then Q .non (h.set p (.lst (xs ++ [d]))) else False) fun _ => False := by
  show OkRx E (match h[p]? with | some (.lst xs) => (if xs.length < SZ then .ok .non (h.set p (.lst (xs ++ [d]))) else .no : R D) | _ => .no) Q = _
  rcases h[p]? with _ | xs | _ | _
  · rfl
  · show OkRx E (if _ then _ else _) Q = if _ then _ else _
    split <;> rfl
  · rfl
  · rfl
@[simp ↓] theorem okr_pop0 : OkRx E (ePop (.ref p) [.int 0] h) Q = ocase h[p]? (fun xs => xcons xs fun d xs => Q d (h.set p (.lst xs))) fun _ => False := by
  show OkRx E (match h[p]? with | some (.lst (y :: xs)) => (.ok y (h.set p (.lst xs)) : R D) | _ => .no) Q = _
  rcases h[p]? with _ | xs | _ | _
  · rfl
  · cases xs <;> rfl
  · rfl
  · rfl
@[simp ↓] theorem isT_list : (isT "list" h (.ref p) = true) = ocase h[p]? (fun _ => True) fun _ => False := by
  show ((match h[p]? with | some (.lst xs) => some xs | _ => none).isSome = true) = _
  rcases h[p]? with _ | _ | _ | _
  · exact eq_false (by simp)
  · exact eq_true rfl
  · exact eq_false (by simp)
  · exact eq_false (by simp)
/-! places -/
def ixat {α : Type} (xs : List α) (i : Int) : Option α := (ixD xs.length i).bind fun j => xs[j]?
@[simp ↓] theorem okr_ixF : OkRx E (opIx (.fl xs) (.int i) h) Q = opt (ixat xs i) fun v => Q v h := by
  show OkRx E (match (ixD xs.length i).bind fun j => xs[j]? with | some v => .ok v h | none => .no) Q = _
  unfold ixat
  cases (ixD xs.length i).bind fun j => xs[j]? <;> rfl
@[simp ↓] theorem okr_ixSc : OkRx E (opIx (.sl xs) (.int i) h) Q = opt (ixat xs i) fun v => Q v h := by
  show OkRx E (match (ixD xs.length i).bind fun j => xs[j]? with | some v => .ok v h | none => .no) Q = _
  unfold ixat
  cases (ixD xs.length i).bind fun j => xs[j]? <;> rfl
@[simp ↓] theorem okr_ixT : OkRx E (opIx (.tup xs) (.int i) h) Q = opt (ixat xs i) fun v => Q v h := by
  show OkRx E (match (ixD xs.length i).bind fun j => xs[j]? with | some v => .ok v h | none => .no) Q = _
  unfold ixat
  cases (ixD xs.length i).bind fun j => xs[j]? <;> rfl
@[simp ↓] theorem okr_ixS {s : List Nat} : OkRx E (opIx (.str s) (.int i) h) Q = if s.length ≤ SZ then opt (ixat s i) fun c => Q (.str [c]) h else False := by
  show OkRx E (if _ then (match (ixD s.length i).bind fun j => s[j]? with | some c => .ok (.str [c]) h | none => .no) else .no) Q = _
  unfold ixat
  split
  · cases (ixD s.length i).bind fun j => s[j]? <;> rfl
  · rfl
@[simp ↓] theorem okr_ixR : OkRx E (opIx (.ref p) (.int i) h) Q = ocase h[p]? (fun xs => opt (ixat xs i) fun v => Q v h) fun kvs => opt (dget kvs (.int i)) fun v => Q v h := by
  show OkRx E (match (match h[p]? with | some (.lst xs) => some xs | _ => none) with | some xs => (match (ixD xs.length i).bind fun j => xs[j]? with | some v => .ok v h | none => .no) | none => (match (match h[p]? with | some (.dct kvs) => some kvs | _ => none) with | some kvs => (if isKey (.int i) then (match dget kvs (.int i) with | some v => .ok v h | none => .no) else .no) | none => .no)) Q = _
  rcases h[p]? with _ | xs | kvs | _
  · rfl
  · show OkRx E (match (ixD xs.length i).bind fun j => xs[j]? with | some v => .ok v h | none => .no) Q = opt (ixat xs i) fun v => Q v h
    unfold ixat
    cases (ixD xs.length i).bind fun j => xs[j]? <;> rfl
  · show OkRx E (match dget kvs (.int i) with | some v => .ok v h | none => .no) Q = opt (dget kvs (.int i)) fun v => Q v h
    cases dget kvs (.int i) <;> rfl
  · rfl
theorem ixat_nat {α : Type} {xs : List α} {i : Int} {k : Nat} {v : α} (e : xs[k]? = some v) (hk : i = k) : ixat xs i = some v := by
  have hl : k < xs.length := by
    rcases Nat.lt_or_ge k xs.length with z | z
    · exact z
    · rw [List.getElem?_eq_none z] at e
      cases e
  unfold ixat ixD
  rw [if_pos (by omega), if_pos (by omega)]
  simp only [Option.bind_some]
  rw [hk]
  exact e
theorem opt_ix {α : Type} {xs : List α} {i : Int} {P : α → Prop} (h0 : 0 ≤ i) (h1 : i < xs.length) (q : ∀ v ∈ xs, P v) : opt (ixat xs i) P := by
  have hl : i.toNat < xs.length := by omega
  rw [ixat_nat (k := i.toNat) (v := xs[i.toNat]) (List.getElem?_eq_getElem hl) (by omega)]
  exact q _ (List.getElem_mem hl)
@[simp ↓] theorem ixat_0 {α : Type} {x : α} {xs : List α} : ixat (x :: xs) 0 = some x := ixat_nat (k := 0) rfl rfl
@[simp ↓] theorem ixat_1 {α : Type} {x y : α} {xs : List α} : ixat (x :: y :: xs) 1 = some y := ixat_nat (k := 1) rfl rfl
@[simp ↓] theorem ixat_2 {α : Type} {x y z : α} {xs : List α} : ixat (x :: y :: z :: xs) 2 = some z := ixat_nat (k := 2) rfl rfl
@[simp ↓] theorem ixat_3 {α : Type} {x y z w : α} {xs : List α} : ixat (x :: y :: z :: w :: xs) 3 = some w := ixat_nat (k := 3) rfl rfl
@[simp ↓] theorem okr_slcS {hp : Bool} {s : List Nat} {lo hi : Option Int} : OkRx E (opSlc hp (.str s) lo hi h) Q = if s.length ≤ SZ then Q (.str (cutD s lo hi)) h else False := by
  show OkRx E (if _ then _ else _) Q = _
  split <;> rfl
@[simp ↓] theorem okr_slcT {hp : Bool} {lo hi : Option Int} : OkRx E (opSlc hp (.tup xs) lo hi h) Q = Q (.tup (cutD xs lo hi)) h := Eq.trans rfl rfl
@[simp ↓] theorem okr_slcF {hp : Bool} {lo hi : Option Int} : OkRx E (opSlc hp (.fl xs) lo hi h) Q = OkRx E (mkL hp (cutD xs lo hi) h) Q := Eq.trans rfl rfl
@[simp ↓] theorem okr_slcSc {hp : Bool} {lo hi : Option Int} : OkRx E (opSlc hp (.sl xs) lo hi h) Q = OkRx E (mkL hp (cutD xs lo hi) h) Q := Eq.trans rfl rfl
@[simp ↓] theorem okr_slcR {hp : Bool} {lo hi : Option Int} : OkRx E (opSlc hp (.ref p) lo hi h) Q = ocase h[p]? (fun xs => OkRx E (mkL hp (cutD xs lo hi) h) Q) fun _ => False := by
  show OkRx E (match (match h[p]? with | some (.lst xs) => some xs | _ => none) with | some xs => mkL hp (cutD xs lo hi) h | none => .no) Q = _
  rcases h[p]? with _ | _ | _ | _ <;> rfl
@[simp] theorem cut_all {α : Type} (xs : List α) : cutD xs (some 0) none = xs := by
  unfold cutD sixD
  simp
@[simp ↓] theorem opset_l {v : D} (PH : Hs → Prop) : opt (opSet (.ref p) (.int i) v h) PH = ocase h[p]? (fun xs => opt (ixD xs.length i) fun j => PH (h.set p (.lst (xs.set j v)))) fun kvs => if kvs.length < SZ then PH (h.set p (.dct (dput kvs (.int i) v))) else False := by
  show opt (match h[p]?, D.int i with
    | some (.lst xs), .int i => (match ixD xs.length i with
      | some j => some (h.set p (.lst (xs.set j v)))
      | none => none)
    | some (.dct kvs), y => if isKey y && decide (kvs.length < SZ) then some (h.set p (.dct (dput kvs y v))) else none
    | _, _ => none) PH = _
  rcases h[p]? with _ | xs | kvs | _
  · rfl
  · show opt (match ixD xs.length i with | some j => some (h.set p (.lst (xs.set j v))) | none => none) PH = _
    show _ = opt (ixD xs.length i) _
    cases ixD xs.length i <;> rfl
  · show opt (if isKey (.int i) && decide (kvs.length < SZ) then _ else _) PH = if _ then _ else _
    by_cases e : kvs.length < SZ
    · rw [if_pos e, if_pos (by simp only [isKey, Bool.true_and, decide_eq_true_eq]; exact e)]
      rfl
    · rw [if_neg e, if_neg (by simp only [isKey, Bool.true_and, decide_eq_true_eq]; exact e)]
      rfl
  · rfl
theorem cut_mem {α : Type} {xs : List α} {lo hi : Option Int} {x : α} (q : x ∈ cutD xs lo hi) : x ∈ xs := List.mem_of_mem_drop (List.mem_of_mem_take q)
end
theorem okr_pure {h : Hs} {o : Out} {Q : D → Hs → Prop} (q : OkO o (fun _ h1 => (∃ g, h1 = h ++ g) ∧ Q .non h) (fun v h1 => (∃ g, h1 = h ++ g) ∧ OkR (frz h.length h1 h v) Q) (fun _ _ => False) fun _ _ => False) : OkR (purify h (finB o)) Q := by
  cases o with
  | nx σ h1 =>
    unfold purify finB
    simp only []
    rw [if_pos q.1]
    exact q.2
  | rt d h1 =>
    unfold purify finB
    simp only []
    rw [if_pos q.1]
    exact q.2
  | _ => exact False.elim q
theorem cut_map {α β : Type} (f : α → β) (xs : List α) (lo hi : Option Int) : cutD (xs.map f) lo hi = (cutD xs lo hi).map f := by
  unfold cutD
  rw [List.map_take, List.map_drop, List.length_map]
@[simp] theorem fdivE {a b : Int} (hb : 0 ≤ b) : a.fdiv b = a / b := Int.fdiv_eq_ediv_of_nonneg a hb
@[simp] theorem fmodE {a b : Int} (hb : 0 ≤ b) : a.fmod b = a % b := Int.fmod_eq_emod_of_nonneg a hb
/-! the heap, but for one place -/
def Fr (p : Nat) (h h' : Hs) : Prop := h.length ≤ h'.length ∧ ∀ i, i < h.length → i ≠ p → h'[i]? = h[i]?
theorem Fr.refl (p : Nat) (h : Hs) : Fr p h h := ⟨Nat.le_refl _, fun _ _ _ => rfl⟩
theorem Fr.trans {p : Nat} {h h' h'' : Hs} (a : Fr p h h') (b : Fr p h' h'') : Fr p h h'' := ⟨Nat.le_trans a.1 b.1, fun i hi n => (b.2 i (Nat.lt_of_lt_of_le hi a.1) n).trans (a.2 i hi n)⟩
theorem Fr.set (p : Nat) (h : Hs) (o : O) : Fr p h (h.set p o) := ⟨by simp, fun i hi n => List.getElem?_set_ne (Ne.symm n)⟩
theorem Fr.app (p : Nat) (h g : Hs) : Fr p h (h ++ g) := ⟨by simp, fun i hi _ => List.getElem?_append_left hi⟩
theorem lt_of_at {h : Hs} {p : Nat} {o : O} (e : h[p]? = some o) : p < h.length := by
  rcases Nat.lt_or_ge p h.length with z | z
  · exact z
  · rw [List.getElem?_eq_none z] at e
    cases e
theorem lt_of_at' {α : Type} {xs : List α} {k : Nat} {x : α} (e : xs[k]? = some x) : k < xs.length := by
  rcases Nat.lt_or_ge k xs.length with z | z
  · exact z
  · rw [List.getElem?_eq_none z] at e
    cases e
/-- the draws: a list of numbers of no sign -/
def Dr (p : Nat) (h : Hs) : Prop := ∃ ns : List Int, h[p]? = some (.lst (ns.map .int)) ∧ ∀ n ∈ ns, 0 ≤ n
theorem Dr.lt {p : Nat} {h : Hs} (q : Dr p h) : p < h.length := by
  obtain ⟨ns, e, _⟩ := q
  exact lt_of_at e
theorem Dr.app {p : Nat} {h : Hs} (q : Dr p h) (g : Hs) : Dr p (h ++ g) := by
  have l := q.lt
  obtain ⟨ns, e, nn⟩ := q
  exact ⟨ns, by rw [List.getElem?_append_left l]; exact e, nn⟩
theorem Dr.set {p q : Nat} {h : Hs} (r : Dr p h) (n : q ≠ p) (o : O) : Dr p (h.set q o) := by
  obtain ⟨ns, e, nn⟩ := r
  exact ⟨ns, by rw [List.getElem?_set_ne n]; exact e, nn⟩
theorem Fr.at_ {p i : Nat} {h h' : Hs} {o : O} (f : Fr p h h') (e : h[i]? = some o) (n : i ≠ p) : h'[i]? = some o := (f.2 i (lt_of_at e) n).trans e
/-- a place above is set -/
theorem Fr.set_hi {p q : Nat} {h h' : Hs} (f : Fr p h h') (l : h.length ≤ q) (o : O) : Fr p h (h'.set q o) := ⟨by simpa using f.1, fun i hi n => by
  rw [List.getElem?_set_ne (by omega)]
  exact f.2 i hi n⟩
theorem Fr.app_hi {p : Nat} {h h' : Hs} (f : Fr p h h') (g : Hs) : Fr p h (h' ++ g) := f.trans (Fr.app p h' g)
/-- what was made first is forgotten -/
theorem Fr.of_app {p : Nat} {h g h' : Hs} (f : Fr p (h ++ g) h') : Fr p h h' := (Fr.app p h g).trans f
@[simp ↓] theorem rngL_0 (i : Int) : rngL i 0 = [] := Eq.trans rfl rfl
@[simp ↓] theorem cmp_inT {s : List Nat} {ys : List D} {h : Hs} : cmpD .inn (.str s) (.tup ys) h = if ys.all flatD = true then some (ys.any fun z => D.eqv z (.str s)) else none := by
  show inD h (.str s) (.tup ys) = _
  unfold inD
  split
  · rename_i e1 e2
    cases e2
  · simp [seqOf, flatD]
@[simp] theorem eqv_ss {a b : List Nat} : D.eqv (.str a) (.str b) = (a == b) := Eq.trans rfl rfl
@[simp] theorem flat_s {a : List Nat} : flatD (.str a) = true := Eq.trans rfl rfl
@[simp] theorem flat_i {a : Int} : flatD (.int a) = true := Eq.trans rfl rfl
@[simp ↓] theorem okr_addS {hp : Bool} {a b : List Nat} {h : Hs} {Q : D → Hs → Prop} : OkRx E (opAdd hp (.str a) (.str b) h) Q = (a.length + b.length ≤ SZ ∧ Q (.str (a ++ b)) h) := by
  show OkRx E (if _ then _ else _) Q = _
  split
  · rename_i z
    exact propext ⟨fun q => ⟨z, q⟩, fun q => q.2⟩
  · rename_i z
    exact propext ⟨fun q => q.elim, fun q => z q.1⟩
@[simp ↓] theorem isTy_non {h : Hs} {t : Ty} : isTy h .non t = some false := Eq.trans rfl rfl
@[simp ↓] theorem isTy_int {h : Hs} {i : Int} {t : Ty} : isTy h (.int i) t = some (t == .int) := Eq.trans rfl rfl
@[simp ↓] theorem isTy_bl {h : Hs} {i : Bool} {t : Ty} : isTy h (.bl i) t = some (t == .bool || t == .int) := Eq.trans rfl rfl
@[simp ↓] theorem isTy_str {h : Hs} {i : List Nat} {t : Ty} : isTy h (.str i) t = some (t == .str) := Eq.trans rfl rfl
@[simp ↓] theorem isTy_tup {h : Hs} {i : List D} {t : Ty} : isTy h (.tup i) t = some (t == .tuple) := Eq.trans rfl rfl
@[simp ↓] theorem isTy_fl {h : Hs} {i : List D} {t : Ty} : isTy h (.fl i) t = some (t == .list) := Eq.trans rfl rfl
@[simp ↓] theorem okr_iaddI {i j : Int} {h : Hs} {Q : D → Hs → Prop} : OkRx E (opIAdd (.int i) (.int j) h) Q = Q (.int (i + j)) h := Eq.trans rfl rfl
@[simp] theorem cut_1 {α : Type} (x : α) (xs : List α) : cutD (x :: xs) (some 1) none = xs := by
  unfold cutD sixD
  simp
/-! more operators -/
@[simp ↓] theorem okr_mulS {hp : Bool} {a : List Nat} {k : Int} {h : Hs} {Q : D → Hs → Prop} : OkRx E (opMul hp (.str a) (.int k) h) Q = if 1 ≤ k ∧ k ≤ 1000000 ∧ a.length ≤ 16 then Q (.str (List.replicate k.toNat a).flatten) h else False := by
  show OkRx E (if _ then _ else _) Q = _
  split <;> rfl
@[simp ↓] theorem okr_addT {hp : Bool} {a b : List D} {h : Hs} {Q : D → Hs → Prop} : OkRx E (opAdd hp (.tup a) (.tup b) h) Q = (a.length + b.length ≤ SZ ∧ Q (.tup (a ++ b)) h) := by
  show OkRx E (if _ then _ else _) Q = _
  split
  · rename_i z
    exact propext ⟨fun q => ⟨z, q⟩, fun q => q.2⟩
  · rename_i z
    exact propext ⟨fun q => q.elim, fun q => z q.1⟩
@[simp ↓] theorem cmp_ltS {a b : List Nat} {h : Hs} : cmpD .lt (.str a) (.str b) h = some (decide (a < b)) := Eq.trans rfl rfl
@[simp ↓] theorem cmp_leS {a b : List Nat} {h : Hs} : cmpD .le (.str a) (.str b) h = some (decide (a ≤ b)) := Eq.trans rfl rfl
@[simp ↓] theorem cmp_gtS {a b : List Nat} {h : Hs} : cmpD .gt (.str a) (.str b) h = some (decide (b < a)) := Eq.trans rfl rfl
@[simp ↓] theorem cmp_geS {a b : List Nat} {h : Hs} : cmpD .ge (.str a) (.str b) h = some (decide (b ≤ a)) := Eq.trans rfl rfl
@[simp] theorem lt_one {a b : Nat} : ([a] < [b]) ↔ a < b := by
  constructor
  · intro q
    cases q with
    | rel h => exact h
    | cons h => cases h
  · exact List.Lex.rel
@[simp] theorem le_one {a b : Nat} : ([a] ≤ [b]) ↔ a ≤ b := by
  show ¬ ([b] < [a]) ↔ a ≤ b
  rw [lt_one]
  omega
@[simp ↓] theorem okr_ord {c : Nat} {h : Hs} {Q : D → Hs → Prop} : OkRx E (bOrd [.str [c]] h) Q = Q (.int c) h := Eq.trans rfl rfl
@[simp ↓] theorem is_bb {a b : Bool} : isD (.bl a) (.bl b) = some (a == b) := Eq.trans rfl rfl
@[simp ↓] theorem is_nn : isD .non .non = some true := Eq.trans rfl rfl
theorem is_b {x : D} {b : Bool} (h : ∀ c, x ≠ .bl c) : isD x (.bl b) = some false := by
  cases x with
  | bl c => exact absurd rfl (h c)
  | _ => rfl
theorem is_n {x : D} (h : x ≠ .non) : isD x .non = some false := by
  cases x with
  | non => exact absurd rfl h
  | _ => rfl
/-- equal things -/
theorem eq_tupR {xs : List D} {h : Hs} (d : ∀ x ∈ xs, D.dat 0 x = true) (e : ∀ x ∈ xs, D.eqv x x = true) : cmpD .eq (.tup xs) (.tup xs) h = some true := by
  have z1 : ∀ m, D.dats m xs = true := fun m => by
    clear e
    induction xs with
    | nil => cases m <;> rfl
    | cons x xs ih =>
      have a : D.dat m x = true := by
        have := d x (by simp)
        cases x <;> first | (cases m <;> exact this) | cases this
      show (D.dat m x && D.dats m xs) = true
      rw [a, ih fun v hv => d v (by simp [hv])]
      rfl
  have z2 : D.eqvs xs xs = true := by
    clear z1 d
    induction xs with
    | nil => rfl
    | cons x xs ih =>
      show (D.eqv x x && D.eqvs xs xs) = true
      rw [e x (by simp), ih fun v hv => e v (by simp [hv])]
      rfl
  show (if D.dats 63 xs && D.dats 63 xs then some (D.eqvs xs xs) else none) = _
  rw [z1 63, z2]
  rfl
/-! all -/
section
variable {σ : Env} {h : Hs} {m : M D} {t : M Bool} {Q : D → Hs → Prop} {g : Tg} {xs : List D}
@[simp ↓] theorem okr_all {own is : List Nat} {it : It} : OkRx E (mAll own is it t m σ h) Q = OkRx E (it σ h) fun p h1 => OkRx E (allGo p.2 own (cTg is) t m p.1 σ h1) Q := by
  unfold mAll
  rw [okr_bind]
theorem all_inv {chk : Hs → Prop} {own : List Nat} (I : List D → Hs → Prop) (hc : ∀ xs h, I xs h → chk h) (hn : ∀ h, I [] h → Q (.bl true) h)
    (hs : ∀ x xs h, I (x :: xs) h → OkR (g x (wipeE σ own) h) fun σ1 h1 => OkR (t σ1 h1) fun c h2 => if c = true then OkR (m σ1 h2) fun y h3 => asB y fun b => if b = true then I xs h3 else Q (.bl false) h3 else I xs h2) :
    ∀ (xs : List D) (h : Hs), I xs h → OkRx E (allGo chk own g t m xs σ h) Q
  | [], h, q => by
    unfold allGo
    rw [if_pos (hc _ _ q)]
    exact hn _ q
  | x :: xs, h, q => by
    unfold allGo
    rw [if_pos (hc _ _ q)]
    have z := hs x xs h q
    cases e : g x (wipeE σ own) h with
    | no => rw [e] at z; exact z.elim
    | xc _ _ _ => rw [e] at z; exact z.elim
    | ok σ1 h1 =>
      rw [e] at z
      have z : OkR (t σ1 h1) _ := z
      simp only []
      cases e1 : t σ1 h1 with
      | no => rw [e1] at z; exact z.elim
      | xc _ _ _ => rw [e1] at z; exact z.elim
      | ok c h2 =>
        rw [e1] at z
        cases c with
        | false => exact all_inv I hc hn hs xs h2 z
        | true =>
          have z : OkR (m σ1 h2) _ := z
          simp only []
          cases e2 : m σ1 h2 with
          | no => rw [e2] at z; exact z.elim
          | xc _ _ _ => rw [e2] at z; exact z.elim
          | ok y h3 =>
            rw [e2] at z
            cases y with
            | bl b =>
              have z : (if b = true then I xs h3 else Q (.bl false) h3) := z
              cases b with
              | true => exact all_inv I hc hn hs xs h3 z
              | false => exact z
            | _ => exact z.elim
theorem all_t {own : List Nat} (I : List D → Hs → Prop) (q : I xs h) (hn : ∀ h, I [] h → Q (.bl true) h)
    (hs : ∀ x xs h, I (x :: xs) h → OkR (g x (wipeE σ own) h) fun σ1 h1 => OkR (t σ1 h1) fun c h2 => if c = true then OkR (m σ1 h2) fun y h3 => asB y fun b => if b = true then I xs h3 else Q (.bl false) h3 else I xs h2) :
    OkRx E (allGo chkTrue own g t m xs σ h) Q := all_inv I (fun _ _ _ => trivial) hn hs xs h q
end
/-! exceptions -/
def two (xs : List D) (P : D → D → Prop) : Prop := match xs with
  | [u, v] => P u v
  | _ => False
@[simp ↓] theorem two_c (u v : D) (P : D → D → Prop) : two [u, v] P = P u v := Eq.trans rfl rfl
section
variable {qn qb qc : Env → Hs → Prop} {qr : D → Hs → Prop} {σ : Env} {h : Hs} {b : B} {mt : Nat → Nat → Option Bool} {hs : List HdE} {c : Nat} {fs : List (Nat × D)} {Q : D → Hs → Prop}
@[simp ↓] theorem oko_xc : OkOx F (.xc c fs σ h) qn qr qb qc = F c fs σ h := Eq.trans rfl rfl
@[simp ↓] theorem oko_raise : OkOx F (sRaise c σ h) qn qr qb qc = F c [] σ h := Eq.trans rfl rfl
theorem oko_try : OkOx F (sTry mt b hs σ h) qn qr qb qc = OkOx (fun c fs σ1 h1 => OkOx F (hGo mt c fs hs σ1 h1) qn qr qb qc) (b σ h) qn qr qb qc := by
  unfold sTry
  cases b σ h <;> rfl
@[simp ↓] theorem hgo_nil : OkOx F (hGo mt c fs [] σ h) qn qr qb qc = F c fs σ h := Eq.trans rfl rfl
theorem hgo_no {k : Nat} {sl : Option Nat} {s : Nat → List (Nat × D) → B} {r : List HdE} (e : mt c k = some false) : OkOx F (hGo mt c fs ((k, sl, s) :: r) σ h) qn qr qb qc = OkOx F (hGo mt c fs r σ h) qn qr qb qc := by
  conv => lhs; unfold hGo
  rw [e]
theorem hgo_as {k i : Nat} {s : Nat → List (Nat × D) → B} {r : List HdE} (e : mt c k = some true) (l : i < σ.length) : OkOx F (hGo mt c fs ((k, some i, s) :: r) σ h) qn qr qb qc = OkO (s c fs (σ.set i none) h) (fun σ h => qn (σ.set i none) h) qr (fun σ h => qb (σ.set i none) h) (fun σ h => qc (σ.set i none) h) := by
  conv => lhs; unfold hGo
  rw [e]
  show OkOx F (if i < σ.length then hEnd (some i) (s c fs (σ.set i none) h) else .no) _ _ _ _ = _
  rw [if_pos l]
  cases s c fs (σ.set i none) h <;> rfl
theorem hgo_only {k : Nat} {s : Nat → List (Nat × D) → B} {r : List HdE} (e : mt c k = some true) : OkOx F (hGo mt c fs ((k, none, s) :: r) σ h) qn qr qb qc = OkO (s c fs σ h) qn qr qb qc := by
  conv => lhs; unfold hGo
  rw [e]
  show OkOx F (hEnd none (s c fs σ h)) _ _ _ _ = _
  cases s c fs σ h <;> rfl
theorem okr_xis {k : Nat} {v : Bool} (e : mt c k = some v) : OkRx E (mXis mt c [] k σ h) Q = Q (.bl v) h := by
  unfold mXis
  rw [e]
  rfl
theorem okr_xiv {v : Bool} (e : mt c c = some v) : OkRx E (mXiv mt c [] σ h) Q = Q (.bl true) h := by
  unfold mXiv
  rw [e]
  rfl
@[simp ↓] theorem oko_par {i j : Nat} {ml : M (List D)} : OkOx F (sPar i j ml σ h) qn qr qb qc = OkRx (fun c fs h => F c fs σ h) (ml σ h) fun ds h1 => two ds fun u v => qn ((σ.set i (some u)).set j (some v)) h1 := by
  unfold sPar
  rw [oko_out]
  congr 1
  funext ds h1
  match ds with
  | [u, v] => rfl
  | [] => rfl
  | [_] => rfl
  | _ :: _ :: _ :: _ => rfl
end
/-! instances, dicts -/
def asRef (x : D) (P : Nat → Prop) : Prop := match x with
  | .ref p => P p
  | _ => False
@[simp ↓] theorem asRef_r (p : Nat) (P : Nat → Prop) : asRef (.ref p) P = P p := Eq.trans rfl rfl
def icase (o : Option O) (P : Nat → List (Nat × D) → Prop) : Prop := match o with
  | some (.ins c fs) => P c fs
  | _ => False
@[simp ↓] theorem icase_i (c : Nat) (fs : List (Nat × D)) (P : Nat → List (Nat × D) → Prop) : icase (some (.ins c fs)) P = P c fs := Eq.trans rfl rfl
@[simp] theorem fOk_nil {na : Nat} : fOk na [] = true := Eq.trans rfl rfl
@[simp] theorem fOk_cons {na k : Nat} {v : D} {r : List (Nat × D)} : fOk na ((k, v) :: r) = (decide (k < na) && fOk na r) := Eq.trans rfl rfl
@[simp] theorem fput_nil {k : Nat} {v : D} : fput k v [] = [(k, v)] := Eq.trans rfl rfl
@[simp] theorem fput_cons {k j : Nat} {v x : D} {r : List (Nat × D)} : fput k v ((j, x) :: r) = if j = k then (j, v) :: r else (j, x) :: fput k v r := Eq.trans rfl rfl
section
variable {σ : Env} {h : Hs} {m o : M D} {ml : M (List D)} {Q : D → Hs → Prop} {qn qb qc : Env → Hs → Prop} {qr : D → Hs → Prop} {na k c f ar p : Nat} {ok : Nat → Bool} {C : Calls} {mt : Nat → Option (Nat × Nat)}
@[simp ↓] theorem okr_fld : OkRx E (mFld na k ok m σ h) Q = OkRx E (m σ h) fun x h1 => asRef x fun p => icase h1[p]? fun c fs => if ok c = true ∧ fOk na fs = true ∧ k < na then opt (fs.lookup k) fun d => Q d h1 else False := by
  unfold mFld
  rw [okr_bind]
  congr 1
  funext x h1
  cases x with
  | ref p =>
    show OkRx E (match h1[p]? with | some (.ins c fs) => _ | _ => .no) Q = icase h1[p]? _
    rcases h1[p]? with _ | _ | _ | ⟨c, fs⟩
    · rfl
    · rfl
    · rfl
    · show OkRx E (if ok c && (fOk na fs && decide (k < na)) then _ else .no) Q = _
      rw [icase_i]
      by_cases z : ok c = true ∧ fOk na fs = true ∧ k < na
      · rw [if_pos z, if_pos (by rw [z.1, z.2.1, decide_eq_true z.2.2]; rfl)]
        cases fs.lookup k <;> rfl
      · rw [if_neg z, if_neg (by simpa using z)]
        rfl
  | _ => rfl
@[simp ↓] theorem oko_flds : OkOx F (sFldS na k ok m o σ h) qn qr qb qc = OkRx (fun c fs h => F c fs σ h) (m σ h) fun v h1 => OkRx (fun c fs h => F c fs σ h) (o σ h1) fun x h2 => asRef x fun p => icase h2[p]? fun c fs => if ok c = true ∧ fOk na fs = true ∧ k < na ∧ fs.length < 1000 then qn σ (h2.set p (.ins c (fput k v fs))) else False := by
  unfold sFldS
  rw [oko_out]
  congr 1
  funext v h1
  rw [oko_out]
  congr 1
  funext x h2
  cases x with
  | ref p =>
    show OkOx F (match h2[p]? with | some (.ins c fs) => _ | _ => .no) _ _ _ _ = icase h2[p]? _
    rcases h2[p]? with _ | _ | _ | ⟨c, fs⟩
    · rfl
    · rfl
    · rfl
    · show OkOx F (if ok c && (fOk na fs && (decide (k < na) && decide (fs.length < 1000))) then _ else .no) _ _ _ _ = _
      rw [icase_i]
      by_cases z : ok c = true ∧ fOk na fs = true ∧ k < na ∧ fs.length < 1000
      · rw [if_pos z, if_pos (by rw [z.1, z.2.1, decide_eq_true z.2.2.1, decide_eq_true z.2.2.2]; rfl)]
        rfl
      · rw [if_neg z, if_neg (by simpa using z)]
        rfl
  | _ => rfl
@[simp ↓] theorem okr_mth : OkRx E (mMth1 na C mt o ml σ h) Q = OkRx E (o σ h) fun x h1 => asRef x fun p => icase h1[p]? fun c fs => opt (mt c) fun fa => if fOk na fs = true then OkRx E (ml σ h1) fun ds h2 => if ds.length + 1 = fa.2 then OkRx E (C fa.1 (.ref p :: ds) h2) Q else False else False := by
  unfold mMth1
  rw [okr_bind]
  congr 1
  funext x h1
  cases x with
  | ref p =>
    show OkRx E (match h1[p]? with | some (.ins c fs) => _ | _ => .no) Q = icase h1[p]? _
    rcases h1[p]? with _ | _ | _ | ⟨c, fs⟩
    · rfl
    · rfl
    · rfl
    · show OkRx E (match mt c with | some (f, ar) => _ | none => .no) Q = _
      rw [icase_i]
      rcases mt c with _ | ⟨f, ar⟩
      · rfl
      · show OkRx E (if fOk na fs = true then _ else .no) Q = _
        rw [opt_some]
        by_cases z : fOk na fs = true
        · rw [if_pos z, if_pos z, okr_bind]
          congr 1
          funext ds h2
          split <;> rfl
        · rw [if_neg z, if_neg z]
          rfl
  | _ => rfl
@[simp ↓] theorem okr_make : OkRx E (mMake C c f ar ml σ h) Q = OkRx E (ml σ h) fun ds h1 => if ds.length + 1 = ar then OkRx E (C f (.ref h1.length :: ds) (h1 ++ [.ins c []])) (fun v h2 => v = .non ∧ Q (.ref h1.length) h2) else False := by
  unfold mMake
  rw [okr_bind]
  congr 1
  funext ds h1
  split
  · cases e : C f (.ref h1.length :: ds) (h1 ++ [.ins c []]) with
    | ok d h2 =>
      cases d <;> simp [mkEnd]
    | xc a b h2 => rfl
    | no => rfl
  · rfl
@[simp ↓] theorem okr_disp {ks : List D} {ms : List (M D)} : OkRx E (mDisp ks ms σ h) Q = OkRx E (mList ms σ h) fun ds h1 => if ks.length = ds.length ∧ ks.length ≤ 15 ∧ ks.all isKey = true then Q (.ref h1.length) (h1 ++ [.dct (mergeD (ks.zip ds))]) else False := by
  unfold mDisp
  rw [okr_bind]
  congr 1
  funext ds h1
  split <;> rfl
@[simp ↓] theorem okr_list0 {QL : List D → Hs → Prop} : OkRx E (mList [] σ h) QL = QL [] h := Eq.trans rfl rfl
@[simp ↓] theorem okr_list1 {ms : List (M D)} {QL : List D → Hs → Prop} : OkRx E (mList (m :: ms) σ h) QL = OkRx E (m σ h) fun x h1 => OkRx E (mList ms σ h1) fun xs h2 => QL (x :: xs) h2 := okr_cons
@[simp ↓] theorem okr_ixD {s : List Nat} : OkRx E (opIx (.ref p) (.str s) h) Q = ocase h[p]? (fun _ => False) fun kvs => opt (dget kvs (.str s)) fun v => Q v h := by
  show OkRx E (match (match h[p]? with | some (.lst xs) => some xs | _ => none) with | some xs => .no | none => (match (match h[p]? with | some (.dct kvs) => some kvs | _ => none) with | some kvs => (if isKey (.str s) then (match dget kvs (.str s) with | some v => .ok v h | none => .no) else .no) | none => .no)) Q = _
  rcases h[p]? with _ | xs | kvs | _
  · rfl
  · rfl
  · show OkRx E (match dget kvs (.str s) with | some v => .ok v h | none => .no) Q = opt (dget kvs (.str s)) fun v => Q v h
    cases dget kvs (.str s) <;> rfl
  · rfl
@[simp] theorem dget_nil {x : D} : dget [] x = none := Eq.trans rfl rfl
@[simp] theorem dget_cons {a s : List Nat} {v : D} {r : List (D × D)} : dget ((.str a, v) :: r) (.str s) = if a = s then some v else dget r (.str s) := by
  show (if (a == s) = true then _ else _) = _
  by_cases z : a = s
  · rw [if_pos z, if_pos (by simpa using z)]
  · rw [if_neg z, if_neg (by simpa using z)]
@[simp ↓] theorem opset_d {s : List Nat} {v : D} (PH : Hs → Prop) : opt (opSet (.ref p) (.str s) v h) PH = ocase h[p]? (fun _ => False) fun kvs => if kvs.length < SZ then PH (h.set p (.dct (dput kvs (.str s) v))) else False := by
  show opt (match h[p]?, D.str s with
    | some (.lst xs), .int i => (match ixD xs.length i with
      | some j => some (h.set p (.lst (xs.set j v)))
      | none => none)
    | some (.dct kvs), y => if isKey y && decide (kvs.length < SZ) then some (h.set p (.dct (dput kvs y v))) else none
    | _, _ => none) PH = _
  rcases h[p]? with _ | xs | kvs | _
  · rfl
  · rfl
  · show opt (if isKey (.str s) && decide (kvs.length < SZ) then _ else _) PH = if _ then _ else _
    by_cases e : kvs.length < SZ
    · rw [if_pos e, if_pos (by simp only [isKey, Bool.true_and, decide_eq_true_eq]; exact e)]
      rfl
    · rw [if_neg e, if_neg (by simp only [isKey, Bool.true_and, decide_eq_true_eq]; exact e)]
      rfl
  · rfl
@[simp ↓] theorem okr_mulR {hp : Bool} {i : Int} : OkRx E (opMul hp (.ref p) (.int i) h) Q = ocase h[p]? (fun xs => if -(2 ^ 63) ≤ i ∧ i < 2 ^ 63 ∧ xs.length * i.toNat ≤ SZ then OkRx E (mkL hp (List.replicate i.toNat xs).flatten h) Q else False) fun _ => False := by
  show OkRx E (match (match h[p]? with | some (.lst xs) => some xs | _ => none) with | some xs => (if _ then _ else _) | none => .no) Q = _
  rcases h[p]? with _ | xs | kvs | _
  · rfl
  · show OkRx E (if _ then _ else _) Q = if _ then _ else _
    split <;> rfl
  · rfl
  · rfl
@[simp ↓] theorem okr_addRF {hp : Bool} {ys : List D} : OkRx E (opAdd hp (.ref p) (.fl ys) h) Q = ocase h[p]? (fun xs => if xs.length + ys.length ≤ SZ then OkRx E (mkL hp (xs ++ ys) h) Q else False) fun _ => False := by
  show OkRx E (match (match h[p]? with | some (.lst xs) => some xs | _ => none), some ys with | some xs, some ys => (if _ then _ else _) | _, _ => .no) Q = _
  rcases h[p]? with _ | xs | kvs | _
  · rfl
  · show OkRx E (if _ then _ else _) Q = if _ then _ else _
    split <;> rfl
  · rfl
  · rfl
theorem dats_of {m : Nat} {xs : List D} (q : ∀ x ∈ xs, D.dat m x = true) : D.dats m xs = true := by
  induction xs with
  | nil => cases m <;> rfl
  | cons x xs ih =>
    show (D.dat m x && D.dats m xs) = true
    rw [q x (by simp), ih fun v hv => q v (by simp [hv])]
    rfl
theorem eqvs_of {xs : List D} (q : ∀ x ∈ xs, D.eqv x x = true) : D.eqvs xs xs = true := by
  induction xs with
  | nil => rfl
  | cons x xs ih =>
    show (D.eqv x x && D.eqvs xs xs) = true
    rw [q x (by simp), ih fun v hv => q v (by simp [hv])]
    rfl
/-- two lists of the heap with the same texts -/
theorem eq_lists {q : Nat} {xs : List (List Nat)} (e1 : h[p]? = some (.lst (xs.map .str))) (e2 : h[q]? = some (.lst (xs.map .str))) (hc : ∀ x ∈ xs, x.all (· < 1114112) = true) : cmpD .eq (.ref p) (.ref q) h = some true := by
  have d1 : datOf h (.ref p) = .fl (xs.map .str) := by
    show (match h[p]? with | some (.lst xs) => D.fl xs | _ => .ref p) = _
    rw [e1]
  have d2 : datOf h (.ref q) = .fl (xs.map .str) := by
    show (match h[q]? with | some (.lst xs) => D.fl xs | _ => .ref q) = _
    rw [e2]
  show (if D.dat 64 (datOf h (.ref p)) && D.dat 64 (datOf h (.ref q)) then some (D.eqv (datOf h (.ref p)) (datOf h (.ref q))) else none) = _
  rw [d1, d2]
  have z1 : D.dat 64 (.fl (xs.map .str)) = true := dats_of (m := 63) fun x hx => by
    obtain ⟨y, hy, rfl⟩ := List.mem_map.mp hx
    exact hc y hy
  have z2 : D.eqv (.fl (xs.map .str)) (.fl (xs.map .str)) = true := eqvs_of fun x hx => by
    obtain ⟨y, hy, rfl⟩ := List.mem_map.mp hx
    simp
  rw [z1, z2]
  rfl
end
/-! cuts: what stands behind the first statements -/
section
variable {qn qb qc : Env → Hs → Prop} {qr : D → Hs → Prop} {σ : Env} {h : Hs} {s1 s2 s3 r : B}
theorem cut1 (M : Env → Hs → Prop) (p : OkOx F (s1 σ h) M qr qb qc) (q : ∀ σ1 h1, M σ1 h1 → OkOx F (r σ1 h1) qn qr qb qc) : OkOx F (sSeq s1 r σ h) qn qr qb qc := by
  rw [oko_seq]
  exact p.mono q (fun _ _ z => z) (fun _ _ z => z) fun _ _ z => z
theorem cut2 (M : Env → Hs → Prop) (p : OkOx F (sSeq s1 s2 σ h) M qr qb qc) (q : ∀ σ1 h1, M σ1 h1 → OkOx F (r σ1 h1) qn qr qb qc) : OkOx F (sSeq s1 (sSeq s2 r) σ h) qn qr qb qc := by
  rw [oko_seq] at p ⊢
  exact p.mono (fun _ _ z => cut1 M z q) (fun _ _ z => z) (fun _ _ z => z) fun _ _ z => z
theorem cut3 (M : Env → Hs → Prop) (p : OkOx F (sSeq s1 (sSeq s2 s3) σ h) M qr qb qc) (q : ∀ σ1 h1, M σ1 h1 → OkOx F (r σ1 h1) qn qr qb qc) : OkOx F (sSeq s1 (sSeq s2 (sSeq s3 r)) σ h) qn qr qb qc := by
  rw [oko_seq] at p ⊢
  exact p.mono (fun _ _ z => cut2 M z q) (fun _ _ z => z) (fun _ _ z => z) fun _ _ z => z
end
/-! texts and numbers of lists -/
@[simp] theorem intsOf_map : ∀ {ns : List Int}, intsOf (ns.map .int) = some ns
  | [] => rfl
  | i :: ns => by
    show (match intsOf (ns.map .int) with | some ns => some (i :: ns) | none => none) = _
    rw [intsOf_map]
@[simp] theorem txtsOf_map : ∀ {ns : List (List Nat)}, txtsOf (ns.map .str) = some ns
  | [] => rfl
  | i :: ns => by
    show (match txtsOf (ns.map .str) with | some ns => some (i :: ns) | none => none) = _
    rw [txtsOf_map]
@[simp] theorem intsOf_nil : intsOf [] = some [] := rfl
@[simp] theorem txtsOf_nil : txtsOf [] = some [] := rfl
@[simp] theorem intsOf_cons {i : Int} {ds : List D} : intsOf (.int i :: ds) = (intsOf ds).map (i :: ·) := by
  show (match intsOf ds with | some ns => some (i :: ns) | none => none) = _
  cases intsOf ds <;> rfl
@[simp] theorem txtsOf_cons {i : List Nat} {ds : List D} : txtsOf (.str i :: ds) = (txtsOf ds).map (i :: ·) := by
  show (match txtsOf ds with | some ns => some (i :: ns) | none => none) = _
  cases txtsOf ds <;> rfl
section
variable {E : XR} {h : Hs} {Q : D → Hs → Prop} {i : Int} {s a b : List Nat} {xs : List D} {p : Nat}
@[simp ↓] theorem okr_strI : OkRx E (bStr [.int i] h) Q = (i.natAbs.log2 < 1920 ∧ Q (.str (decT i)) h) := by
  show OkRx E (if _ then _ else _) Q = _
  split
  · rename_i z
    exact (propext ⟨fun q => ⟨z, q⟩, fun q => q.2⟩)
  · rename_i z
    exact (propext ⟨fun q => q.elim, fun q => absurd q.1 z⟩)
@[simp ↓] theorem okr_strS : OkRx E (bStr [.str s] h) Q = Q (.str s) h := Eq.trans rfl rfl
@[simp ↓] theorem okr_intT : OkRx E (bIntS [.str s] h) Q = opt (PySem.intText? (toS s)) fun n => s.length ≤ 640 ∧ Q (.int n) h := by
  show OkRx E (match PySem.intText? (toS s) with | some n => (if s.length ≤ 640 then .ok (.int n) h else .no : R D) | none => .no) Q = _
  cases PySem.intText? (toS s) with
  | none => rfl
  | some n =>
    show OkRx E (if _ then _ else _) Q = _
    split
    · rename_i z
      exact (propext ⟨fun q => ⟨z, q⟩, fun q => q.2⟩)
    · rename_i z
      exact (propext ⟨fun q => q.elim, fun q => absurd q.1 z⟩)
theorem okr_numsX {f : List Int → Int} {z : Bool} {o : Option (List D)} : OkRx E (match o with
    | some xs => (match intsOf xs with
      | some ns => if z || decide (0 < ns.length) then .ok (.int (f ns)) h else .no
      | none => .no)
    | none => .no : R D) Q = opt o fun xs => opt (intsOf xs) fun ns => (z = true ∨ 0 < ns.length) ∧ Q (.int (f ns)) h := by
  cases o with
  | none => rfl
  | some xs =>
    show OkRx E (match intsOf xs with
      | some ns => if z || decide (0 < ns.length) then .ok (.int (f ns)) h else .no
      | none => .no : R D) Q = opt (intsOf xs) fun ns => (z = true ∨ 0 < ns.length) ∧ Q (.int (f ns)) h
    cases intsOf xs with
    | none => rfl
    | some ns =>
      show OkRx E (if _ then _ else _) Q = ((z = true ∨ 0 < ns.length) ∧ Q (.int (f ns)) h)
      split
      · rename_i w
        exact (propext ⟨fun q => ⟨by simpa using w, q⟩, fun q => q.2⟩)
      · rename_i w
        exact (propext ⟨fun q => q.elim, fun q => absurd (by simpa using q.1) w⟩)
theorem opt_lst {P : List D → Prop} : opt (lstOf h (.ref p)) P = ocase h[p]? P fun _ => False := by
  show opt (match h[p]? with | some (.lst xs) => some xs | _ => none) P = _
  rcases h[p]? with _ | _ | _ | _ <;> rfl
theorem opt_seq {P : List D → Prop} : opt (seqOf h (.ref p)) P = ocase h[p]? P fun _ => False := opt_lst
@[simp ↓] theorem okr_sumF : OkRx E (bSum [.fl xs] h) Q = opt (intsOf xs) fun ns => Q (.int ns.sum) h := by
  refine (okr_numsX (f := List.sum) (z := true) (o := some xs)).trans ?_
  show opt (intsOf xs) _ = _
  cases intsOf xs <;> simp [opt]
@[simp ↓] theorem okr_sumR : OkRx E (bSum [.ref p] h) Q = ocase h[p]? (fun xs => opt (intsOf xs) fun ns => Q (.int ns.sum) h) fun _ => False := by
  refine (okr_numsX (f := List.sum) (z := true) (o := lstOf h (.ref p))).trans ?_
  rw [opt_lst]
  rcases h[p]? with _ | xs | _ | _ <;> try rfl
  show opt (intsOf xs) _ = opt (intsOf xs) _
  cases intsOf xs <;> simp [opt]
@[simp ↓] theorem okr_maxF : OkRx E (bMax1 [.fl xs] h) Q = opt (intsOf xs) fun ns => 0 < ns.length ∧ Q (.int (maxI ns)) h := by
  refine (okr_numsX (f := maxI) (z := false) (o := some xs)).trans ?_
  show opt (intsOf xs) _ = _
  cases intsOf xs <;> simp [opt]
@[simp ↓] theorem okr_maxR : OkRx E (bMax1 [.ref p] h) Q = ocase h[p]? (fun xs => opt (intsOf xs) fun ns => 0 < ns.length ∧ Q (.int (maxI ns)) h) fun _ => False := by
  refine (okr_numsX (f := maxI) (z := false) (o := lstOf h (.ref p))).trans ?_
  rw [opt_lst]
  rcases h[p]? with _ | xs | _ | _ <;> try rfl
  show opt (intsOf xs) _ = opt (intsOf xs) _
  cases intsOf xs <;> simp [opt]
@[simp ↓] theorem okr_minF : OkRx E (bMin1 [.fl xs] h) Q = opt (intsOf xs) fun ns => 0 < ns.length ∧ Q (.int (minI ns)) h := by
  refine (okr_numsX (f := minI) (z := false) (o := some xs)).trans ?_
  show opt (intsOf xs) _ = _
  cases intsOf xs <;> simp [opt]
@[simp ↓] theorem okr_minR : OkRx E (bMin1 [.ref p] h) Q = ocase h[p]? (fun xs => opt (intsOf xs) fun ns => 0 < ns.length ∧ Q (.int (minI ns)) h) fun _ => False := by
  refine (okr_numsX (f := minI) (z := false) (o := lstOf h (.ref p))).trans ?_
  rw [opt_lst]
  rcases h[p]? with _ | xs | _ | _ <;> try rfl
  show opt (intsOf xs) _ = opt (intsOf xs) _
  cases intsOf xs <;> simp [opt]
theorem okr_joinX {d : D} : OkRx E (eJoin (.str a) [d] h) Q = opt (seqOf h d) fun xs => opt (txtsOf xs) fun ys => (ys.map List.length).sum + ys.length * a.length ≤ SZ ∧ Q (.str (joinT a ys)) h := by
  show OkRx E (match seqOf h d with
    | some xs => (match txtsOf xs with
      | some ys => if (ys.map List.length).sum + ys.length * a.length ≤ SZ then .ok (.str (joinT a ys)) h else .no
      | none => .no)
    | none => .no : R D) Q = _
  cases seqOf h d with
  | none => rfl
  | some xs =>
    show OkRx E (match txtsOf xs with
      | some ys => if (ys.map List.length).sum + ys.length * a.length ≤ SZ then .ok (.str (joinT a ys)) h else .no
      | none => .no : R D) Q = opt (txtsOf xs) _
    cases txtsOf xs with
    | none => rfl
    | some ys =>
      show OkRx E (if _ then _ else _) Q = (_ ∧ _)
      split
      · rename_i z
        exact (propext ⟨fun q => ⟨z, q⟩, fun q => q.2⟩)
      · rename_i z
        exact (propext ⟨fun q => q.elim, fun q => absurd q.1 z⟩)
@[simp ↓] theorem okr_joinF : OkRx E (eJoin (.str a) [.fl xs] h) Q = opt (txtsOf xs) fun ys => (ys.map List.length).sum + ys.length * a.length ≤ SZ ∧ Q (.str (joinT a ys)) h := okr_joinX
@[simp ↓] theorem okr_joinR : OkRx E (eJoin (.str a) [.ref p] h) Q = ocase h[p]? (fun xs => opt (txtsOf xs) fun ys => (ys.map List.length).sum + ys.length * a.length ≤ SZ ∧ Q (.str (joinT a ys)) h) fun _ => False := okr_joinX.trans opt_seq
@[simp ↓] theorem okr_split {hp : Bool} : OkRx E (eSplit hp (.str a) [.str b] h) Q = ((0 < b.length ∧ a.length + 2 ≤ SZ) ∧ OkRx E (mkL hp ((splitT a b).map .str) h) Q) := by
  show OkRx E (if _ then _ else _) Q = _
  split
  · rename_i z
    exact (propext ⟨fun q => ⟨z, q⟩, fun q => q.2⟩)
  · rename_i z
    exact (propext ⟨fun q => q.elim, fun q => absurd q.1 z⟩)
@[simp ↓] theorem okr_split2 {hp : Bool} : OkRx E (eSplit2 hp (.str a) [.str b, .int i] h) Q = ((0 < b.length ∧ a.length + 2 ≤ SZ ∧ -(2 ^ 63) ≤ i ∧ i < 2 ^ 63) ∧ OkRx E (mkL hp ((splitM a b i).map .str) h) Q) := by
  show OkRx E (if _ then _ else _) Q = _
  split
  · rename_i z
    exact (propext ⟨fun q => ⟨z, q⟩, fun q => q.2⟩)
  · rename_i z
    exact (propext ⟨fun q => q.elim, fun q => absurd q.1 z⟩)
@[simp ↓] theorem okr_starts : OkRx E (eStarts (.str a) [.str b] h) Q = Q (.bl (Txt.startswith (toS a) (toS b))) h := Eq.trans rfl rfl
@[simp ↓] theorem okr_find : OkRx E (eFind (.str a) [.str b] h) Q = Q (.int (Txt.find (toS a) (toS b))) h := Eq.trans rfl rfl
end
end DN

set_option Elab.async false
set_option linter.all false
set_option maxRecDepth 100000
/-! TX: texts cut at a sign, and joined: laws of lists. -/
namespace DN
open PySem PySem.Builtin PySem.Builtin.Str PySem.StrLaws
def posC (c : Nat) : Nat → List Nat → List Nat
  | _, [] => []
  | i, a :: r => if a = c then i :: posC c (i + 1) r else posC c (i + 1) r
theorem occ_loop {x : PySem.Str} {c m : Nat} : ∀ (l : List Nat) (i : Nat) (f : Array Nat) (free : Nat), free ≤ i → x.cps.toList.drop i = l → i + l.length = x.length →
    (forIn (List.range' i (l.length + 1)) (f, free) (occBody x (toS [c]) x.length m)).run.fst.toList = f.toList ++ (posC c i l).take (m - f.size)
  | [], i, f, free, hf, hd, hl => by
    have hl : i = x.length := by simpa using hl
    show (forIn (i :: []) (f, free) (occBody x (toS [c]) x.length m)).run.fst.toList = _
    rw [List.forIn_cons]
    unfold occBody
    have e : (toS [c]).length = 1 := rfl
    rw [if_neg (by rw [e]; intro z; have := z.1.2; omega)]
    simp [posC]
  | a :: r, i, f, free, hf, hd, hl => by
    simp at hl
    have hd' : x.cps.toList.drop (i + 1) = r := by
      rw [show i + 1 = i + 1 from rfl, ← List.drop_drop, hd]
      rfl
    show (forIn (i :: List.range' (i + 1) (r.length + 1)) (f, free) (occBody x (toS [c]) x.length m)).run.fst.toList = _
    rw [List.forIn_cons]
    have e : (toS [c]).length = 1 := rfl
    have es : subAt x (toS [c]) i = (a == c) := by
      rw [subAt_eq, hd]
      show ([a] == [c]) = _
      by_cases h : a = c
      · rw [h]; simp
      · simp [h]
    have st : ∀ g fr, fr ≤ i + 1 → (forIn (List.range' (i + 1) (r.length + 1)) (g, fr) (occBody x (toS [c]) x.length m)).run.fst.toList = g.toList ++ (posC c (i + 1) r).take (m - g.size) := fun g fr h => occ_loop r (i + 1) g fr h hd' (by omega)
    unfold posC
    by_cases h : a = c
    · rw [if_pos h]
      by_cases hm : f.size < m
      · unfold occBody
        rw [if_pos (by rw [e, es]; exact ⟨⟨⟨hm, hf⟩, by omega⟩, by simpa using h⟩)]
        refine (st (f.push i) _ (by rw [e]; exact Nat.le_refl _)).trans ?_
        rw [Array.size_push, Array.toList_push, show m - f.size = (m - (f.size + 1)) + 1 by omega, List.take_succ_cons, List.append_assoc]
        rfl
      · unfold occBody
        rw [if_neg (by intro z; exact hm z.1.1.1)]
        refine (st f _ (by omega)).trans ?_
        rw [show m - f.size = 0 by omega, List.take_zero, List.take_zero]
    · rw [if_neg h]
      unfold occBody
      rw [if_neg (by rw [es]; intro z; exact h (by simpa using z.2))]
      exact st f _ (by omega)
theorem occ_one {x : PySem.Str} {c m : Nat} : occurrences x (toS [c]) 0 x.length m = (posC c 0 x.cps.toList).take m := by
  rw [occ_eq]
  have e : x.cps.toList.length = x.length := by simp [PySem.Str.length]
  have z := occ_loop (x := x) (c := c) (m := m) x.cps.toList 0 #[] 0 (Nat.le_refl _) rfl (by omega)
  rw [e] at z
  exact z
/-- cut at c, m times at most -/
def cutN (c : Nat) : Nat → List Nat → List (List Nat)
  | _, [] => [[]]
  | 0, l => [l]
  | m + 1, a :: r => if a = c then [] :: cutN c m r else match cutN c (m + 1) r with
    | p :: ps => (a :: p) :: ps
    | [] => [[a]]
theorem cutN_zero {c : Nat} {l : List Nat} : cutN c 0 l = [l] := by cases l <;> simp [cutN]
theorem cutN_nil {c m : Nat} : cutN c m [] = [[]] := by cases m <;> simp [cutN]
theorem parts_cut {x : PySem.Str} {c : Nat} : ∀ (l : List Nat) (m a i : Nat), a ≤ i → x.cps.toList.drop i = l → i + l.length = x.length → ∃ p ps, cutN c m l = p :: ps ∧
    (partsFrom x 1 a ((posC c i l).take m)).map tlS = ((x.cps.toList.drop a).take (i - a) ++ p) :: ps
  | l, 0, a, i, ha, hd, hl => by
    refine ⟨l, [], cutN_zero, ?_⟩
    rw [List.take_zero]
    show [tlS (strSub x a x.length)] = _
    unfold tlS
    rw [strSub_toList]
    have e : x.cps.toList.length = x.length := by simp [PySem.Str.length]
    rw [List.take_of_length_le (by rw [List.length_drop]; omega), ← hd]
    have z : (x.cps.toList.drop a).drop (i - a) = x.cps.toList.drop i := by rw [List.drop_drop, show a + (i - a) = i by omega]
    rw [← z, List.take_append_drop]
  | [], m + 1, a, i, ha, hd, hl => by
    refine ⟨[], [], cutN_nil, ?_⟩
    show [tlS (strSub x a x.length)] = _
    unfold tlS
    rw [strSub_toList]
    simp at hl
    rw [hl, List.append_nil]
  | b :: r, m + 1, a, i, ha, hd, hl => by
    simp at hl
    have hd' : x.cps.toList.drop (i + 1) = r := by
      rw [← List.drop_drop, hd]
      rfl
    unfold posC cutN
    by_cases h : b = c
    · rw [if_pos h, if_pos h]
      obtain ⟨p, ps, e1, e2⟩ := parts_cut (x := x) (c := c) r m (i + 1) (i + 1) (Nat.le_refl _) hd' (by omega)
      refine ⟨[], _, rfl, ?_⟩
      rw [List.take_succ_cons]
      show tlS (strSub x a i) :: (partsFrom x 1 (i + 1) ((posC c (i + 1) r).take m)).map tlS = _
      rw [e2, Nat.sub_self, List.take_zero, List.nil_append, e1, List.append_nil]
      unfold tlS
      rw [strSub_toList]
    · rw [if_neg h, if_neg h]
      obtain ⟨p, ps, e1, e2⟩ := parts_cut (x := x) (c := c) r (m + 1) a (i + 1) (by omega) hd' (by omega)
      refine ⟨b :: p, ps, by rw [e1], ?_⟩
      rw [e2]
      have z : (x.cps.toList.drop a).take (i + 1 - a) = (x.cps.toList.drop a).take (i - a) ++ [b] := by
        rw [show i + 1 - a = (i - a) + 1 by omega, List.take_add_one, List.getElem?_drop, show a + (i - a) = i by omega]
        have q : x.cps.toList[i]? = some b := by
          have := congrArg (fun l => l[0]?) hd
          simpa [List.getElem?_drop] using this
        rw [q]
        rfl
      rw [z]
      simp
theorem parts_one {x : PySem.Str} {c m : Nat} : (partsBetween x (occurrences x (toS [c]) 0 x.length m) 1).map tlS = cutN c m x.cps.toList := by
  rw [partsBetween_eq, occ_one]
  have e : x.cps.toList.length = x.length := by simp [PySem.Str.length]
  obtain ⟨p, ps, e1, e2⟩ := parts_cut (x := x) (c := c) x.cps.toList m 0 0 (Nat.le_refl _) rfl (by omega)
  rw [e2, e1]
  rfl
theorem cut_occ {x : PySem.Str} {c m : Nat} (hc : c < 256) : (if (decide (x.length < (toS [c]).length) || decide (strKind x < strKind (toS [c]))) = true then [x] else
    if (occurrences x (toS [c]) 0 x.length m).isEmpty = true then [x] else partsBetween x (occurrences x (toS [c]) 0 x.length m) (toS [c]).length).map tlS = cutN c m x.cps.toList := by
  have e : (toS [c]).length = 1 := rfl
  have el : x.cps.toList.length = x.length := by simp [PySem.Str.length]
  have hk : ¬ strKind x < strKind (toS [c]) := TL.kind_ok (by simp [toS, hc])
  have key := parts_one (x := x) (c := c) (m := m)
  have none_case : occurrences x (toS [c]) 0 x.length m = [] → [x].map tlS = cutN c m x.cps.toList := fun ho => by
    rw [ho] at key
    rw [← key]
    show [tlS x] = [tlS (strSub x 0 x.length)]
    unfold tlS
    rw [strSub_toList, List.drop_zero, List.take_of_length_le (by omega)]
  split
  · rename_i h1
    have hlt : x.length < 1 := by
      simp only [Bool.or_eq_true, decide_eq_true_eq] at h1
      rcases h1 with h | h
      · exact h
      · exact absurd h hk
    refine none_case ?_
    rw [occ_one]
    have : x.cps.toList = [] := List.length_eq_zero_iff.mp (by omega)
    rw [this]
    simp [posC]
  · split
    · rename_i h2
      exact none_case (List.isEmpty_iff.mp h2)
    · exact key
theorem splitT_cut {a : List Nat} {c : Nat} (hc : c < 256) : splitT a [c] = cutN c (a.length + 1) a := by
  have z := cut_occ (x := toS a) (c := c) (m := a.length + 1) hc
  rw [toS_list] at z
  unfold splitT Txt.split
  rw [toS_length]
  rw [toS_length] at z
  exact z
theorem splitM_cut {a : List Nat} {c k : Nat} (hc : c < 256) : splitM a [c] (k : Int) = cutN c k a := by
  have z := cut_occ (x := toS a) (c := c) (m := k) hc
  rw [toS_list] at z
  unfold splitM Txt.splitMax
  have e : limitOf (toS a) (k : Int) = k := by
    unfold limitOf
    rw [if_neg (by omega)]
    exact Int.toNat_natCast k
  rw [e]
  exact z
/-- joined with sep between -/
def joinC (sep : List Nat) : List (List Nat) → List Nat
  | [] => []
  | [p] => p
  | p :: q :: r => p ++ sep ++ joinC sep (q :: r)
theorem joinT_C {sep : List Nat} : ∀ {ys : List (List Nat)}, joinT sep ys = joinC sep ys := by
  intro ys
  unfold joinT
  rw [TL.join_eq]
  induction ys with
  | nil => rfl
  | cons y ys ih =>
    cases ys with
    | nil => rfl
    | cons z r =>
      show tlS (PySem.Str.join (toS sep) (toS y :: toS z :: r.map toS)) = _
      have e : PySem.Str.join (toS sep) (toS y :: toS z :: r.map toS) = toS y ++ toS sep ++ PySem.Str.join (toS sep) (toS z :: r.map toS) := rfl
      rw [e]
      have ih : tlS (PySem.Str.join (toS sep) (toS z :: r.map toS)) = joinC sep (z :: r) := ih
      show tlS _ = y ++ sep ++ joinC sep (z :: r)
      rw [← ih]
      exact (TL.tl_append _ _).trans (congrArg (· ++ _) (TL.tl_append _ _))
theorem joinC_nil : ∀ {ys : List (List Nat)}, joinC [] ys = ys.flatten
  | [] => rfl
  | [p] => by simp [joinC]
  | p :: q :: r => by
    show p ++ [] ++ joinC [] (q :: r) = _
    rw [joinC_nil]
    simp
theorem cutN_ne {c m : Nat} : ∀ {l : List Nat}, cutN c m l ≠ []
  | [] => by rw [cutN_nil]; simp
  | a :: r => by
    cases m with
    | zero => rw [cutN_zero]; simp
    | succ m =>
      unfold cutN
      split
      · simp
      · split <;> simp
/-- cutting at all, and joining, gives the text -/
theorem join_cut {c : Nat} : ∀ {l : List Nat} {m : Nat}, joinC [c] (cutN c m l) = l
  | [], m => by rw [cutN_nil]; rfl
  | a :: r, 0 => by rw [cutN_zero]; rfl
  | a :: r, m + 1 => by
    unfold cutN
    split
    · rename_i h
      have ih := join_cut (c := c) (l := r) (m := m)
      cases e : cutN c m r with
      | nil => exact absurd e cutN_ne
      | cons p ps =>
        rw [e] at ih
        show [] ++ [c] ++ joinC [c] (p :: ps) = _
        rw [ih, h]
        rfl
    · have ih := join_cut (c := c) (l := r) (m := m + 1)
      cases e : cutN c (m + 1) r with
      | nil => exact absurd e cutN_ne
      | cons p ps =>
        rw [e] at ih
        show joinC [c] ((a :: p) :: ps) = _
        cases ps with
        | nil =>
          show a :: p = _
          rw [← ih]
          rfl
        | cons q qs =>
          show a :: (p ++ [c] ++ joinC [c] (q :: qs)) = _
          rw [← ih]
          rfl
/-- cut m times: the first m parts of all, and the rest joined -/
theorem cut_few {c : Nat} : ∀ {l : List Nat} {m M : Nat}, m ≤ M → cutN c m l = if (cutN c M l).length ≤ m then cutN c M l else (cutN c M l).take m ++ [joinC [c] ((cutN c M l).drop m)]
  | [], m, M, h => by
    rw [cutN_nil, cutN_nil]
    split
    · rfl
    · rename_i z
      have : m = 0 := by simp at z; omega
      rw [this]
      rfl
  | a :: r, 0, M, h => by
    rw [cutN_zero, if_neg (by intro z; exact cutN_ne (List.length_eq_zero_iff.mp (Nat.le_zero.mp z)))]
    rw [List.take_zero, List.drop_zero, join_cut]
    rfl
  | a :: r, m + 1, 0, h => by omega
  | a :: r, m + 1, M + 1, h => by
    unfold cutN
    by_cases hc : a = c
    · rw [if_pos hc, if_pos hc, cut_few (m := m) (M := M) (by omega)]
      by_cases z : (cutN c M r).length ≤ m
      · rw [if_pos z, if_pos (by simp; exact z)]
      · rw [if_neg z, if_neg (by simp; omega)]
        rfl
    · rw [if_neg hc, if_neg hc]
      have ih := cut_few (c := c) (l := r) (m := m + 1) (M := M + 1) h
      cases e : cutN c (M + 1) r with
      | nil => exact absurd e cutN_ne
      | cons p ps =>
        rw [e] at ih
        rw [ih]
        by_cases z : ps.length + 1 ≤ m + 1
        · rw [if_pos (by simpa using z), if_pos (by simpa using z)]
        · rw [if_neg (by simpa using z), if_neg (by simpa using z)]
          rfl
@[simp] theorem isT_str {h : Hs} {s : List Nat} : isT "str" h (.str s) = true := rfl
@[simp ↓] theorem okr_addFF {E : XR} {hp : Bool} {xs ys : List D} {h : Hs} {Q : D → Hs → Prop} : OkRx E (opAdd hp (.fl xs) (.fl ys) h) Q = (xs.length + ys.length ≤ SZ ∧ OkRx E (mkL hp (xs ++ ys) h) Q) := by
  show OkRx E (if _ then _ else _) Q = _
  split
  · rename_i z
    exact (propext ⟨fun q => ⟨z, q⟩, fun q => q.2⟩)
  · rename_i z
    exact (propext ⟨fun q => q.elim, fun q => absurd q.1 z⟩)
/-- one sign is replaced -/
def repC (c : Nat) (z l : List Nat) : List Nat := l.flatMap fun x => if x = c then z else [x]
theorem repl_one {c : Nat} {z : List Nat} : ∀ {l : List Nat}, StrLaws.replL [c] z l = repC c z l
  | [] => StrLaws.replL_nil
  | a :: r => by
    have ih := repl_one (c := c) (z := z) (l := r)
    have e : repC c z (a :: r) = (if a = c then z else [a]) ++ repC c z r := List.flatMap_cons
    rw [e]
    by_cases h : a = c
    · rw [if_pos h, StrLaws.replL_hit (by simp) (by simp [h]), ← ih]
      rfl
    · rw [if_neg h, StrLaws.replL_miss (by simp [h]), ih]
      rfl
theorem repl_C {a z : List Nat} {c : Nat} : tlS (Txt.replace (toS a) (toS [c]) (toS z)) = repC c z a := by
  show (Txt.replace (toS a) (toS [c]) (toS z)).cps.toList = _
  rw [StrLaws.replace_list (by show 1 ≤ (toS [c]).length; rw [toS_length]; simp)]
  exact repl_one
theorem repC_len {c : Nat} {z : List Nat} : ∀ {l : List Nat}, (repC c z l).length ≤ l.length * (z.length + 1)
  | [] => by simp [repC]
  | a :: r => by
    have ih := repC_len (c := c) (z := z) (l := r)
    have e : repC c z (a :: r) = (if a = c then z else [a]) ++ repC c z r := List.flatMap_cons
    rw [e, List.length_append, List.length_cons, Nat.add_mul]
    split <;> simp <;> omega
theorem okr_repl {E : XR} {σ : Env} {h : Hs} {z : List Nat} {c : Nat} {m : M D} {Q : D → Hs → Prop} : OkRx E (mRepl (toS [c]) (toS z) m σ h) Q = OkRx E (m σ h) fun x h1 => match x with
    | .str a => a.length + (a.length + 1) * z.length ≤ 16777216 ∧ Q (.str (repC c z a)) h1
    | _ => False := by
  unfold mRepl
  rw [okr_bind]
  congr 1
  funext x h1
  cases x with
  | str a =>
    show OkRx E (if a.length + (a.length + 1) * (toS z).length ≤ 16777216 then .ok (.str (tlS (Txt.replace (toS a) (toS [c]) (toS z)))) h1 else .no) Q = _
    rw [toS_length, repl_C]
    split
    · rename_i w
      exact (propext ⟨fun q => ⟨w, q⟩, fun q => q.2⟩)
    · rename_i w
      exact (propext ⟨fun q => q.elim, fun q => absurd q.1 w⟩)
  | _ => rfl
end DN

set_option Elab.async false
set_option linter.all false
set_option maxRecDepth 100000
set_option maxHeartbeats 0
/-! TY: the heap's frame, the draws' state, data equal to itself, numbers in texts: tools that all laws share. -/
namespace DN
open PySem
/-- the draws at p, the place of the next at pa -/
def DA (p pa : Nat) (h : Hs) : Prop := ∃ (xs : List Int) (i : Int), h[p]? = some (.lst (xs.map .int)) ∧ (∀ x ∈ xs, 0 ≤ x) ∧ h[pa]? = some (.lst [.int i]) ∧ 0 ≤ i ∧ p ≠ pa
/-- nothing of the old but at A has changed -/
def Fx (A : List Nat) (h h' : Hs) : Prop := h.length ≤ h'.length ∧ ∀ i, i < h.length → i ∉ A → h'[i]? = h[i]?
theorem Fx.refl (A : List Nat) (h : Hs) : Fx A h h := ⟨Nat.le_refl _, fun _ _ _ => rfl⟩
theorem Fx.trans {A : List Nat} {h h' h'' : Hs} (a : Fx A h h') (b : Fx A h' h'') : Fx A h h'' := ⟨Nat.le_trans a.1 b.1, fun i l n => (b.2 i (Nat.lt_of_lt_of_le l a.1) n).trans (a.2 i l n)⟩
theorem Fx.set {A : List Nat} {h : Hs} {p : Nat} {o : O} (m : p ∈ A) : Fx A h (h.set p o) := ⟨by simp, fun i l n => List.getElem?_set_ne fun e => n (by rw [← e]; exact m)⟩
theorem Fx.app {A : List Nat} {h g : Hs} : Fx A h (h ++ g) := ⟨by simp, fun i l n => List.getElem?_append_left l⟩
theorem Fx.up {A B : List Nat} {h h' : Hs} (f : Fx A h h') (m : ∀ x ∈ A, x ∈ B) : Fx B h h' := ⟨f.1, fun i l n => f.2 i l fun z => n (m i z)⟩
/-- a new thing is changed -/
theorem Fx.new {A : List Nat} {h h' : Hs} {p : Nat} {o : O} (f : Fx A h h') (l : h.length ≤ p) : Fx A h (h'.set p o) := ⟨by rw [List.length_set]; exact f.1, fun i li n => (List.getElem?_set_ne (by omega)).trans (f.2 i li n)⟩
theorem at_app {h g : Hs} {i : Nat} {o : O} (e : h[i]? = some o) : (h ++ g)[i]? = some o := by
  rw [List.getElem?_append_left (lt_of_at e)]
  exact e
theorem at_new {h : Hs} {o : O} : (h ++ [o])[h.length]? = some o := List.getElem?_concat_length
theorem at_newN {h : Hs} {o : O} {i : Nat} (e : i = h.length) : (h ++ [o])[i]? = some o := by
  rw [e]
  exact at_new
theorem at_set {h : Hs} {i p : Nat} {o o' : O} (e : h[i]? = some o) (n : p ≠ i) : (h.set p o')[i]? = some o := by
  rw [List.getElem?_set_ne n]
  exact e
theorem at_self {h : Hs} {p : Nat} {o o' : O} (e : h[p]? = some o) : (h.set p o')[p]? = some o' := List.getElem?_set_self (lt_of_at e)
theorem DA.keep {p pa : Nat} {h h' : Hs} (q : DA p pa h) {A : List Nat} (f : Fx A h h') (n1 : p ∉ A) (n2 : pa ∉ A) : DA p pa h' := by
  obtain ⟨xs, i, e1, e2, e3, e4, e5⟩ := q
  exact ⟨xs, i, (f.2 _ (lt_of_at e1) n1).trans e1, e2, (f.2 _ (lt_of_at e3) n2).trans e3, e4, e5⟩
theorem DA.lt {p pa : Nat} {h : Hs} (q : DA p pa h) : p < h.length ∧ pa < h.length := by
  obtain ⟨xs, i, e1, e2, e3, e4, e5⟩ := q
  exact ⟨lt_of_at e1, lt_of_at e3⟩
def sOK (s : List Nat) : Prop := s.all (· < 1114112) = true
theorem sOK.app {a b : List Nat} (x : sOK a) (y : sOK b) : sOK (a ++ b) := by
  unfold sOK at x y ⊢
  rw [List.all_append, x, y]
  rfl
/-- signs, each a text -/
def I21 (h0 : Hs) (sz : Nat) (rest acc : List D) (h' : Hs) : Prop := ∃ (j r : Nat) (cs : List (List Nat)), rest = rngL j r ∧ j + r = sz ∧ cs.length = j ∧ acc = cs.map .str ∧ h' = h0 ∧ (∀ c ∈ cs, c.length = 1 ∧ sOK c)
theorem ones_len : ∀ {cs : List (List Nat)}, (∀ c ∈ cs, c.length = 1 ∧ sOK c) → (cs.map List.length).sum = cs.length ∧ cs.flatten.length = cs.length ∧ sOK cs.flatten
  | [], _ => ⟨rfl, rfl, rfl⟩
  | c :: cs, h => by
    obtain ⟨a1, a2, a3⟩ := ones_len fun x hx => h x (List.mem_cons_of_mem _ hx)
    obtain ⟨b1, b2⟩ := h c (by simp)
    refine ⟨by simp [b1]; omega, by rw [List.flatten_cons, List.length_append, b1, a2]; simp; omega, ?_⟩
    rw [List.flatten_cons]
    exact b2.app a3
def digs : List Nat := [48, 49, 50, 51, 52, 53, 54, 55, 56, 57]
/-- the number that a word says, if any -/
def numP (s : List Nat) : Option Int := if s = [] ∨ (s[0]? = some 48 ∧ s ≠ [48]) then none else if s.all (fun c => digs.contains c) then some ((NumText.digitsVal s : Nat) : Int) else none
def nD : Option Int → D
  | none => .non
  | some i => .int i
theorem numP_pos {s : List Nat} {i : Int} (e : numP s = some i) : 0 ≤ i := by
  unfold numP at e
  split at e
  · cases e
  · split at e
    · cases e
      omega
    · cases e
theorem int_dig {s : List Nat} (h : s.all (fun c => digs.contains c) = true) (hne : s ≠ []) (hl : s.length ≤ 640) : PySem.intText? (toS s) = some ((NumText.digitsVal s : Nat) : Int) := by
  refine SX.int_S ?_ hne (by omega)
  rw [List.all_eq_true] at h ⊢
  intro c hc
  have := h c hc
  simp [digs] at this
  simp
  omega
theorem in_sign {c : Nat} {s : List Nat} {h : Hs} : cmpD .inn (.str [c]) (.str s) h = some (s.contains c) := by
  show some (decide (c ∈ s)) = _
  congr 1
  simp
theorem cut_lo {α : Type} (xs : List α) (a : Nat) : cutD xs none (some (a : Int)) = xs.take a := by
  have e1 : ¬ ((a : Int) < 0) := by omega
  simp [cutD, sixD, e1]
theorem cut_hi {α : Type} (xs : List α) (a : Nat) : cutD xs (some ((a : Int) + 1)) none = xs.drop (a + 1) := by
  have e1 : ¬ ((a : Int) + 1 < 0) := by omega
  have e2 : ((a : Int) + 1).toNat = a + 1 := by omega
  simp [cutD, sixD, e1, e2]
  rcases Nat.le_total (a + 1) xs.length with z | z
  · rw [Nat.min_eq_left z]
    exact List.take_of_length_le (by simp)
  · rw [Nat.min_eq_right z, List.drop_length, List.drop_of_length_le z]
    exact List.take_nil
theorem in_strs {s : List Nat} {ws : List (List Nat)} {h : Hs} : cmpD .inn (.str s) (.tup (ws.map .str)) h = some (ws.contains s) := by
  have z : ∀ x ∈ ws.map D.str, flatD x = true := by
    intro x hx
    obtain ⟨y, _, rfl⟩ := List.mem_map.mp hx
    rfl
  rw [cmp_inT, if_pos (List.all_eq_true.mpr z)]
  congr 1
  induction ws with
  | nil => rfl
  | cons w ws ih =>
    simp only [List.map_cons, List.any_cons, List.contains_cons, eqv_ss]
    rw [ih fun x hx => z x (by simp at hx ⊢; exact .inr hx)]
    congr 1
    exact Bool.eq_iff_iff.mpr ⟨fun q => by simpa using (by simpa using q : w = s).symm, fun q => by simpa using (by simpa using q : s = w).symm⟩
theorem in_strsR {s : List Nat} {ws : List (List Nat)} {h : Hs} {p : Nat} (e : h[p]? = some (.lst (ws.map .str))) : cmpD .inn (.str s) (.ref p) h = some (ws.contains s) := by
  have z := in_strs (s := s) (ws := ws) (h := h)
  rw [← z]
  show inD h _ _ = inD h _ _
  unfold inD
  have e1 : seqOf h (.ref p) = some (ws.map .str) := by
    show (match h[p]? with | some (.lst xs) => some xs | _ => none) = _
    rw [e]
  have e2 : seqOf h (.tup (ws.map .str)) = some (ws.map .str) := rfl
  rcases s with _ | ⟨c, _ | ⟨c', s⟩⟩
  all_goals simp only [e1, e2]
mutual
theorem eqv_self : ∀ (m : Nat) (x : D), D.dat m x = true → D.eqv x x = true
  | _, .non, _ => rfl
  | _, .bl b, _ => by simp [D.eqv]
  | _, .int b, _ => by simp [D.eqv]
  | _, .str b, _ => by simp
  | m + 1, .tup xs, q => eqvs_self m xs q
  | m + 1, .fl xs, q => eqvs_self m xs q
  | m, .sl xs, q => by cases m <;> cases q
  | m, .fd xs, q => by cases m <;> cases q
  | m, .ref xs, q => by cases m <;> cases q
  | m, .fn xs, q => by cases m <;> cases q
  | m, .xc _ xs, q => by cases m <;> cases q
theorem eqvs_self : ∀ (m : Nat) (xs : List D), D.dats m xs = true → D.eqvs xs xs = true
  | _, [], _ => rfl
  | m, x :: xs, q => by
    have q : (D.dat m x && D.dats m xs) = true := q
    rw [Bool.and_eq_true] at q
    show (D.eqv x x && D.eqvs xs xs) = true
    rw [eqv_self m x q.1, eqvs_self m xs q.2]
    rfl
end
theorem eq_self {xs : List D} {h : Hs} (q : D.dats 63 xs = true) : cmpD .eq (.tup xs) (.tup xs) h = some true := by
  show (if D.dats 63 xs && D.dats 63 xs then some (D.eqvs xs xs) else none) = _
  rw [q, eqvs_self 63 xs q]
  rfl
theorem dats_all {m : Nat} {xs : List D} (q : ∀ x ∈ xs, D.dat m x = true) : D.dats m xs = true := by
  induction xs with
  | nil => cases m <;> rfl
  | cons x xs ih =>
    show (D.dat m x && D.dats m xs) = true
    rw [q x (by simp), ih fun v hv => q v (by simp [hv])]
    rfl
theorem rng_len {i : Int} : ∀ {m : Nat}, (rngL i m).length = m := by
  intro m
  induction m generalizing i with
  | zero => rfl
  | succ m ih => show (rngL (i + 1) m).length + 1 = m + 1; rw [ih]
theorem ixD_of {n : Nat} {i : Int} (h0 : 0 ≤ i) (h1 : i < n) : ixD n i = some i.toNat := by
  unfold ixD
  rw [if_pos h0, if_pos h1]
/-- a slice by places of no sign -/
theorem cut_ab {α : Type} (xs : List α) (a b : Nat) : cutD xs (some (a : Int)) (some (b : Int)) = (xs.drop a).take (b - a) := by
  have e1 : ¬ ((a : Int) < 0) := by omega
  have e2 : ¬ ((b : Int) < 0) := by omega
  simp only [cutD, sixD, e1, e2, if_false, Int.toNat_natCast]
  rcases Nat.le_total a xs.length with z | z
  · rw [Nat.min_eq_left z]
    rcases Nat.le_total b xs.length with y | y
    · rw [Nat.min_eq_left y]
    · rw [Nat.min_eq_right y, List.take_of_length_le (by rw [List.length_drop]; omega), List.take_of_length_le (by rw [List.length_drop]; omega)]
  · rw [Nat.min_eq_right z, List.drop_of_length_le z, List.drop_length, List.take_nil, List.take_nil]
theorem cut_from {α : Type} (xs : List α) (a : Nat) : cutD xs (some (a : Int)) none = xs.drop a := by
  have e1 : ¬ ((a : Int) < 0) := by omega
  simp only [cutD, sixD, e1, if_false, Int.toNat_natCast]
  rcases Nat.le_total a xs.length with z | z
  · rw [Nat.min_eq_left z, List.take_of_length_le (by simp)]
  · rw [Nat.min_eq_right z, List.drop_length, List.drop_of_length_le z, List.take_nil]
theorem cut_none {α : Type} (xs : List α) : cutD xs none none = xs := by
  unfold cutD sixD
  simp
/-- the text of a number -/
theorem dec_nat (n : Nat) : decT (n : Int) = TL.numL n := by
  show tlS (toString ((n : Nat) : Int)) = _
  exact TL.tl_num n
theorem dec_neg {n : Nat} (h : 0 < n) : decT (-(n : Int)) = 45 :: TL.numL n := by
  obtain ⟨m, rfl⟩ : ∃ m, n = m + 1 := ⟨n - 1, by omega⟩
  show (PySem.Str.ofString (toString (Int.negSucc m))).cps.toList = _
  rw [PyProof.Rows.signs_ofString]
  have e : toString (Int.negSucc m) = "-" ++ Nat.repr (m + 1) := rfl
  rw [e, String.toList_append, List.map_append]
  show [45] ++ (Nat.repr (m + 1)).toList.map Char.toNat = _
  rw [Nat.toList_repr]
  rfl
theorem num_head {n : Nat} : (TL.numL n)[0]? = some 48 → n = 0 := by
  induction n using Nat.strongRecOn with
  | _ n ih =>
    intro h
    by_cases l : n < 10
    · rw [TL.numL_lt l] at h
      simp at h
      omega
    · rw [TL.numL_step (by omega), List.getElem?_append_left (List.length_pos_iff.mpr (TL.numL_ne _))] at h
      have := ih (n / 10) (by omega) h
      omega
theorem numP_num (n : Nat) : numP (TL.numL n) = some (n : Int) := by
  have d := TL.numL_digits n
  unfold numP
  rw [if_neg, if_pos, TL.numL_val]
  · rw [List.all_eq_true]
    intro c hc
    have := d c hc
    simp [digs]
    omega
  · rintro (z | ⟨z1, z2⟩)
    · exact TL.numL_ne n z
    · have := num_head z1
      subst this
      exact z2 (TL.numL_lt (by decide))
theorem isTy_refL {h : Hs} {p : Nat} {xs : List D} {t : Ty} (e : h[p]? = some (.lst xs)) : isTy h (.ref p) t = some (t == Ty.list) := by
  show (match h[p]? with | some (.lst _) => some (t == Ty.list) | some (.dct _) => some (t == Ty.dict) | _ => none) = _
  rw [e]
theorem eq_flR {h : Hs} {p : Nat} {xs : List (List Nat)} (e1 : h[p]? = some (.lst (xs.map .str))) (hc : ∀ x ∈ xs, x.all (· < 1114112) = true) : cmpD .eq (.fl (xs.map .str)) (.ref p) h = some true := by
  have d1 : datOf h (.ref p) = .fl (xs.map .str) := by
    show (match h[p]? with | some (.lst xs) => D.fl xs | _ => .ref p) = _
    rw [e1]
  show (if D.dat 64 (.fl (xs.map .str)) && D.dat 64 (datOf h (.ref p)) then some (D.eqv (.fl (xs.map .str)) (datOf h (.ref p))) else none) = _
  rw [d1]
  have z1 : D.dat 64 (.fl (xs.map .str)) = true := dats_of (m := 63) fun x hx => by
    obtain ⟨y, hy, rfl⟩ := List.mem_map.mp hx
    exact hc y hy
  have z2 : D.eqv (.fl (xs.map .str)) (.fl (xs.map .str)) = true := eqvs_of fun x hx => by
    obtain ⟨y, hy, rfl⟩ := List.mem_map.mp hx
    simp
  rw [z1, z2]
  rfl
theorem starts_L {w s : List Nat} : Txt.startswith (toS w) (toS s) = decide (w.take s.length = s) := by
  unfold Txt.startswith
  rw [toS_length, toS_length, StrLaws.subAt_eq, List.drop_zero]
  show (decide (0 + s.length ≤ w.length) && (w.take (toS s).length == s)) = _
  rw [toS_length]
  by_cases h : w.take s.length = s
  · have l : s.length ≤ w.length := by
      have := congrArg List.length h
      rw [List.length_take] at this
      omega
    rw [decide_eq_true h]
    simp [h]
    exact l
  · rw [decide_eq_false h]
    simp [h]
@[simp ↓] theorem oko_raiseX {F : XO} {qn qb qc : Env → Hs → Prop} {qr : D → Hs → Prop} {σ : Env} {h : Hs} {c : Nat} {ks : List Nat} {ml : M (List D)} : OkOx F (sRaiseX c ks ml σ h) qn qr qb qc = OkRx (fun c fs h => F c fs σ h) (ml σ h) fun ds h1 => if ds.length = ks.length then F c (ks.zip ds).reverse σ h1 else False := by
  unfold sRaiseX
  rw [oko_out]
  congr 1
  funext ds h1
  split <;> rfl
/-! f-strings -/
def asF (x : D) (P : List Nat → Prop) : Prop := match x with
  | .str s => s.length ≤ SZ ∧ P s
  | .int i => i.natAbs.log2 < 1920 ∧ P (decT i)
  | _ => False
@[simp ↓] theorem asF_s (s : List Nat) (P : List Nat → Prop) : asF (.str s) P = (s.length ≤ SZ ∧ P s) := Eq.trans rfl rfl
@[simp ↓] theorem asF_i (i : Int) (P : List Nat → Prop) : asF (.int i) P = (i.natAbs.log2 < 1920 ∧ P (decT i)) := Eq.trans rfl rfl
def asS (x : D) (P : List Nat → Prop) : Prop := match x with
  | .str s => P s
  | _ => False
@[simp ↓] theorem asS_s (s : List Nat) (P : List Nat → Prop) : asS (.str s) P = P s := Eq.trans rfl rfl
section
variable {E : XR} {σ : Env} {h : Hs} {m : M D} {Q : D → Hs → Prop}
theorem okr_sorted {hp : Bool} {x : D} : OkRx E (bSorted hp [x] h) Q = opt (seqOf h x) fun xs => opt (txtsOf xs) fun ys => (ys.length < 64 ∧ OkRx E (mkL hp ((sortT ys).map .str) h) Q) := by
  unfold bSorted
  cases e : seqOf h x with
  | none => simp [e]
  | some xs =>
    simp only [e, opt_some]
    cases e2 : txtsOf xs with
    | none => simp [e2]
    | some ys =>
      simp only [e2, opt_some]
      show OkRx E (if _ then _ else _) Q = (_ ∧ _)
      split
      · rename_i z
        exact (propext ⟨fun q => ⟨z, q⟩, fun q => q.2⟩)
      · rename_i z
        exact (propext ⟨fun q => q.elim, fun q => absurd q.1 z⟩)
@[simp ↓] theorem okr_mulT {hp : Bool} {a : List D} {k : Int} : OkRx E (opMul hp (.tup a) (.int k) h) Q = if 0 < a.length ∧ k = 1 then Q (.tup a) h else if 0 < a.length ∧ k = 0 then Q (.tup []) h else if 0 < a.length ∧ a.length ≤ 1000 ∧ 2 ≤ k ∧ k ≤ 1000 then OkRx E (mkT (List.replicate k.toNat a).flatten h) Q else False := by
  show OkRx E (if _ then _ else if _ then _ else if _ then _ else _) Q = if _ then _ else if _ then _ else if _ then _ else _
  split
  · rfl
  · split
    · rfl
    · split <;> rfl
@[simp ↓] theorem okr_get2 {m' m2 : M D} : OkRx E (mGet2 m m' m2 σ h) Q = OkRx E (m σ h) fun x h1 => opt (dctOf h1 x) fun _ => OkRx E (m' σ h1) fun y h2 => OkRx E (m2 σ h2) fun z h3 => opt (dctOf h3 x) fun kvs => (isKey y = true ∧ Q ((dget kvs y).getD z) h3) := by
  unfold mGet2
  rw [okr_bind]
  congr 1
  funext x h1
  cases dctOf h1 x with
  | none => rfl
  | some kvs =>
    show OkRx E (R.bind _ _) Q = OkRx E _ _
    rw [okr_bind]
    congr 1
    funext y h2
    rw [okr_bind]
    congr 1
    funext z h3
    cases dctOf h3 x with
    | none => rfl
    | some kvs =>
      show OkRx E (if _ then _ else _) Q = (_ ∧ _)
      split
      · rename_i z
        exact (propext ⟨fun q => ⟨z, q⟩, fun q => q.2⟩)
      · rename_i z
        exact (propext ⟨fun q => q.elim, fun q => absurd q.1 z⟩)
@[simp ↓] theorem okr_fmt : OkRx E (mFmt m σ h) Q = OkRx E (m σ h) fun x h1 => asF x fun s => Q (.str s) h1 := by
  unfold mFmt
  rw [okr_bind]
  congr 1
  funext x h1
  cases x with
  | str s =>
    show OkRx E (if _ then _ else _) Q = (_ ∧ _)
    split
    · rename_i z
      exact (propext ⟨fun q => ⟨z, q⟩, fun q => q.2⟩)
    · rename_i z
      exact (propext ⟨fun q => q.elim, fun q => absurd q.1 z⟩)
  | int i =>
    show OkRx E (if _ then _ else _) Q = (_ ∧ _)
    split
    · rename_i z
      exact (propext ⟨fun q => ⟨z, q⟩, fun q => q.2⟩)
    · rename_i z
      exact (propext ⟨fun q => q.elim, fun q => absurd q.1 z⟩)
  | _ => rfl
@[simp ↓] theorem okr_fjoin0 {acc : List Nat} : OkRx E (mJoin [] acc σ h) Q = Q (.str acc) h := Eq.trans rfl rfl
@[simp ↓] theorem okr_fjoin {ms : List (M D)} {acc : List Nat} : OkRx E (mJoin (m :: ms) acc σ h) Q = OkRx E (m σ h) fun x h1 => asS x fun y => acc.length + y.length ≤ SZ ∧ OkRx E (mJoin ms (acc ++ y) σ h1) Q := by
  show OkRx E ((m σ h).bind _) Q = _
  rw [okr_bind]
  congr 1
  funext x h1
  cases x with
  | str y =>
    show OkRx E (if _ then _ else _) Q = (_ ∧ _)
    split
    · rename_i z
      exact (propext ⟨fun q => ⟨z, q⟩, fun q => q.2⟩)
    · rename_i z
      exact (propext ⟨fun q => q.elim, fun q => absurd q.1 z⟩)
  | _ => rfl
end
/-! more cuts -/
section
variable {F : XO} {qn qb qc : Env → Hs → Prop} {qr : D → Hs → Prop} {σ : Env} {h : Hs} {s1 s2 s3 s4 s5 s6 s7 s8 s9 s10 s11 s12 s13 s14 s15 s16 r : B}
theorem cut4 (M : Env → Hs → Prop) (p : OkOx F ((sSeq s1 (sSeq s2 (sSeq s3 (s4)))) σ h) M qr qb qc) (q : ∀ σ1 h1, M σ1 h1 → OkOx F (r σ1 h1) qn qr qb qc) : OkOx F ((sSeq s1 (sSeq s2 (sSeq s3 (sSeq s4 (r))))) σ h) qn qr qb qc := by
  rw [oko_seq] at p ⊢
  exact p.mono (fun _ _ z => cut3 M z q) (fun _ _ z => z) (fun _ _ z => z) fun _ _ z => z
theorem cut5 (M : Env → Hs → Prop) (p : OkOx F ((sSeq s1 (sSeq s2 (sSeq s3 (sSeq s4 (s5))))) σ h) M qr qb qc) (q : ∀ σ1 h1, M σ1 h1 → OkOx F (r σ1 h1) qn qr qb qc) : OkOx F ((sSeq s1 (sSeq s2 (sSeq s3 (sSeq s4 (sSeq s5 (r)))))) σ h) qn qr qb qc := by
  rw [oko_seq] at p ⊢
  exact p.mono (fun _ _ z => cut4 M z q) (fun _ _ z => z) (fun _ _ z => z) fun _ _ z => z
theorem cut6 (M : Env → Hs → Prop) (p : OkOx F ((sSeq s1 (sSeq s2 (sSeq s3 (sSeq s4 (sSeq s5 (s6)))))) σ h) M qr qb qc) (q : ∀ σ1 h1, M σ1 h1 → OkOx F (r σ1 h1) qn qr qb qc) : OkOx F ((sSeq s1 (sSeq s2 (sSeq s3 (sSeq s4 (sSeq s5 (sSeq s6 (r))))))) σ h) qn qr qb qc := by
  rw [oko_seq] at p ⊢
  exact p.mono (fun _ _ z => cut5 M z q) (fun _ _ z => z) (fun _ _ z => z) fun _ _ z => z
theorem cut7 (M : Env → Hs → Prop) (p : OkOx F ((sSeq s1 (sSeq s2 (sSeq s3 (sSeq s4 (sSeq s5 (sSeq s6 (s7))))))) σ h) M qr qb qc) (q : ∀ σ1 h1, M σ1 h1 → OkOx F (r σ1 h1) qn qr qb qc) : OkOx F ((sSeq s1 (sSeq s2 (sSeq s3 (sSeq s4 (sSeq s5 (sSeq s6 (sSeq s7 (r)))))))) σ h) qn qr qb qc := by
  rw [oko_seq] at p ⊢
  exact p.mono (fun _ _ z => cut6 M z q) (fun _ _ z => z) (fun _ _ z => z) fun _ _ z => z
theorem cut8 (M : Env → Hs → Prop) (p : OkOx F ((sSeq s1 (sSeq s2 (sSeq s3 (sSeq s4 (sSeq s5 (sSeq s6 (sSeq s7 (s8)))))))) σ h) M qr qb qc) (q : ∀ σ1 h1, M σ1 h1 → OkOx F (r σ1 h1) qn qr qb qc) : OkOx F ((sSeq s1 (sSeq s2 (sSeq s3 (sSeq s4 (sSeq s5 (sSeq s6 (sSeq s7 (sSeq s8 (r))))))))) σ h) qn qr qb qc := by
  rw [oko_seq] at p ⊢
  exact p.mono (fun _ _ z => cut7 M z q) (fun _ _ z => z) (fun _ _ z => z) fun _ _ z => z
theorem cut9 (M : Env → Hs → Prop) (p : OkOx F ((sSeq s1 (sSeq s2 (sSeq s3 (sSeq s4 (sSeq s5 (sSeq s6 (sSeq s7 (sSeq s8 (s9))))))))) σ h) M qr qb qc) (q : ∀ σ1 h1, M σ1 h1 → OkOx F (r σ1 h1) qn qr qb qc) : OkOx F ((sSeq s1 (sSeq s2 (sSeq s3 (sSeq s4 (sSeq s5 (sSeq s6 (sSeq s7 (sSeq s8 (sSeq s9 (r)))))))))) σ h) qn qr qb qc := by
  rw [oko_seq] at p ⊢
  exact p.mono (fun _ _ z => cut8 M z q) (fun _ _ z => z) (fun _ _ z => z) fun _ _ z => z
theorem cut10 (M : Env → Hs → Prop) (p : OkOx F ((sSeq s1 (sSeq s2 (sSeq s3 (sSeq s4 (sSeq s5 (sSeq s6 (sSeq s7 (sSeq s8 (sSeq s9 (s10)))))))))) σ h) M qr qb qc) (q : ∀ σ1 h1, M σ1 h1 → OkOx F (r σ1 h1) qn qr qb qc) : OkOx F ((sSeq s1 (sSeq s2 (sSeq s3 (sSeq s4 (sSeq s5 (sSeq s6 (sSeq s7 (sSeq s8 (sSeq s9 (sSeq s10 (r))))))))))) σ h) qn qr qb qc := by
  rw [oko_seq] at p ⊢
  exact p.mono (fun _ _ z => cut9 M z q) (fun _ _ z => z) (fun _ _ z => z) fun _ _ z => z
theorem cut11 (M : Env → Hs → Prop) (p : OkOx F ((sSeq s1 (sSeq s2 (sSeq s3 (sSeq s4 (sSeq s5 (sSeq s6 (sSeq s7 (sSeq s8 (sSeq s9 (sSeq s10 (s11))))))))))) σ h) M qr qb qc) (q : ∀ σ1 h1, M σ1 h1 → OkOx F (r σ1 h1) qn qr qb qc) : OkOx F ((sSeq s1 (sSeq s2 (sSeq s3 (sSeq s4 (sSeq s5 (sSeq s6 (sSeq s7 (sSeq s8 (sSeq s9 (sSeq s10 (sSeq s11 (r)))))))))))) σ h) qn qr qb qc := by
  rw [oko_seq] at p ⊢
  exact p.mono (fun _ _ z => cut10 M z q) (fun _ _ z => z) (fun _ _ z => z) fun _ _ z => z
theorem cut12 (M : Env → Hs → Prop) (p : OkOx F ((sSeq s1 (sSeq s2 (sSeq s3 (sSeq s4 (sSeq s5 (sSeq s6 (sSeq s7 (sSeq s8 (sSeq s9 (sSeq s10 (sSeq s11 (s12)))))))))))) σ h) M qr qb qc) (q : ∀ σ1 h1, M σ1 h1 → OkOx F (r σ1 h1) qn qr qb qc) : OkOx F ((sSeq s1 (sSeq s2 (sSeq s3 (sSeq s4 (sSeq s5 (sSeq s6 (sSeq s7 (sSeq s8 (sSeq s9 (sSeq s10 (sSeq s11 (sSeq s12 (r))))))))))))) σ h) qn qr qb qc := by
  rw [oko_seq] at p ⊢
  exact p.mono (fun _ _ z => cut11 M z q) (fun _ _ z => z) (fun _ _ z => z) fun _ _ z => z
theorem cut13 (M : Env → Hs → Prop) (p : OkOx F ((sSeq s1 (sSeq s2 (sSeq s3 (sSeq s4 (sSeq s5 (sSeq s6 (sSeq s7 (sSeq s8 (sSeq s9 (sSeq s10 (sSeq s11 (sSeq s12 (s13))))))))))))) σ h) M qr qb qc) (q : ∀ σ1 h1, M σ1 h1 → OkOx F (r σ1 h1) qn qr qb qc) : OkOx F ((sSeq s1 (sSeq s2 (sSeq s3 (sSeq s4 (sSeq s5 (sSeq s6 (sSeq s7 (sSeq s8 (sSeq s9 (sSeq s10 (sSeq s11 (sSeq s12 (sSeq s13 (r)))))))))))))) σ h) qn qr qb qc := by
  rw [oko_seq] at p ⊢
  exact p.mono (fun _ _ z => cut12 M z q) (fun _ _ z => z) (fun _ _ z => z) fun _ _ z => z
theorem cut14 (M : Env → Hs → Prop) (p : OkOx F ((sSeq s1 (sSeq s2 (sSeq s3 (sSeq s4 (sSeq s5 (sSeq s6 (sSeq s7 (sSeq s8 (sSeq s9 (sSeq s10 (sSeq s11 (sSeq s12 (sSeq s13 (s14)))))))))))))) σ h) M qr qb qc) (q : ∀ σ1 h1, M σ1 h1 → OkOx F (r σ1 h1) qn qr qb qc) : OkOx F ((sSeq s1 (sSeq s2 (sSeq s3 (sSeq s4 (sSeq s5 (sSeq s6 (sSeq s7 (sSeq s8 (sSeq s9 (sSeq s10 (sSeq s11 (sSeq s12 (sSeq s13 (sSeq s14 (r))))))))))))))) σ h) qn qr qb qc := by
  rw [oko_seq] at p ⊢
  exact p.mono (fun _ _ z => cut13 M z q) (fun _ _ z => z) (fun _ _ z => z) fun _ _ z => z
theorem cut15 (M : Env → Hs → Prop) (p : OkOx F ((sSeq s1 (sSeq s2 (sSeq s3 (sSeq s4 (sSeq s5 (sSeq s6 (sSeq s7 (sSeq s8 (sSeq s9 (sSeq s10 (sSeq s11 (sSeq s12 (sSeq s13 (sSeq s14 (s15))))))))))))))) σ h) M qr qb qc) (q : ∀ σ1 h1, M σ1 h1 → OkOx F (r σ1 h1) qn qr qb qc) : OkOx F ((sSeq s1 (sSeq s2 (sSeq s3 (sSeq s4 (sSeq s5 (sSeq s6 (sSeq s7 (sSeq s8 (sSeq s9 (sSeq s10 (sSeq s11 (sSeq s12 (sSeq s13 (sSeq s14 (sSeq s15 (r)))))))))))))))) σ h) qn qr qb qc := by
  rw [oko_seq] at p ⊢
  exact p.mono (fun _ _ z => cut14 M z q) (fun _ _ z => z) (fun _ _ z => z) fun _ _ z => z
theorem cut16 (M : Env → Hs → Prop) (p : OkOx F ((sSeq s1 (sSeq s2 (sSeq s3 (sSeq s4 (sSeq s5 (sSeq s6 (sSeq s7 (sSeq s8 (sSeq s9 (sSeq s10 (sSeq s11 (sSeq s12 (sSeq s13 (sSeq s14 (sSeq s15 (s16)))))))))))))))) σ h) M qr qb qc) (q : ∀ σ1 h1, M σ1 h1 → OkOx F (r σ1 h1) qn qr qb qc) : OkOx F ((sSeq s1 (sSeq s2 (sSeq s3 (sSeq s4 (sSeq s5 (sSeq s6 (sSeq s7 (sSeq s8 (sSeq s9 (sSeq s10 (sSeq s11 (sSeq s12 (sSeq s13 (sSeq s14 (sSeq s15 (sSeq s16 (r))))))))))))))))) σ h) qn qr qb qc := by
  rw [oko_seq] at p ⊢
  exact p.mono (fun _ _ z => cut15 M z q) (fun _ _ z => z) (fun _ _ z => z) fun _ _ z => z
end
end DN

set_option Elab.async false
set_option linter.all false
set_option maxRecDepth 100000
/-! TZ: more rules: comprehensions step by step, two clauses, sorted(set(xs)), list.extend. -/
namespace DN
open PySem
section
variable {E : XR} {σ : Env} {h : Hs} {m : M D} {t : M Bool} {g g1 : Tg} {it it1 : It} {Q : D → Hs → Prop} {QL : List D → Hs → Prop} {own own1 is is1 : List Nat} {x : D} {xs : List D} {hp : Bool}
theorem lc_nil : OkR (lcGo chkTrue own g t m [] σ h) QL = QL [] h := by
  unfold lcGo
  rw [if_pos (show chkTrue h from trivial)]
  rfl
theorem lc_cons : OkR (lcGo chkTrue own g t m (x :: xs) σ h) QL = OkR (g x (wipeE σ own) h) fun σ1 h1 => OkR (t σ1 h1) fun c h2 => if c = true then OkR (m σ1 h2) fun y h3 => OkR (lcGo chkTrue own g t m xs σ h3) fun ys h4 => QL (y :: ys) h4 else OkR (lcGo chkTrue own g t m xs σ h2) QL := by
  conv => lhs; unfold lcGo
  rw [if_pos (show chkTrue h from trivial)]
  cases g x (wipeE σ own) h with
  | no => rfl
  | xc _ _ _ => rfl
  | ok σ1 h1 =>
    show OkR (match t σ1 h1 with | .ok true h2 => _ | .ok false h2 => _ | _ => R.no) QL = OkR (t σ1 h1) _
    cases t σ1 h1 with
    | no => rfl
    | xc _ _ _ => rfl
    | ok c h2 =>
      cases c with
      | false => rfl
      | true =>
        show OkR (match m σ1 h2 with | .ok y h3 => _ | _ => R.no) QL = OkR (m σ1 h2) fun y h3 => OkR (lcGo chkTrue own g t m xs σ h3) fun ys h4 => QL (y :: ys) h4
        cases m σ1 h2 with
        | no => rfl
        | xc _ _ _ => rfl
        | ok y h3 =>
          show OkR (match lcGo chkTrue own g t m xs σ h3 with | .ok ys h4 => _ | _ => R.no) QL = OkR (lcGo chkTrue own g t m xs σ h3) _
          cases lcGo chkTrue own g t m xs σ h3 <;> rfl
theorem lc2_nil : OkR (lc2Go chkTrue own own1 g it1 g1 m [] σ h) QL = QL [] h := by
  unfold lc2Go
  rw [if_pos (show chkTrue h from trivial)]
  rfl
theorem lc2_cons : OkR (lc2Go chkTrue own own1 g it1 g1 m (x :: xs) σ h) QL = OkR (g x (wipeE σ own) h) fun σ1 h1 => OkR (it1 σ1 h1) fun p h2 => OkR (lcGo p.2 own1 g1 tYesM m p.1 σ1 h2) fun zs h3 => OkR (lc2Go chkTrue own own1 g it1 g1 m xs σ h3) fun r h4 => QL (zs ++ r) h4 := by
  conv => lhs; unfold lc2Go
  rw [if_pos (show chkTrue h from trivial)]
  cases g x (wipeE σ own) h with
  | no => rfl
  | xc _ _ _ => rfl
  | ok σ1 h1 =>
    show OkR (match it1 σ1 h1 with | .ok p h2 => _ | _ => R.no) QL = OkR (it1 σ1 h1) _
    cases it1 σ1 h1 with
    | no => rfl
    | xc _ _ _ => rfl
    | ok p h2 =>
      show OkR (match lcGo p.2 own1 g1 tYesM m p.1 σ1 h2 with | .ok zs h3 => _ | _ => R.no) QL = OkR (lcGo p.2 own1 g1 tYesM m p.1 σ1 h2) _
      cases lcGo p.2 own1 g1 tYesM m p.1 σ1 h2 with
      | no => rfl
      | xc _ _ _ => rfl
      | ok zs h3 =>
        show OkR (match lc2Go chkTrue own own1 g it1 g1 m xs σ h3 with | .ok r h4 => _ | _ => R.no) QL = OkR (lc2Go chkTrue own own1 g it1 g1 m xs σ h3) _
        cases lc2Go chkTrue own own1 g it1 g1 m xs σ h3 <;> rfl
@[simp ↓] theorem okr_lc2 : OkRx E (mLc2 hp own own1 is is1 it it1 m σ h) Q = OkRx E (it σ h) fun p h1 => OkR (lc2Go p.2 own own1 (cTg is) it1 (cTg is1) m p.1 σ h1) fun ys h2 => OkRx E (mkL hp ys h2) Q := by
  unfold mLc2
  rw [okr_bind]
  congr 1
  funext p h1
  cases lc2Go p.2 own own1 (cTg is) it1 (cTg is1) m p.1 σ h1 <;> rfl
theorem okr_sset : OkRx E (bSSet hp [x] h) Q = opt (lstOf h x) fun xs => opt (txtsOf xs) fun ys => (ys.length < 64 ∧ OkRx E (mkL hp ((sortT (dedT ys)).map .str) h) Q) := by
  unfold bSSet
  cases e : lstOf h x with
  | none => simp [e]
  | some xs =>
    simp only [e, opt_some]
    cases e2 : txtsOf xs with
    | none => simp [e2]
    | some ys =>
      simp only [e2, opt_some]
      show OkRx E (if _ then _ else _) Q = (_ ∧ _)
      split
      · rename_i z
        exact propext ⟨fun q => ⟨z, q⟩, fun q => q.2⟩
      · rename_i z
        exact propext ⟨fun q => q.elim, fun q => absurd q.1 z⟩
/-! dicts -/
/-! exceptions as values -/
def asXc (d : D) (P : Nat → List (Nat × D) → Prop) : Prop := match d with
  | .xc c fs => P c fs
  | _ => False
@[simp] theorem asXc_x {c : Nat} {fs : List (Nat × D)} {P : Nat → List (Nat × D) → Prop} : asXc (.xc c fs) P = P c fs := Eq.trans rfl rfl
@[simp ↓] theorem okr_xv0 {c : Nat} : OkRx E (mXv0 c σ h) Q = Q (.xc c []) h := Eq.trans rfl rfl
@[simp ↓] theorem okr_xvN {c : Nat} {ks : List Nat} {as : M (List D)} : OkRx E (mXvN c ks as σ h) Q = OkRx E (as σ h) fun ds h1 => (ds.length = ks.length ∧ flatF ds = true) ∧ Q (.xc c (ks.zip ds).reverse) h1 := by
  unfold mXvN
  rw [okr_bind]
  congr 1
  funext ds h1
  by_cases z : ds.length = ks.length ∧ flatF ds = true
  · rw [if_pos z, okr_ok]
    exact propext ⟨fun q => ⟨z, q⟩, fun q => q.2⟩
  · rw [if_neg z, okr_no]
    exact propext ⟨fun q => q.elim, fun q => z q.1⟩
@[simp ↓] theorem okr_xvI {mt : Nat → Nat → Option Bool} {k : Nat} {m : M D} : OkRx E (mXvI mt k m σ h) Q = OkRx E (m σ h) fun d h1 => asXc d fun c _ => opt (mt c k) fun b => Q (.bl b) h1 := by
  unfold mXvI
  rw [okr_bind]
  congr 1
  funext d h1
  cases d with
  | xc c fs =>
    show OkRx E (match mt c k with | some b => .ok (.bl b) h1 | none => .no) Q = opt (mt c k) _
    cases mt c k <;> rfl
  | _ => rfl
@[simp ↓] theorem okr_xvV {mt : Nat → Nat → Option Bool} {m : M D} : OkRx E (mXvV mt m σ h) Q = OkRx E (m σ h) fun d h1 => asXc d fun c _ => opt (mt c c) fun _ => Q (.bl true) h1 := by
  unfold mXvV
  rw [okr_bind]
  congr 1
  funext d h1
  cases d with
  | xc c fs =>
    show OkRx E (match mt c c with | some _ => .ok (.bl true) h1 | none => .no) Q = opt (mt c c) _
    cases mt c c <;> rfl
  | _ => rfl
@[simp ↓] theorem okr_xvF {na k : Nat} {ok : Nat → Bool} {m : M D} : OkRx E (mXvF na k ok m σ h) Q = OkRx E (m σ h) fun d h1 => asXc d fun c fs => if ok c = true ∧ fOk na fs = true ∧ k < na then opt (fs.lookup k) fun d => Q d h1 else False := by
  unfold mXvF
  rw [okr_bind]
  congr 1
  funext d h1
  cases d with
  | xc c fs =>
    show OkRx E (if ok c && (fOk na fs && decide (k < na)) then (match fs.lookup k with | some d => .ok d h1 | none => .no) else .no) Q = asXc (.xc c fs) _
    rw [asXc_x]
    by_cases z : ok c = true ∧ fOk na fs = true ∧ k < na
    · rw [if_pos z, if_pos (by simp [z.1, z.2.1, z.2.2])]
      cases fs.lookup k <;> rfl
    · rw [if_neg z, if_neg (by simpa using z)]
      rfl
  | _ => rfl
@[simp ↓] theorem okr_dict0 : OkRx E (mDict0 σ h) Q = Q (.ref h.length) (h ++ [.dct []]) := Eq.trans rfl rfl
@[simp ↓] theorem okr_get1 {m' : M D} : OkRx E (mGet1 m m' σ h) Q = OkRx E (m σ h) fun x h1 => opt (dctOf h1 x) fun _ => OkRx E (m' σ h1) fun y h2 => opt (dctOf h2 x) fun kvs => (isKey y = true ∧ Q ((dget kvs y).getD .non) h2) := by
  unfold mGet1
  rw [okr_get2]
  simp only [okr_lit]
theorem in_dictF {kvs : List (D × D)} {i : Int} : cmpD .inn (.int i) (.fd kvs) h = some (dget kvs (.int i)).isSome := Eq.trans rfl rfl
theorem in_dictR {kvs : List (D × D)} {i : Int} {p : Nat} (e : h[p]? = some (.dct kvs)) : cmpD .inn (.int i) (.ref p) h = some (dget kvs (.int i)).isSome := by
  show inD h (.int i) (.ref p) = _
  unfold inD
  have e1 : seqOf h (.ref p) = none := by
    show (match h[p]? with | some (.lst xs) => some xs | _ => none) = none
    rw [e]
  have e2 : dctOf h (.ref p) = some kvs := by
    show (match h[p]? with | some (.dct kvs) => some kvs | _ => none) = some kvs
    rw [e]
  simp only [e1, e2]
  rfl
theorem dget_putMap {i j : Int} {v : D} : ∀ (kvs : List (D × D)), dget (kvs.map fun p => if keyEq p.1 (.int i) then (p.1, v) else p) (.int j) = if i = j then (if kvs.any (fun p => keyEq p.1 (.int i)) = true then some v else none) else dget kvs (.int j)
  | [] => by
    show none = _
    split <;> rfl
  | (k, u) :: r => by
    have ih := dget_putMap (i := i) (j := j) (v := v) r
    rw [List.map_cons, List.any_cons]
    by_cases hk : keyEq k (.int i) = true
    · have ek : k = .int i := by
        cases k <;> first | (cases hk; done) | skip
        rename_i a
        have hk : (a == i) = true := hk
        rw [beq_iff_eq] at hk
        rw [hk]
      subst ek
      simp only [hk, if_true, Bool.true_or]
      show (if (i == j) = true then some v else dget (r.map _) (.int j)) = _
      by_cases z : i = j
      · rw [if_pos (by simpa using z), if_pos z]
      · rw [if_neg (by simpa using z), if_neg z, ih, if_neg z]
        show _ = if (i == j) = true then some u else dget r (.int j)
        rw [if_neg (by simpa using z)]
    · have hk' : keyEq k (.int i) = false := by simpa using hk
      simp only [hk', Bool.false_or, if_false]
      show (if keyEq k (.int j) = true then some u else dget (r.map _) (.int j)) = if i = j then _ else (if keyEq k (.int j) = true then some u else dget r (.int j))
      rw [ih]
      by_cases z : i = j
      · subst z
        rw [if_neg hk, if_pos rfl, if_pos rfl]
      · rw [if_neg z, if_neg z]
theorem dget_appD {a b : List (D × D)} {x : D} : dget (a ++ b) x = (dget a x).or (dget b x) := by
  induction a with
  | nil => rfl
  | cons p a ih =>
    obtain ⟨k, v⟩ := p
    show (if keyEq k x then some v else dget (a ++ b) x) = (if keyEq k x then some v else dget a x).or (dget b x)
    rw [ih]
    split <;> rfl
theorem dget_any {i : Int} : ∀ {a : List (D × D)}, a.any (fun p => keyEq p.1 (.int i)) = false → dget a (.int i) = none
  | [], _ => rfl
  | (k, v) :: a, h => by
    rw [List.any_cons, Bool.or_eq_false_iff] at h
    show (if keyEq k (.int i) = true then some v else dget a (.int i)) = none
    rw [if_neg (by simp [h.1]), dget_any h.2]
theorem dget_put {kvs : List (D × D)} {i j : Int} {v : D} : dget (dput kvs (.int i) v) (.int j) = if i = j then some v else dget kvs (.int j) := by
  unfold dput
  split
  · rename_i ha
    rw [dget_putMap, ha]
    rfl
  · rename_i ha
    have ha : kvs.any (fun p => keyEq p.1 (.int i)) = false := by simpa using ha
    rw [dget_appD]
    have e : dget [(D.int i, v)] (.int j) = if i = j then some v else none := by
      show (if (i == j) = true then some v else none) = _
      by_cases z : i = j
      · rw [if_pos (by simpa using z), if_pos z]
      · rw [if_neg (by simpa using z), if_neg z]
    rw [e]
    by_cases z : i = j
    · subst z
      rw [dget_any ha, if_pos rfl]
      rfl
    · rw [if_neg z, if_neg z]
      cases dget kvs (.int j) <;> rfl
theorem dput_len {kvs : List (D × D)} {x v : D} : (dput kvs x v).length ≤ kvs.length + 1 := by
  unfold dput
  split
  · rw [List.length_map]
    omega
  · rw [List.length_append]
    exact Nat.le_refl _
theorem dput_all {kvs : List (D × D)} {x v : D} {P P2 : D → Prop} (h1 : ∀ p ∈ kvs, P p.1 ∧ P2 p.2) (h2 : P x) (h3 : P2 v) : ∀ p ∈ dput kvs x v, P p.1 ∧ P2 p.2 := by
  intro p hp
  unfold dput at hp
  split at hp
  · obtain ⟨q, hq, rfl⟩ := List.mem_map.mp hp
    split
    · exact ⟨(h1 q hq).1, h3⟩
    · exact h1 q hq
  · rcases List.mem_append.mp hp with hp | hp
    · exact h1 p hp
    · rw [List.mem_singleton] at hp
      subst hp
      exact ⟨h2, h3⟩
theorem blwp_all {k : Nat} : ∀ {kvs : List (D × D)}, (∀ p ∈ kvs, D.blw k p.1 = true ∧ D.blw k p.2 = true) → D.blwp k kvs = true
  | [], _ => rfl
  | (a, b) :: r, h => by
    show (D.blw k a && D.blw k b && D.blwp k r) = true
    rw [(h (a, b) (by simp)).1, (h (a, b) (by simp)).2, blwp_all fun p hp => h p (by simp [hp])]
    rfl
theorem frz_dct {p : Nat} {kvs : List (D × D)} {h' h : Hs} {Q : D → Hs → Prop} (l : h.length ≤ p) (e : h'[p]? = some (.dct kvs)) (b : D.blwp h.length kvs = true) (q : Q (.fd kvs) h) : OkR (frz h.length h' h (.ref p)) Q := by
  show OkR (if p < h.length then _ else _) Q
  rw [if_neg (by omega), e]
  show OkR (if D.blwp h.length kvs = true then _ else _) Q
  rw [if_pos b]
  exact q
end
end DN

set_option Elab.async false
set_option linter.all false
set_option maxRecDepth 100000
set_option maxHeartbeats 0
/-! the law's defs as meanings; printed by gen_law.py -/
namespace LW
open PySem DN
def top (i : Nat) : Stmt := PySem.Challenge.pw_sinktree_k00_errors.main.body.getD i (.Pass ⟨0, 0, 0, 0⟩)
def mtl : List (List Bool) := [[true, false, false, false, false, false, false, false, false, false], [true, true, false, false, false, false, false, false, false, false], [true, false, true, false, false, false, false, false, false, false], [true, false, false, true, false, false, false, false, false, false], [true, false, false, false, true, false, false, false, false, false], [true, false, false, false, false, true, false, false, false, false], [true, false, false, false, false, false, true, false, false, false], [true, false, false, false, false, false, false, true, false, false], [true, false, false, false, false, false, false, false, true, false], [true, false, false, false, false, false, false, false, false, true]]
def at_ : List Str := ["reason", "index"]
def na : Nat := 2
def okl : List (Nat × Nat) := []
def okfB (c k : Nat) : Bool := okl.any fun q => Nat.beq q.1 c && Nat.beq q.2 k
def mths : List (Str × List (Nat × Nat × Nat)) := []
def maks : List (Str × Nat × Nat × Nat) := []
def xinl : List (Nat × List Nat) := [(2, [0]), (3, [1]), (4, [1, 0])]
noncomputable def in0 : Ini := ⟨2, "BadProgram", [0], "BadProgram.__init__", L2.defArgs (L2.inClass (top 3) 0), L2.defBody (L2.inClass (top 3) 0), L2.defScope (L2.inClass (top 3) 0), ["self", "reason"]⟩
noncomputable def in1 : Ini := ⟨3, "BadText", [1], "BadText.__init__", L2.defArgs (L2.inClass (top 4) 0), L2.defBody (L2.inClass (top 4) 0), L2.defScope (L2.inClass (top 4) 0), ["self", "index"]⟩
noncomputable def in2 : Ini := ⟨4, "BadCode", [1, 0], "BadCode.__init__", L2.defArgs (L2.inClass (top 5) 0), L2.defBody (L2.inClass (top 5) 0), L2.defScope (L2.inClass (top 5) 0), ["self", "index", "reason"]⟩
noncomputable def inis : List Ini := [in0, in1, in2]
/- 0 _law_cell: 0 _law_script, 1 _law_k -/
noncomputable def b0 (n : Nat) (C : Calls) : B := (sSeq (sIf (tVal (mOp (opCmp .lt) (mVar 1) (mApp bLen (mCons (mVar 0) mNil)))) (sSeq (sRet (mApp bAbs (mCons (mApp bIntS (mCons (mOp opIx (mVar 0) (mVar 1)) mNil)) mNil)))
  sPass) sPass)
  (sSeq (sRet (mLit (.int 0)))
  sPass))
noncomputable def r0 : Row := ⟨"_law_cell", top 12, ["_law_script", "_law_k"], ["_law_script", "_law_k"], ⟨2, 2, true, b0⟩, false, none, "_law_cell"⟩
/- 1 _law_draws: 0 _law_script, 1 _law_start, 2 _law_most, 3 _law_draws_here, 4 _law_cell_here, 5 _law_number, 6 _law_mixed, 7 _law_k -/
noncomputable def b1 (n : Nat) (C : Calls) : B := (sSeq (sAsg (mLst true mNil) (gVar 3))
  (sSeq (sFor (gVar 4) (iVal (mSlc false (mVar 0) (some (mVar 1)) none)) (sSeq (sAsg (mApp bAbs (mCons (mApp bIntS (mCons (mVar 4) mNil)) mNil)) (gVar 5))
  (sSeq (sIf (tVal (mOp (opCmp .lt) (mVar 5) (mOp opPow (mLit (.int 10)) (mLit (.int 18))))) (sSeq (sAsg (mOp opMod (mApp bIntS (mCons (mOp (opAdd false) (mOp (opMul false) (mVar 5) (mLit (.int 48271))) (mLit (.int 11))) mNil)) (mLit (.int 2147483647))) (gVar 6))
  (sSeq (sEx (mBM "list" eAppend (mVar 3) (mCons (mVar 5) mNil)))
  (sSeq (sEx (mBM "list" eAppend (mVar 3) (mCons (mOp opFdiv (mOp opMod (mApp bIntS (mCons (mOp (opAdd false) (mOp (opAdd false) (mOp (opMul false) (mVar 6) (mLit (.int 16807))) (mOp opFdiv (mVar 5) (mLit (.int 9)))) (mLit (.int 3))) mNil)) (mLit (.int 2147483647))) (mLit (.int 7))) mNil)))
  (sSeq (sEx (mBM "list" eAppend (mVar 3) (mCons (mOp opFdiv (mOp opMod (mApp bIntS (mCons (mOp (opAdd false) (mOp (opAdd false) (mOp (opMul false) (mVar 6) (mLit (.int 69621))) (mOp opFdiv (mVar 5) (mLit (.int 5)))) (mLit (.int 7))) mNil)) (mLit (.int 2147483647))) (mLit (.int 11))) mNil)))
  sPass)))) (sSeq (sFor (gVar 7) (iRng1 (mLit (.int 20))) (sSeq (sIf (tVal (mOp (opCmp .gt) (mVar 5) (mLit (.int 0)))) (sSeq (sEx (mBM "list" eAppend (mVar 3) (mCons (mOp opMod (mApp bIntS (mCons (mVar 5) mNil)) (mLit (.int 10000))) mNil)))
  sPass) sPass)
  (sSeq (sAsg (mOp opFdiv (mVar 5) (mLit (.int 10000))) (gVar 5))
  sPass)))
  sPass))
  sPass)))
  (sSeq (sRet (mSlc true (mVar 3) none (some (mVar 2))))
  sPass)))
noncomputable def r1 : Row := ⟨"_law_draws", top 13, ["_law_script", "_law_start", "_law_most", "_law_draws_here", "_law_cell_here", "_law_number", "_law_mixed", "_law_k"], ["_law_script", "_law_start", "_law_most"], ⟨3, 8, false, b1⟩, false, none, "_law_draws"⟩
/- 2 _law_next: 0 _law_draws_here -/
noncomputable def b2 (n : Nat) (C : Calls) : B := (sSeq (sIf (tVal (mOp (opCmp .eq) (mApp bLen (mCons (mVar 0) mNil)) (mLit (.int 0)))) (sSeq (sRet (mLit (.int 0)))
  sPass) sPass)
  (sSeq (sRet (mBM "list" ePop (mVar 0) (mCons (mLit (.int 0)) mNil)))
  sPass))
noncomputable def r2 : Row := ⟨"_law_next", top 14, ["_law_draws_here"], ["_law_draws_here"], ⟨1, 1, false, b2⟩, false, none, "_law_next"⟩
/- 3 _law_kinds: 0 _law_error, 1 _law_rows -/
noncomputable def b3 (n : Nat) (C : Calls) : B := (sSeq (sAsg (mLst false (mCons (mXvI (mtOf mtl) 1 (mVar 0)) (mCons (mXvI (mtOf mtl) 5 (mVar 0)) (mCons (mXvI (mtOf mtl) 6 (mVar 0)) (mCons (mXvI (mtOf mtl) 7 (mVar 0)) (mCons (mXvI (mtOf mtl) 8 (mVar 0)) (mCons (mXvI (mtOf mtl) 9 (mVar 0)) (mCons (mXvI (mtOf mtl) 2 (mVar 0)) (mCons (mXvI (mtOf mtl) 3 (mVar 0)) (mCons (mXvI (mtOf mtl) 4 (mVar 0)) mNil)))))))))) (gVar 1))
  (sSeq (sRet (mTup (mCons (mVar 1) (mCons (mXvI (mtOf mtl) 0 (mVar 0)) (mCons (mXvV (mtOf mtl) (mVar 0)) mNil)))))
  sPass))
noncomputable def r3 : Row := ⟨"_law_kinds", top 15, ["_law_error", "_law_rows"], ["_law_error"], ⟨1, 2, false, b3⟩, false, none, "_law_kinds"⟩
/- 4 law: 0 _law_script, 1 _law_draws_here, 2 _law_reason, 3 _law_index, 4 _law_errors, 5 _law_k, 6 _law_at -/
noncomputable def b4 (n : Nat) (C : Calls) : B := (sSeq (sAsg (mCallN C 3 1 (mCons (mVar 0) (mCons (mLit (.int 0)) (mCons (mLit (.int 6)) mNil)))) (gVar 1))
  (sSeq (sAsg (mOp opIx (mLst false (mCons (mLit (.str [115, 104, 97, 112, 101])) (mCons (mLit (.str [102, 105, 101, 108, 100])) (mCons (mLit (.str [107, 105, 110, 100])) (mCons (mLit (.str [108, 97, 114, 103, 101])) (mCons (mLit (.str [114, 97, 110, 103, 101])) mNil)))))) (mOp opMod (mCallN C 1 2 (mCons (mVar 1) mNil)) (mLit (.int 5)))) (gVar 2))
  (sSeq (sAsg (mOp opMod (mCallN C 1 2 (mCons (mVar 1) mNil)) (mLit (.int 2001))) (gVar 3))
  (sSeq (sAsg (mLst false (mCons (mXv0 1) (mCons (mXv0 5) (mCons (mXv0 6) (mCons (mXv0 7) (mCons (mXv0 8) (mCons (mXv0 9) (mCons (mXvN 2 [0] (mCons (mVar 2) mNil)) (mCons (mXvN 3 [1] (mCons (mVar 3) mNil)) (mCons (mXvN 4 [1, 0] (mCons (mVar 3) (mCons (mVar 2) mNil))) mNil)))))))))) (gVar 4))
  (sSeq (sFor (gVar 5) (iRng1 (mLit (.int 9))) (sSeq (sIf (tVal (mOp (opCmp .ne) (mCallN C 1 3 (mCons (mOp opIx (mVar 4) (mVar 5)) mNil)) (mTup (mCons (mLc false [6] [6] (iRng1 (mLit (.int 9))) tYesM (mOp (opCmp .eq) (mVar 6) (mVar 5))) (mCons (mLit (.bl true)) (mCons (mLit (.bl true)) mNil)))))) (sSeq (sRet (mLit (.bl false)))
  sPass) sPass)
  sPass))
  (sSeq (sIf (tOr (tVal (mOp (opCmp .ne) (mXvF na 0 (xfOk xinl 0) (mOp opIx (mVar 4) (mLit (.int 6)))) (mVar 2))) (tVal (mOp (opCmp .ne) (mXvF na 1 (xfOk xinl 1) (mOp opIx (mVar 4) (mLit (.int 7)))) (mVar 3)))) (sSeq (sRet (mLit (.bl false)))
  sPass) sPass)
  (sSeq (sRet (mAnd (mOp (opCmp .eq) (mXvF na 1 (xfOk xinl 1) (mOp opIx (mVar 4) (mLit (.int 8)))) (mVar 3)) (mOp (opCmp .eq) (mXvF na 0 (xfOk xinl 0) (mOp opIx (mVar 4) (mLit (.int 8)))) (mVar 2))))
  sPass)))))))
noncomputable def r4 : Row := ⟨"law", top 16, ["_law_script", "_law_draws_here", "_law_reason", "_law_index", "_law_errors", "_law_k", "_law_at"], ["_law_script"], ⟨1, 7, false, b4⟩, false, none, "law"⟩
noncomputable def rows : List Row := [r0, r1, r2, r3, r4]
noncomputable def L : LawT := ⟨rows, [], ["ValueError", "abs", "int", "isinstance", "len", "range", "super"], [(38, 22), (51, 11)], ["SinkError", "BadSchema", "BadProgram", "BadText", "BadCode", "BadKey", "BadRecord", "DiskError", "DiskCrashed", "DiskFull"], mtl, [0, 1, 5, 6, 7, 8, 9], true, at_, inis, [], maks, mths, okl, []⟩
def fns : List (Str × Nat × Nat) := ("_law_cell", 0, 2) :: ("_law_draws", 1, 3) :: ("_law_next", 2, 1) :: ("_law_kinds", 3, 1) :: ("law", 4, 1) :: []
theorem fns_eq : fnsFrom 0 L.rows = fns := rfl
theorem in0_ok : IniOk L.attr in0 := { fn := fun S hm hfd k => sup_fn1 S ⟨⟨_, rfl, rfl⟩, rfl, rfl, by decide +kernel, rfl, rfl, rfl, by decide +kernel, by decide +kernel, by decide +kernel⟩ hm hfd rfl (fun env => rfl), bind := fun _ _ _ _ _ _ _ us hl => match us, hl with | [_, _], _ => rfl, ne := by decide }
theorem in1_ok : IniOk L.attr in1 := { fn := fun S hm hfd k => sup_fn1 S ⟨⟨_, rfl, rfl⟩, rfl, rfl, by decide +kernel, rfl, rfl, rfl, by decide +kernel, by decide +kernel, by decide +kernel⟩ hm hfd rfl (fun env => rfl), bind := fun _ _ _ _ _ _ _ us hl => match us, hl with | [_, _], _ => rfl, ne := by decide }
theorem in2_ok : IniOk L.attr in2 := { fn := fun S hm hfd k => sup_fn2 S ⟨⟨_, rfl, rfl⟩, rfl, rfl, by decide +kernel, rfl, rfl, rfl, by decide +kernel, by decide +kernel, by decide +kernel⟩ hm (by decide +kernel) hfd rfl (fun env => rfl), bind := fun _ _ _ _ _ _ _ us hl => match us, hl with | [_, _, _], _ => rfl, ne := by decide }
theorem ok0 : RowOk L fns r0 := { body := fun C n k => by kernel_rfl, scope := ⟨rfl, rfl, rfl, by decide +kernel, rfl, by decide +kernel, by decide +kernel⟩, bind := fun _ _ _ _ _ _ us hl => match us, hl with | [_, _], _ => rfl, ar := rfl, sl := rfl }
theorem ok1 : RowOk L fns r1 := { body := fun C n k => by kernel_rfl, scope := ⟨rfl, rfl, rfl, by decide +kernel, rfl, by decide +kernel, by decide +kernel⟩, bind := fun _ _ _ _ _ _ us hl => match us, hl with | [_, _, _], _ => rfl, ar := rfl, sl := rfl }
theorem ok2 : RowOk L fns r2 := { body := fun C n k => by kernel_rfl, scope := ⟨rfl, rfl, rfl, by decide +kernel, rfl, by decide +kernel, by decide +kernel⟩, bind := fun _ _ _ _ _ _ us hl => match us, hl with | [_], _ => rfl, ar := rfl, sl := rfl }
theorem ok3 : RowOk L fns r3 := { body := fun C n k => by kernel_rfl, scope := ⟨rfl, rfl, rfl, by decide +kernel, rfl, by decide +kernel, by decide +kernel⟩, bind := fun _ _ _ _ _ _ us hl => match us, hl with | [_], _ => rfl, ar := rfl, sl := rfl }
theorem ok4 : RowOk L fns r4 := { body := fun C n k => by kernel_rfl, scope := ⟨rfl, rfl, rfl, by decide +kernel, rfl, by decide +kernel, by decide +kernel⟩, bind := fun _ _ _ _ _ _ us hl => match us, hl with | [_], _ => rfl, ar := rfl, sl := rfl }
theorem ok : ∀ r ∈ L.rows, RowOk L (fnsFrom 0 L.rows) r := by
  rw [fns_eq]
  have e : ∀ r, r ∈ L.rows ↔ r ∈ rows := fun r => Iff.rfl
  intro r hr
  rw [e] at hr
  unfold rows at hr
  simp only [List.mem_cons, List.not_mem_nil, or_false] at hr
  rcases hr with rfl | rfl | rfl | rfl | rfl
  · exact ok0
  · exact ok1
  · exact ok2
  · exact ok3
  · exact ok4
noncomputable abbrev K (n d : Nat) : Calls := callF L.tab n d
theorem call_eq {n d f : Nat} {fe : FnE} {ds : List D} {h : Hs} (e : L.tab f = some fe) : K n (d + 1) f ds h = fe.run n (K n d) ds h := by
  exact callF_s e ds h
theorem c0 {n d : Nat} {a0 a1 : D} {h : Hs} {Q : D → Hs → Prop} (q : OkO (b0 n (K n d) [some a0, some a1] h) (fun _ h1 => (∃ g, h1 = h ++ g) ∧ Q .non h) (fun v h1 => (∃ g, h1 = h ++ g) ∧ OkR (frz h.length h1 h v) Q) (fun _ _ => False) fun _ _ => False) : OkR (K n (d + 1) 0 [a0, a1] h) Q := by
  rw [call_eq (fe := r0.fe) rfl]
  exact okr_pure q
theorem x1 {n d : Nat} {a0 a1 a2 : D} {h : Hs} {E : XR} {Q : D → Hs → Prop} : OkRx E (K n (d + 1) 1 [a0, a1, a2] h) Q = OkOx (fun c fs _ h => E c fs h) (b1 n (K n d) [some a0, some a1, some a2, none, none, none, none, none] h) (fun _ h1 => Q .non h1) Q (fun _ _ => False) fun _ _ => False := by
  rw [call_eq (fe := r1.fe) rfl]
  exact okr_fin
theorem c1 {n d : Nat} {a0 a1 a2 : D} {h : Hs} {Q : D → Hs → Prop} : OkR (K n (d + 1) 1 [a0, a1, a2] h) Q = OkO (b1 n (K n d) [some a0, some a1, some a2, none, none, none, none, none] h) (fun _ h1 => Q .non h1) Q (fun _ _ => False) fun _ _ => False := x1
theorem x2 {n d : Nat} {a0 : D} {h : Hs} {E : XR} {Q : D → Hs → Prop} : OkRx E (K n (d + 1) 2 [a0] h) Q = OkOx (fun c fs _ h => E c fs h) (b2 n (K n d) [some a0] h) (fun _ h1 => Q .non h1) Q (fun _ _ => False) fun _ _ => False := by
  rw [call_eq (fe := r2.fe) rfl]
  exact okr_fin
theorem c2 {n d : Nat} {a0 : D} {h : Hs} {Q : D → Hs → Prop} : OkR (K n (d + 1) 2 [a0] h) Q = OkO (b2 n (K n d) [some a0] h) (fun _ h1 => Q .non h1) Q (fun _ _ => False) fun _ _ => False := x2
theorem x3 {n d : Nat} {a0 : D} {h : Hs} {E : XR} {Q : D → Hs → Prop} : OkRx E (K n (d + 1) 3 [a0] h) Q = OkOx (fun c fs _ h => E c fs h) (b3 n (K n d) [some a0, none] h) (fun _ h1 => Q .non h1) Q (fun _ _ => False) fun _ _ => False := by
  rw [call_eq (fe := r3.fe) rfl]
  exact okr_fin
theorem c3 {n d : Nat} {a0 : D} {h : Hs} {Q : D → Hs → Prop} : OkR (K n (d + 1) 3 [a0] h) Q = OkO (b3 n (K n d) [some a0, none] h) (fun _ h1 => Q .non h1) Q (fun _ _ => False) fun _ _ => False := x3
theorem x4 {n d : Nat} {a0 : D} {h : Hs} {E : XR} {Q : D → Hs → Prop} : OkRx E (K n (d + 1) 4 [a0] h) Q = OkOx (fun c fs _ h => E c fs h) (b4 n (K n d) [some a0, none, none, none, none, none, none] h) (fun _ h1 => Q .non h1) Q (fun _ _ => False) fun _ _ => False := by
  rw [call_eq (fe := r4.fe) rfl]
  exact okr_fin
theorem c4 {n d : Nat} {a0 : D} {h : Hs} {Q : D → Hs → Prop} : OkR (K n (d + 1) 4 [a0] h) Q = OkO (b4 n (K n d) [some a0, none, none, none, none, none, none] h) (fun _ h1 => Q .non h1) Q (fun _ _ => False) fun _ _ => False := x4
end LW

set_option Elab.async false
set_option linter.all false
set_option maxRecDepth 100000
set_option maxHeartbeats 0
namespace LW
open PySem DN
section
variable {n d : Nat} {h : Hs}
theorem next_ok {p : Nat} (q : Dr p h) : OkR (K n (d + 1) 2 [.ref p] h) fun v h' => ∃ i : Int, v = .int i ∧ 0 ≤ i ∧ Dr p h' ∧ Fr p h h' := by
  obtain ⟨ns, e, nn⟩ := q
  rw [c2]
  unfold b2
  cases ns with
  | nil =>
    simp [e]
    exact ⟨⟨[], e, nn⟩, Fr.refl p h⟩
  | cons i ns =>
    have e' : h[p]? = some (.lst (.int i :: ns.map .int)) := e
    simp [e']
    refine ⟨nn i (by simp), ⟨ns, ?_, fun k hk => nn k (by simp [hk])⟩, Fr.set p h _⟩
    rw [List.getElem?_set_self (lt_of_at e)]
def I7 (h : Hs) (ns : List Int) (most : Int) (rest : List D) (σ : DN.Env) (h' : Hs) : Prop := ∃ (xs rs : List Int) (u4 u5 u6 u7 : Option D), h' = h ++ [.lst (xs.map .int)] ∧ (∀ n ∈ xs, 0 ≤ n) ∧ rest = rs.map .int ∧ xs.length + 20 * rs.length ≤ 2000 ∧ σ = [some (.sl (ns.map .int)), some (.int 0), some (.int most), some (.ref h.length), u4, u5, u6, u7]
def I7b (h : Hs) (ns : List Int) (most : Int) (rs : List Int) (rest : List D) (σ : DN.Env) (h' : Hs) : Prop := ∃ (xs : List Int) (m : Int) (u4 u6 u7 : Option D), 0 ≤ m ∧ h' = h ++ [.lst (xs.map .int)] ∧ (∀ n ∈ xs, 0 ≤ n) ∧ xs.length + 20 * rs.length + rest.length ≤ 2000 ∧ σ = [some (.sl (ns.map .int)), some (.int 0), some (.int most), some (.ref h.length), u4, some (.int m), u6, u7]
theorem draws_ok {ns : List Int} {most : Int} (hl : ns.length ≤ 63) : OkR (K n (d + 1) 1 [.sl (ns.map .int), .int 0, .int most] h) fun v h' => ∃ p, v = .ref p ∧ Dr p h' := by
  rw [c1]
  unfold b1
  simp
  refine ⟨by omega, ?_⟩
  refine loop_t (I7 h ns most) ?_ ?_ ?_
  · exact ⟨[], ns, none, none, none, none, rfl, by simp, rfl, by simp; omega, rfl⟩
  · rintro σ h' ⟨xs, rs, u4, u5, u6, u7, rfl, nn, er, el, rfl⟩
    simp
    refine ⟨Nat.le_trans (cut_len _ _ _) (by simp; omega), cutD xs none (some most), ?_, fun n hn => nn n (cut_mem hn)⟩
    simp [cut_map]
  · rintro x rest σ h' ⟨xs, rs, u4, u5, u6, u7, rfl, nn, er, el, rfl⟩
    cases rs with
    | nil => cases er
    | cons r rs =>
      cases er
      have hm : ∃ m : Int, (if r < 0 then -r else r) = m ∧ 0 ≤ m := ⟨_, rfl, by split <;> omega⟩
      obtain ⟨m, em, m0⟩ := hm
      simp at el
      simp [em]
      by_cases hr : m < 1000000000000000000
      · rw [if_pos hr]
        refine ⟨by omega, by omega, by omega, xs ++ [m, ((m * 48271 + 11) % 2147483647 * 16807 + m / 9 + 3) % 2147483647 / 7, ((m * 48271 + 11) % 2147483647 * 69621 + m / 5 + 7) % 2147483647 / 11], rs, _, _, _, _, by simp, ?_, rfl, by simp; omega, rfl⟩
        intro k hk
        simp at hk
        rcases hk with hk | hk | hk | hk
        · exact nn k hk
        · omega
        · omega
        · omega
      · rw [if_neg hr]
        refine loop_t (I7b h ns most rs) ?_ ?_ ?_
        · exact ⟨xs, m, _, _, _, m0, rfl, nn, by simp [rngL]; omega, rfl⟩
        · rintro σ h' ⟨xs, m, u4, u6, u7, m0, rfl, nn, el, rfl⟩
          simp at el
          exact ⟨xs, rs, _, _, _, _, rfl, nn, rfl, by omega, rfl⟩
        · rintro x rest σ h' ⟨xs, m, u4, u6, u7, m0, rfl, nn, el, rfl⟩
          simp at el
          simp
          split
          · refine ⟨by omega, xs ++ [m % 10000], m / 10000, _, _, _, by omega, by simp, ?_, by simp; omega, rfl⟩
            intro k hk
            simp at hk
            rcases hk with hk | hk
            · exact nn k hk
            · omega
          · exact ⟨xs, m / 10000, _, _, _, by omega, rfl, nn, by omega, rfl⟩
end

section
variable {n d : Nat} {h : Hs}
def exs (r : List Nat) (i : Int) : List D := [.xc 1 [], .xc 5 [], .xc 6 [], .xc 7 [], .xc 8 [], .xc 9 [], .xc 2 [(0, .str r)], .xc 3 [(1, .int i)], .xc 4 [(0, .str r), (1, .int i)]]
def kd (c : Nat) : D := .tup [.fl (([1, 5, 6, 7, 8, 9, 2, 3, 4] : List Nat).map fun k => .bl (Nat.beq c k)), .bl true, .bl true]
theorem kinds_ok {c : Nat} {fs : List (Nat × D)} (hc : c = 1 ∨ c = 5 ∨ c = 6 ∨ c = 7 ∨ c = 8 ∨ c = 9 ∨ c = 2 ∨ c = 3 ∨ c = 4) : OkR (K n (d + 1) 3 [.xc c fs] h) fun v h' => v = kd c ∧ h' = h := by
  rw [c3]
  unfold b3
  simp
  rcases hc with rfl | rfl | rfl | rfl | rfl | rfl | rfl | rfl | rfl
  all_goals
    simp [mtOf, mtl, kd]
  all_goals decide
end
def IL (h : Hs) (ns : List Int) (p : Nat) (r : List Nat) (i : Int) (rest : List D) (σ : DN.Env) (h' : Hs) : Prop := ∃ (j s : Nat) (u5 : Option D), rest = rngL j s ∧ j + s = 9 ∧ h' = h ∧ σ = [some (.sl (ns.map .int)), some (.ref p), some (.str r), some (.int i), some (.fl (exs r i)), u5, none]
theorem law_ok {ns : List Int} {n d : Nat} (hl : ns.length ≤ 63) (hd : 20 ≤ d) : OkR (K n d 4 [.sl (ns.map .int)] []) fun v _ => v = .bl true := by
  obtain ⟨d, rfl⟩ : ∃ e, d = e + 2 := ⟨d - 2, by omega⟩
  rw [c4]
  unfold b4
  simp
  refine (draws_ok hl).mono ?_
  rintro _ h1 ⟨p, rfl, q1⟩
  refine (next_ok q1).mono ?_
  rintro _ h2 ⟨i2, rfl, p2, q2, f2⟩
  simp
  refine opt_ix (by omega) (by simp; omega) fun v hv => ?_
  obtain ⟨r, rfl⟩ : ∃ r, v = .str r := by
    simp at hv
    rcases hv with rfl | rfl | rfl | rfl | rfl <;> exact ⟨_, rfl⟩
  refine (next_ok q2).mono ?_
  rintro _ h3 ⟨i3, rfl, p3, q3, f3⟩
  simp [flatF]
  refine loop_t (IL h3 ns p r (i3 % 2001)) ?_ ?_ ?_
  · exact ⟨0, 9, none, rfl, rfl, rfl, rfl⟩
  · rintro σ h' ⟨j, s, u5, er, el, rfl, rfl⟩
    have e6 : ixat (exs r (i3 % 2001)) 6 = some (.xc 2 [(0, .str r)]) := ixat_nat (k := 6) rfl rfl
    have e7 : ixat (exs r (i3 % 2001)) 7 = some (.xc 3 [(1, .int (i3 % 2001))]) := ixat_nat (k := 7) rfl rfl
    have e8 : ixat (exs r (i3 % 2001)) 8 = some (.xc 4 [(0, .str r), (1, .int (i3 % 2001))]) := ixat_nat (k := 8) rfl rfl
    simp [e6, e7, e8, xfOk, xinl, fOk, na, List.lookup]
    rintro a b (⟨rfl, _⟩ | ⟨rfl, _⟩) <;> rfl
  · rintro x rest σ h' ⟨j, s, u5, er, el, rfl, rfl⟩
    cases s with
    | zero => cases er
    | succ s =>
      cases er
      simp
      have key : ∃ c fs, ixat (exs r (i3 % 2001)) (j : Int) = some (.xc c fs) ∧ (c = 1 ∨ c = 5 ∨ c = 6 ∨ c = 7 ∨ c = 8 ∨ c = 9 ∨ c = 2 ∨ c = 3 ∨ c = 4) ∧ kd c = .tup [.fl [.bl (decide ((0 : Int) = (j : Int))), .bl (decide ((1 : Int) = (j : Int))), .bl (decide ((2 : Int) = (j : Int))), .bl (decide ((3 : Int) = (j : Int))), .bl (decide ((4 : Int) = (j : Int))), .bl (decide ((5 : Int) = (j : Int))), .bl (decide ((6 : Int) = (j : Int))), .bl (decide ((7 : Int) = (j : Int))), .bl (decide ((8 : Int) = (j : Int)))], .bl true, .bl true] := by
        have hj : j = 0 ∨ j = 1 ∨ j = 2 ∨ j = 3 ∨ j = 4 ∨ j = 5 ∨ j = 6 ∨ j = 7 ∨ j = 8 := by omega
        rcases hj with rfl | rfl | rfl | rfl | rfl | rfl | rfl | rfl | rfl
        · exact ⟨_, _, ixat_nat (k := 0) rfl rfl, by decide, rfl⟩
        · exact ⟨_, _, ixat_nat (k := 1) rfl rfl, by decide, rfl⟩
        · exact ⟨_, _, ixat_nat (k := 2) rfl rfl, by decide, rfl⟩
        · exact ⟨_, _, ixat_nat (k := 3) rfl rfl, by decide, rfl⟩
        · exact ⟨_, _, ixat_nat (k := 4) rfl rfl, by decide, rfl⟩
        · exact ⟨_, _, ixat_nat (k := 5) rfl rfl, by decide, rfl⟩
        · exact ⟨_, _, ixat_nat (k := 6) rfl rfl, by decide, rfl⟩
        · exact ⟨_, _, ixat_nat (k := 7) rfl rfl, by decide, rfl⟩
        · exact ⟨_, _, ixat_nat (k := 8) rfl rfl, by decide, rfl⟩
      obtain ⟨c, fs, e1, hc, e2⟩ := key
      simp [e1]
      refine (kinds_ok hc).mono ?_
      rintro _ h4 ⟨rfl, rfl⟩
      have er9 : rngL 0 9 = [.int 0, .int 1, .int 2, .int 3, .int 4, .int 5, .int 6, .int 7, .int 8] := rfl
      rw [er9]
      simp [lc_cons, lc_nil, wipeE, cTg]
      unfold kd at e2 ⊢
      rw [← e2, eq_self (h := h4) rfl]
      refine ⟨rfl, j + 1, s, _, rfl, by omega, rfl, rfl⟩
end LW

set_option Elab.async false
set_option linter.all false
set_option maxRecDepth 100000
set_option maxHeartbeats 0
open PySem PySem.W PySem.Calls PyProof.Rows
theorem PySem.Challenge.cw_sinktree_k00_errors_holds : PySem.Challenge.rw_sinktree_k00_errors.Holds := by
  w_on; o_law
  refine HandSHeadRun.head_any (r := OpenLaw.row PySem.Challenge.rw_sinktree_k00_errors) (q := view (OpenLaw.row PySem.Challenge.rw_sinktree_k00_errors).prog [16]) (H := Hd.hk) (ob := Hd.ob) (M := 20000) (loose := Hd.loose) (d := HandSHeadRun.topDef (OpenLaw.row PySem.Challenge.rw_sinktree_k00_errors).prog 16) (kwd := []) Hd.ob_eq
    (by kernel_rfl) (fun s => by kernel_rfl) Hd.run (by kernel_rfl) (by kernel_rfl) (by kernel_rfl) (by rfl) (by first | assumption | decide +kernel) (by decide +kernel) ⟨rfl, rfl, rfl, rfl, rfl, by decide +kernel⟩ ?hw ?hc
  case hw => w_witness2
  case hc =>
    exact DN.LawT.holds (L := LW.L) (l := PySem.Challenge.rw_sinktree_k00_errors) (n := 63) (k := 100) (il := 4) (x := "_law_script") (rl := LW.r4) (nn := 4) (fa := Hd.fa) (fn := Hd.fn) (tf := Hd.tf) (ex := Hd.ex) (xi := Hd.xi) (xv := Hd.xv) rfl (by decide) (by kernel_rfl) ⟨rfl, by decide, by decide⟩ (by kernel_rfl) rfl rfl rfl rfl LW.ok (by kernel_rfl) (by kernel_rfl) (by
      intro r hr
      have hr' : r ∈ LW.rows := hr
      unfold LW.rows at hr'
      simp only [List.mem_cons, List.not_mem_nil, or_false] at hr'
      rcases hr' with rfl | rfl | rfl | rfl | rfl
      · exact fun _ => List.mem_of_getElem? (i := 10) (by kernel_rfl)
      · exact fun _ => List.mem_of_getElem? (i := 11) (by kernel_rfl)
      · exact fun _ => List.mem_of_getElem? (i := 12) (by kernel_rfl)
      · exact fun _ => List.mem_of_getElem? (i := 13) (by kernel_rfl)
      · exact fun _ => List.mem_of_getElem? (i := 14) (by kernel_rfl)) (by
      intro x hx
      have hx' : x ∈ [("ValueError" : PySem.Str), ("abs" : PySem.Str), ("int" : PySem.Str), ("isinstance" : PySem.Str), ("len" : PySem.Str), ("range" : PySem.Str), ("super" : PySem.Str)] := hx
      simp only [List.mem_cons, List.not_mem_nil, or_false] at hx'
      rcases hx' with rfl | rfl | rfl | rfl | rfl | rfl | rfl
      · exact List.mem_of_getElem? (i := 122) (by kernel_rfl)
      · exact List.mem_of_getElem? (i := 123) (by kernel_rfl)
      · exact List.mem_of_getElem? (i := 124) (by kernel_rfl)
      · exact List.mem_of_getElem? (i := 125) (by kernel_rfl)
      · exact List.mem_of_getElem? (i := 126) (by kernel_rfl)
      · exact List.mem_of_getElem? (i := 127) (by kernel_rfl)
      · exact List.mem_of_getElem? (i := 128) (by kernel_rfl)) (by
      intro x hx
      have hx' : x ∈ [("SinkError" : PySem.Str), ("BadSchema" : PySem.Str), ("BadProgram" : PySem.Str), ("BadText" : PySem.Str), ("BadCode" : PySem.Str), ("BadKey" : PySem.Str), ("BadRecord" : PySem.Str), ("DiskError" : PySem.Str), ("DiskCrashed" : PySem.Str), ("DiskFull" : PySem.Str)] := hx
      simp only [List.mem_cons, List.not_mem_nil, or_false] at hx'
      rcases hx' with rfl | rfl | rfl | rfl | rfl | rfl | rfl | rfl | rfl | rfl
      · exact List.mem_of_getElem? (i := 0) (by kernel_rfl)
      · exact List.mem_of_getElem? (i := 1) (by kernel_rfl)
      · exact List.mem_of_getElem? (i := 2) (by kernel_rfl)
      · exact List.mem_of_getElem? (i := 3) (by kernel_rfl)
      · exact List.mem_of_getElem? (i := 4) (by kernel_rfl)
      · exact List.mem_of_getElem? (i := 5) (by kernel_rfl)
      · exact List.mem_of_getElem? (i := 6) (by kernel_rfl)
      · exact List.mem_of_getElem? (i := 7) (by kernel_rfl)
      · exact List.mem_of_getElem? (i := 8) (by kernel_rfl)
      · exact List.mem_of_getElem? (i := 9) (by kernel_rfl)) (by
      intro i hi
      have hi' : i ∈ [(0 : Nat), (1 : Nat), (5 : Nat), (6 : Nat), (7 : Nat), (8 : Nat), (9 : Nat)] := hi
      simp only [List.mem_cons, List.not_mem_nil, or_false] at hi'
      rcases hi' with rfl | rfl | rfl | rfl | rfl | rfl | rfl
      · exact ⟨_, rfl, List.mem_of_getElem? (i := 15) (by kernel_rfl)⟩
      · exact ⟨_, rfl, List.mem_of_getElem? (i := 16) (by kernel_rfl)⟩
      · exact ⟨_, rfl, List.mem_of_getElem? (i := 17) (by kernel_rfl)⟩
      · exact ⟨_, rfl, List.mem_of_getElem? (i := 18) (by kernel_rfl)⟩
      · exact ⟨_, rfl, List.mem_of_getElem? (i := 19) (by kernel_rfl)⟩
      · exact ⟨_, rfl, List.mem_of_getElem? (i := 20) (by kernel_rfl)⟩
      · exact ⟨_, rfl, List.mem_of_getElem? (i := 21) (by kernel_rfl)⟩) (by
      refine DN.mt_all (m := LW.mtl) ?_
      exact ⟨⟨⟨_, _, rfl, rfl, List.mem_of_getElem? (i := 22) (by kernel_rfl)⟩, ⟨_, _, rfl, rfl, List.mem_of_getElem? (i := 23) (by kernel_rfl)⟩, ⟨_, _, rfl, rfl, List.mem_of_getElem? (i := 24) (by kernel_rfl)⟩, ⟨_, _, rfl, rfl, List.mem_of_getElem? (i := 25) (by kernel_rfl)⟩, ⟨_, _, rfl, rfl, List.mem_of_getElem? (i := 26) (by kernel_rfl)⟩, ⟨_, _, rfl, rfl, List.mem_of_getElem? (i := 27) (by kernel_rfl)⟩, ⟨_, _, rfl, rfl, List.mem_of_getElem? (i := 28) (by kernel_rfl)⟩, ⟨_, _, rfl, rfl, List.mem_of_getElem? (i := 29) (by kernel_rfl)⟩, ⟨_, _, rfl, rfl, List.mem_of_getElem? (i := 30) (by kernel_rfl)⟩, ⟨_, _, rfl, rfl, List.mem_of_getElem? (i := 31) (by kernel_rfl)⟩, trivial⟩, ⟨⟨_, _, rfl, rfl, List.mem_of_getElem? (i := 32) (by kernel_rfl)⟩, ⟨_, _, rfl, rfl, List.mem_of_getElem? (i := 33) (by kernel_rfl)⟩, ⟨_, _, rfl, rfl, List.mem_of_getElem? (i := 34) (by kernel_rfl)⟩, ⟨_, _, rfl, rfl, List.mem_of_getElem? (i := 35) (by kernel_rfl)⟩, ⟨_, _, rfl, rfl, List.mem_of_getElem? (i := 36) (by kernel_rfl)⟩, ⟨_, _, rfl, rfl, List.mem_of_getElem? (i := 37) (by kernel_rfl)⟩, ⟨_, _, rfl, rfl, List.mem_of_getElem? (i := 38) (by kernel_rfl)⟩, ⟨_, _, rfl, rfl, List.mem_of_getElem? (i := 39) (by kernel_rfl)⟩, ⟨_, _, rfl, rfl, List.mem_of_getElem? (i := 40) (by kernel_rfl)⟩, ⟨_, _, rfl, rfl, List.mem_of_getElem? (i := 41) (by kernel_rfl)⟩, trivial⟩, ⟨⟨_, _, rfl, rfl, List.mem_of_getElem? (i := 42) (by kernel_rfl)⟩, ⟨_, _, rfl, rfl, List.mem_of_getElem? (i := 43) (by kernel_rfl)⟩, ⟨_, _, rfl, rfl, List.mem_of_getElem? (i := 44) (by kernel_rfl)⟩, ⟨_, _, rfl, rfl, List.mem_of_getElem? (i := 45) (by kernel_rfl)⟩, ⟨_, _, rfl, rfl, List.mem_of_getElem? (i := 46) (by kernel_rfl)⟩, ⟨_, _, rfl, rfl, List.mem_of_getElem? (i := 47) (by kernel_rfl)⟩, ⟨_, _, rfl, rfl, List.mem_of_getElem? (i := 48) (by kernel_rfl)⟩, ⟨_, _, rfl, rfl, List.mem_of_getElem? (i := 49) (by kernel_rfl)⟩, ⟨_, _, rfl, rfl, List.mem_of_getElem? (i := 50) (by kernel_rfl)⟩, ⟨_, _, rfl, rfl, List.mem_of_getElem? (i := 51) (by kernel_rfl)⟩, trivial⟩, ⟨⟨_, _, rfl, rfl, List.mem_of_getElem? (i := 52) (by kernel_rfl)⟩, ⟨_, _, rfl, rfl, List.mem_of_getElem? (i := 53) (by kernel_rfl)⟩, ⟨_, _, rfl, rfl, List.mem_of_getElem? (i := 54) (by kernel_rfl)⟩, ⟨_, _, rfl, rfl, List.mem_of_getElem? (i := 55) (by kernel_rfl)⟩, ⟨_, _, rfl, rfl, List.mem_of_getElem? (i := 56) (by kernel_rfl)⟩, ⟨_, _, rfl, rfl, List.mem_of_getElem? (i := 57) (by kernel_rfl)⟩, ⟨_, _, rfl, rfl, List.mem_of_getElem? (i := 58) (by kernel_rfl)⟩, ⟨_, _, rfl, rfl, List.mem_of_getElem? (i := 59) (by kernel_rfl)⟩, ⟨_, _, rfl, rfl, List.mem_of_getElem? (i := 60) (by kernel_rfl)⟩, ⟨_, _, rfl, rfl, List.mem_of_getElem? (i := 61) (by kernel_rfl)⟩, trivial⟩, ⟨⟨_, _, rfl, rfl, List.mem_of_getElem? (i := 62) (by kernel_rfl)⟩, ⟨_, _, rfl, rfl, List.mem_of_getElem? (i := 63) (by kernel_rfl)⟩, ⟨_, _, rfl, rfl, List.mem_of_getElem? (i := 64) (by kernel_rfl)⟩, ⟨_, _, rfl, rfl, List.mem_of_getElem? (i := 65) (by kernel_rfl)⟩, ⟨_, _, rfl, rfl, List.mem_of_getElem? (i := 66) (by kernel_rfl)⟩, ⟨_, _, rfl, rfl, List.mem_of_getElem? (i := 67) (by kernel_rfl)⟩, ⟨_, _, rfl, rfl, List.mem_of_getElem? (i := 68) (by kernel_rfl)⟩, ⟨_, _, rfl, rfl, List.mem_of_getElem? (i := 69) (by kernel_rfl)⟩, ⟨_, _, rfl, rfl, List.mem_of_getElem? (i := 70) (by kernel_rfl)⟩, ⟨_, _, rfl, rfl, List.mem_of_getElem? (i := 71) (by kernel_rfl)⟩, trivial⟩, ⟨⟨_, _, rfl, rfl, List.mem_of_getElem? (i := 72) (by kernel_rfl)⟩, ⟨_, _, rfl, rfl, List.mem_of_getElem? (i := 73) (by kernel_rfl)⟩, ⟨_, _, rfl, rfl, List.mem_of_getElem? (i := 74) (by kernel_rfl)⟩, ⟨_, _, rfl, rfl, List.mem_of_getElem? (i := 75) (by kernel_rfl)⟩, ⟨_, _, rfl, rfl, List.mem_of_getElem? (i := 76) (by kernel_rfl)⟩, ⟨_, _, rfl, rfl, List.mem_of_getElem? (i := 77) (by kernel_rfl)⟩, ⟨_, _, rfl, rfl, List.mem_of_getElem? (i := 78) (by kernel_rfl)⟩, ⟨_, _, rfl, rfl, List.mem_of_getElem? (i := 79) (by kernel_rfl)⟩, ⟨_, _, rfl, rfl, List.mem_of_getElem? (i := 80) (by kernel_rfl)⟩, ⟨_, _, rfl, rfl, List.mem_of_getElem? (i := 81) (by kernel_rfl)⟩, trivial⟩, ⟨⟨_, _, rfl, rfl, List.mem_of_getElem? (i := 82) (by kernel_rfl)⟩, ⟨_, _, rfl, rfl, List.mem_of_getElem? (i := 83) (by kernel_rfl)⟩, ⟨_, _, rfl, rfl, List.mem_of_getElem? (i := 84) (by kernel_rfl)⟩, ⟨_, _, rfl, rfl, List.mem_of_getElem? (i := 85) (by kernel_rfl)⟩, ⟨_, _, rfl, rfl, List.mem_of_getElem? (i := 86) (by kernel_rfl)⟩, ⟨_, _, rfl, rfl, List.mem_of_getElem? (i := 87) (by kernel_rfl)⟩, ⟨_, _, rfl, rfl, List.mem_of_getElem? (i := 88) (by kernel_rfl)⟩, ⟨_, _, rfl, rfl, List.mem_of_getElem? (i := 89) (by kernel_rfl)⟩, ⟨_, _, rfl, rfl, List.mem_of_getElem? (i := 90) (by kernel_rfl)⟩, ⟨_, _, rfl, rfl, List.mem_of_getElem? (i := 91) (by kernel_rfl)⟩, trivial⟩, ⟨⟨_, _, rfl, rfl, List.mem_of_getElem? (i := 92) (by kernel_rfl)⟩, ⟨_, _, rfl, rfl, List.mem_of_getElem? (i := 93) (by kernel_rfl)⟩, ⟨_, _, rfl, rfl, List.mem_of_getElem? (i := 94) (by kernel_rfl)⟩, ⟨_, _, rfl, rfl, List.mem_of_getElem? (i := 95) (by kernel_rfl)⟩, ⟨_, _, rfl, rfl, List.mem_of_getElem? (i := 96) (by kernel_rfl)⟩, ⟨_, _, rfl, rfl, List.mem_of_getElem? (i := 97) (by kernel_rfl)⟩, ⟨_, _, rfl, rfl, List.mem_of_getElem? (i := 98) (by kernel_rfl)⟩, ⟨_, _, rfl, rfl, List.mem_of_getElem? (i := 99) (by kernel_rfl)⟩, ⟨_, _, rfl, rfl, List.mem_of_getElem? (i := 100) (by kernel_rfl)⟩, ⟨_, _, rfl, rfl, List.mem_of_getElem? (i := 101) (by kernel_rfl)⟩, trivial⟩, ⟨⟨_, _, rfl, rfl, List.mem_of_getElem? (i := 102) (by kernel_rfl)⟩, ⟨_, _, rfl, rfl, List.mem_of_getElem? (i := 103) (by kernel_rfl)⟩, ⟨_, _, rfl, rfl, List.mem_of_getElem? (i := 104) (by kernel_rfl)⟩, ⟨_, _, rfl, rfl, List.mem_of_getElem? (i := 105) (by kernel_rfl)⟩, ⟨_, _, rfl, rfl, List.mem_of_getElem? (i := 106) (by kernel_rfl)⟩, ⟨_, _, rfl, rfl, List.mem_of_getElem? (i := 107) (by kernel_rfl)⟩, ⟨_, _, rfl, rfl, List.mem_of_getElem? (i := 108) (by kernel_rfl)⟩, ⟨_, _, rfl, rfl, List.mem_of_getElem? (i := 109) (by kernel_rfl)⟩, ⟨_, _, rfl, rfl, List.mem_of_getElem? (i := 110) (by kernel_rfl)⟩, ⟨_, _, rfl, rfl, List.mem_of_getElem? (i := 111) (by kernel_rfl)⟩, trivial⟩, ⟨⟨_, _, rfl, rfl, List.mem_of_getElem? (i := 112) (by kernel_rfl)⟩, ⟨_, _, rfl, rfl, List.mem_of_getElem? (i := 113) (by kernel_rfl)⟩, ⟨_, _, rfl, rfl, List.mem_of_getElem? (i := 114) (by kernel_rfl)⟩, ⟨_, _, rfl, rfl, List.mem_of_getElem? (i := 115) (by kernel_rfl)⟩, ⟨_, _, rfl, rfl, List.mem_of_getElem? (i := 116) (by kernel_rfl)⟩, ⟨_, _, rfl, rfl, List.mem_of_getElem? (i := 117) (by kernel_rfl)⟩, ⟨_, _, rfl, rfl, List.mem_of_getElem? (i := 118) (by kernel_rfl)⟩, ⟨_, _, rfl, rfl, List.mem_of_getElem? (i := 119) (by kernel_rfl)⟩, ⟨_, _, rfl, rfl, List.mem_of_getElem? (i := 120) (by kernel_rfl)⟩, ⟨_, _, rfl, rfl, List.mem_of_getElem? (i := 121) (by kernel_rfl)⟩, trivial⟩, trivial⟩) (fun _ K cx => List.all_eq_true.mp cx _ (List.mem_of_getElem? (i := 0) rfl)) (fun K mg base KX G c cx x d e => by
      cases e) (by
      intro r hr
      have hr' : r ∈ LW.inis := hr
      simp only [LW.inis, List.mem_cons, List.not_mem_nil, or_false] at hr'
      rcases hr' with rfl | rfl | rfl
      · exact ⟨LW.in0_ok, rfl⟩
      · exact ⟨LW.in1_ok, rfl⟩
      · exact ⟨LW.in2_ok, rfl⟩) (by
      intro r hr
      have hr' : r ∈ LW.inis := hr
      simp only [LW.inis, List.mem_cons, List.not_mem_nil, or_false] at hr'
      rcases hr' with rfl | rfl | rfl
      · exact ⟨List.mem_of_getElem? (i := 6) rfl, by kernel_rfl, fun K cx => List.all_eq_true.mp cx _ (List.mem_of_getElem? (i := 1) rfl)⟩
      · exact ⟨List.mem_of_getElem? (i := 6) rfl, by kernel_rfl, fun K cx => List.all_eq_true.mp cx _ (List.mem_of_getElem? (i := 2) rfl)⟩
      · exact ⟨List.mem_of_getElem? (i := 6) rfl, by kernel_rfl, fun K cx => List.all_eq_true.mp cx _ (List.mem_of_getElem? (i := 3) rfl)⟩) (by kernel_rfl) (by kernel_rfl) (by
      refine ⟨by decide +kernel, ?_, ?_, ?_⟩
      · intro q hq0
        cases hq0
      · intro p hp0
        cases hp0
      · intro p hp0
        cases hp0) fun ns hl => by
        obtain ⟨v, h, e, q⟩ := (LW.law_ok (n := 0) (d := 100) hl (by omega)).ex
        subst q
        exact ⟨0, h, e⟩

