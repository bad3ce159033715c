import PyProof.Rows.All
import HandS.Base
import HandS.List
import HandS.WideBits
import Wide.All
import OpenK.AllK
import Wide.FinOn
import PyProof.EqAt
import PyProof.EqKinds
import PyProof.TupleCall
import HandS.Call
import HandS.Comp
import HandS.Iter
import HandS.Zip
import HandS.Exc
import HandS.ExcOwn
import HandS.TryOnly
import HandS.Words
import HandS.WordsList
import HandS.WordsExc
import HandS.Wide
import HandS.IsInst
import HandS.Conv
import HandS.Flow
import HandS.Style
import HandS.Ends
import HandS.TupAny
import HandS.Small
import HandS.Text
import HandS.ReCheck
import HandS.RaiseMore
import HandS.ExcSuper
import HandS.HeadHook1
import HandS.Defaults
import HandS.EndBits
import HandS.HeadHook4
import HandS.ExcIs
import HandS.TupMul
import HandS.Strs
import HandS.SetFor
import HandS.SortInts
import HandS.More
import PyProof.Rows.BitMore
import PySem.Challenge.RW_dividedbytimes_k40_main_words_up_to_a_bo
import KE.KStateDown
import Lean
import HandS.Head0
import HandS.Head1
import HandS.Head2
import HandS.HeadEnd
import HandS.HeadHook2
import HandS.HeadHook3
set_option Elab.async false
set_option linter.all false
set_option maxRecDepth 100000
set_option maxHeartbeats 2000000
namespace DL
open PySem PySem.Spec PyProof.Rows L2
abbrev St := L2.St

/-! ## data -/
/-- what is raised -/
inductive Exc where
  | unfit | cannot | many | nothing
  | bad (line : Int)
/-- what a slot holds: data (never changed), a def, a list or a dict of its own -/
inductive C where
  | d (x : PyData)
  | f (x : Str)
  | l (xs : List PyData)
  | k (kvs : List (Key × PyData))
  | t (kvs : List (List Key × PyData))
def C.own : C → Bool
  | .d _ => false
  | .f _ => false
  | .l _ => true
  | .k _ => true
  | .t _ => true
/-- the slots -/
abbrev Sl := List (Option C)
/-! ## what a piece of the text does to the slots -/
inductive Res (α : Type) where
  | ok (a : α) (ρ : Sl)
  | err (e : Exc) (ρ : Sl)
  | stuck
abbrev M (α : Type) := Sl → Res α
def M.pure {α : Type} (a : α) : M α := fun ρ => .ok a ρ
def M.bind {α β : Type} (m : M α) (f : α → M β) : M β := fun ρ => match m ρ with
  | .ok a ρ' => f a ρ'
  | .err e ρ' => .err e ρ'
  | .stuck => .stuck
instance : Monad M where
  pure := M.pure
  bind := M.bind
def M.stuck {α : Type} : M α := fun _ => .stuck
def M.of {α : Type} (o : Option α) : M α := fun ρ => match o with
  | some a => .ok a ρ
  | none => .stuck

/-! ## values -/
def mulOk (i j : Int) : Bool := decide ((Builtin.Int.intBits i : Int) + (Builtin.Int.intBits j : Int) ≤ 134217728)
def divOk (j : Int) : Bool := decide (0 < j) && decide (j.natAbs.log2 < 9000)
def shlOk (i j : Int) : Bool := decide (0 ≤ j) && decide ((Builtin.Int.intBits i : Int) + j ≤ 134217728)
def powOk (i j : Int) : Bool := decide (0 ≤ j) && decide (j ≤ 1000000) && decide (i.natAbs < 2 ^ 64)
def oAdd : PyData → PyData → Option PyData
  | .int i, .int j => some (.int (i + j))
  | .str x, .str y => if x.length + y.length ≤ sizeLine then some (.str (x ++ y)) else none
  | _, _ => none
def oSub : PyData → PyData → Option PyData
  | .int i, .int j => some (.int (i - j))
  | _, _ => none
def oMul : PyData → PyData → Option PyData
  | .int i, .int j => if mulOk i j then some (.int (i * j)) else none
  | _, _ => none
def oDiv : PyData → PyData → Option PyData
  | .int i, .int j => if divOk j then some (.int (i / j)) else none
  | _, _ => none
def oMod : PyData → PyData → Option PyData
  | .int i, .int j => if 0 < j then some (.int (i % j)) else none
  | _, _ => none
def oShl : PyData → PyData → Option PyData
  | .int i, .int j => if shlOk i j then some (.int (i * 2 ^ j.toNat)) else none
  | _, _ => none
def oShr : PyData → PyData → Option PyData
  | .int i, .int j => if 0 ≤ j then some (.int (i / 2 ^ j.toNat)) else none
  | _, _ => none
def oPow : PyData → PyData → Option PyData
  | .int i, .int j => if powOk i j then some (.int (i ^ j.toNat)) else none
  | _, _ => none
def oAnd : PyData → PyData → Option PyData
  | .int i, .int j => some (.int (Builtin.bitAnd i j))
  | _, _ => none
def oOr : PyData → PyData → Option PyData
  | .int i, .int j => some (.int (Builtin.bitOr i j))
  | _, _ => none
def oNeg : PyData → Option PyData
  | .int i => some (.int (-i))
  | _ => none
def oLt : PyData → PyData → Option Bool
  | .int i, .int j => some (decide (i < j))
  | _, _ => none
def oLe : PyData → PyData → Option Bool
  | .int i, .int j => some (decide (i ≤ j))
  | _, _ => none
def oGt : PyData → PyData → Option Bool
  | .int i, .int j => some (decide (j < i))
  | _, _ => none
def oGe : PyData → PyData → Option Bool
  | .int i, .int j => some (decide (j ≤ i))
  | _, _ => none
/-- two plain values that == tells apart as data does -/
def scalD : PyData → PyData → Bool
  | .none, .none => true | .none, .int _ => true | .int _, .none => true | .none, .bool _ => true | .bool _, .none => true | .none, .str _ => true | .str _, .none => true
  | .int _, .int _ => true | .bool _, .bool _ => true | .str _, .str _ => true
  | .int _, .str _ => true | .str _, .int _ => true | .bool _, .str _ => true | .str _, .bool _ => true
  | _, _ => false
def oEq (x y : PyData) : Option Bool := if scalD x y || (SeqAt.shaped x && SeqAt.shaped y) then some (PyData.eqv x y) else none
def oNe (x y : PyData) : Option Bool := if scalD x y || (SeqAt.shaped x && SeqAt.shaped y) then some (!PyData.eqv x y) else none
def isNone : PyData → Bool
  | .none => true
  | _ => false
def oIsN (x : PyData) : Option Bool := some (isNone x)
def oNotN (x : PyData) : Option Bool := some (!isNone x)
def oIsX (x y : PyData) : Option Bool := match y with
  | .none => some (isNone x)
  | _ => none
def oNotX (x y : PyData) : Option Bool := match y with
  | .none => some (!isNone x)
  | _ => none
def oIsB : PyData → PyData → Option Bool
  | .bool a, .bool b => some (decide (a = b))
  | _, _ => none
def oNotB : PyData → PyData → Option Bool
  | .bool a, .bool b => some (!decide (a = b))
  | _, _ => none
def flatD : PyData → Bool
  | .none => true
  | .bool _ => true
  | .int _ => true
  | .str _ => true
  | _ => false
def inD (x : PyData) (ys : List PyData) : Bool := ys.any fun y => PyData.eqv y x
def items : PyData → Option (List PyData)
  | .list xs => some xs
  | .tuple xs => some xs
  | _ => none
def oIn (x y : PyData) : Option Bool := match items y with
  | some ys => if flatD x && ys.all flatD then some (inD x ys) else none
  | none => none
def oNotIn (x y : PyData) : Option Bool := match items y with
  | some ys => if flatD x && ys.all flatD then some (!inD x ys) else none
  | none => none
def oIx : PyData → PyData → Option PyData
  | .list xs, .int i => atI xs i
  | .tuple xs, .int i => atI xs i
  | .str z, .int i => if z.length ≤ sizeLine then (atI z.cps.toList i).map fun c => .str ⟨#[c]⟩ else none
  | _, _ => none
def oLen : PyData → Option PyData
  | .list xs => some (.int xs.length)
  | .tuple xs => some (.int xs.length)
  | .str z => if z.length ≤ sizeLine then some (.int z.length) else none
  | _ => none
def oAbs : PyData → Option PyData
  | .int i => some (.int (if i < 0 then -i else i))
  | _ => none
def oInt : PyData → Option PyData
  | .int i => some (.int i)
  | .bool k => some (.int (if k then 1 else 0))
  | _ => none
def oMax : PyData → PyData → Option PyData
  | .int i, .int j => some (.int (if j > i then j else i))
  | _, _ => none
def oMin : PyData → PyData → Option PyData
  | .int i, .int j => some (.int (if j < i then j else i))
  | _, _ => none
/-- built-in classes -/
inductive Ty where
  | int | bool | str | list | tuple
def isTy : Ty → PyData → Bool
  | .int, .int _ => true
  | .int, .bool _ => true
  | .bool, .bool _ => true
  | .str, .str _ => true
  | .list, .list _ => true
  | .tuple, .tuple _ => true
  | _, _ => false
def truD : PyData → Option Bool
  | .none => some false
  | .bool b => some b
  | .int i => some (i != 0)
  | .str z => if z.length ≤ sizeLine then some ((z.length : Int) != 0) else none
  | .list xs => some (!xs.isEmpty)
  | .tuple xs => some (!xs.isEmpty)
  | _ => none
def boolsD : List PyData → Option (List Bool)
  | [] => some []
  | .bool b :: r => (boolsD r).map fun t => b :: t
  | _ :: _ => none
def intsD : List PyData → Option (List Int)
  | [] => some []
  | .int b :: r => (intsD r).map fun t => b :: t
  | _ :: _ => none
def oAll : PyData → Option PyData
  | .list xs => (boolsD xs).map fun bs => .bool (bs.all id)
  | _ => none
def oAny : PyData → Option PyData
  | .list xs => (boolsD xs).map fun bs => .bool (bs.any id)
  | _ => none
def oTuple : PyData → Option PyData
  | .list xs => some (.tuple xs)
  | .tuple xs => some (.tuple xs)
  | _ => none

/-! ## expressions -/
def mVar (i : Nat) : M PyData := fun ρ => match ρ[i]? with
  | some (some (.d x)) => .ok x ρ
  | _ => .stuck
/-- a list of the slot's own is read for the last time as its own -/
def mVarF (i : Nat) : M PyData := fun ρ => match ρ[i]? with
  | some (some (.d x)) => .ok x ρ
  | some (some (.l xs)) => .ok (.list xs) (ρ.set i (some (.d (.list xs))))
  | _ => .stuck
/-- what a slot holds goes out of it -/
def mVarM (i : Nat) : M C := fun ρ => match ρ[i]? with
  | some (some (.d x)) => .ok (.d x) ρ
  | some (some (.f x)) => .ok (.f x) ρ
  | some (some c) => .ok c (ρ.set i none)
  | _ => .stuck
def mVarC (i : Nat) : M C := fun ρ => match ρ[i]? with
  | some (some (.d x)) => .ok (.d x) ρ
  | some (some (.f a)) => .ok (.f a) ρ
  | _ => .stuck
/-- what a slot shows, whether its own or not -/
def view : C → Option PyData
  | .d x => some x
  | .l xs => some (.list xs)
  | _ => none
def mView (i : Nat) : M PyData := fun ρ => match ρ[i]? with
  | some (some c) => (match view c with
    | some x => .ok x ρ
    | none => .stuck)
  | _ => .stuck
def lift1 {α : Type} (f : PyData → Option α) (a : M PyData) : M α := M.bind a fun x => M.of (f x)
def lift2 {α : Type} (f : PyData → PyData → Option α) (a b : M PyData) : M α := M.bind a fun x => M.bind b fun y => M.of (f x y)
def bD (m : M Bool) : M PyData := M.bind m fun b => M.pure (.bool b)
def tD (m : M PyData) : M Bool := M.bind m fun d => match d with
  | .bool b => M.pure b
  | _ => M.stuck
def tTru (m : M PyData) : M Bool := lift1 truD m
def tNot (t : M Bool) : M Bool := M.bind t fun b => M.pure (!b)
def tAnd (t u : M Bool) : M Bool := M.bind t fun b => if b = true then u else M.pure false
def tOr (t u : M Bool) : M Bool := M.bind t fun b => if b = true then M.pure true else u
def mAnd (a b : M PyData) : M PyData := M.bind a fun d => match d with
  | .bool k => if k = true then b else M.pure (.bool false)
  | _ => M.stuck
def mOr (a b : M PyData) : M PyData := M.bind a fun d => match d with
  | .bool k => if k = true then M.pure (.bool true) else b
  | _ => M.stuck
def mNot (a : M PyData) : M PyData := M.bind a fun d => match d with
  | .bool k => M.pure (.bool (!k))
  | _ => M.stuck
def mIf {α : Type} (t : M Bool) (a b : M α) : M α := M.bind t fun k => if k = true then a else b
/-- a op b op c -/
def tChain (f g : PyData → PyData → Option Bool) (a b c : M PyData) : M Bool := M.bind a fun x => M.bind b fun y => M.bind (M.of (f x y)) fun k => if k = true then M.bind c fun z => M.of (g y z) else M.pure false
def mSeq : List (M PyData) → M (List PyData)
  | [] => M.pure []
  | m :: r => M.bind m fun x => M.bind (mSeq r) fun xs => M.pure (x :: xs)
def mTup (ms : List (M PyData)) : M PyData := M.bind (mSeq ms) fun xs => M.pure (.tuple xs)
def mLst (ms : List (M PyData)) : M C := M.bind (mSeq ms) fun xs => M.pure (.l xs)
def mDat (m : M PyData) : M C := M.bind m fun x => M.pure (.d x)
def mFrz (m : M C) : M PyData := M.bind m fun c => match c with
  | .d x => M.pure x
  | .l xs => M.pure (.list xs)
  | _ => M.stuck
end DL
namespace DL
open PySem PySem.Spec PyProof.Rows L2
/-! ## calls -/
/-- an argument: data, a def, the slot of an own thing -/
inductive Av where
  | d (x : PyData)
  | f (x : Str)
  | v (i : Nat)
def agD (m : M PyData) : M Av := M.bind m fun x => M.pure (.d x)
def agF (m : M C) : M Av := M.bind m fun c => match c with
  | .d x => M.pure (.d x)
  | .f a => M.pure (.f a)
  | _ => M.stuck
def agV (i : Nat) : M Av := fun ρ => match ρ[i]? with
  | some (some (.d x)) => .ok (.d x) ρ
  | some (some (.f a)) => .ok (.f a) ρ
  | some (some _) => .ok (.v i) ρ
  | _ => .stuck
def mSeqA : List (M Av) → M (List Av)
  | [] => M.pure []
  | m :: r => M.bind m fun x => M.bind (mSeqA r) fun xs => M.pure (x :: xs)
/-- the argument's contents -/
def rdA (ρ : Sl) : Av → Option C
  | .d x => some (.d x)
  | .f a => some (.f a)
  | .v i => (ρ[i]?).join
def wrA : List Av → Sl → Sl → Sl
  | .v i :: as, c :: cs, ρ => wrA as cs (ρ.set i c)
  | .d _ :: as, _ :: cs, ρ => wrA as cs ρ
  | .f _ :: as, _ :: cs, ρ => wrA as cs ρ
  | _, _, ρ => ρ
def slA : List Av → List Nat
  | [] => []
  | .v i :: r => i :: slA r
  | .d _ :: r => slA r
  | .f _ :: r => slA r
/-- the call of a def whose doing is φ -/
def mCall (φ : Sl → Res C) (m : M (List Av)) : M C := M.bind m fun as => fun ρ => if (slA as).Nodup then (match φ (as.map (rdA ρ)) with
    | .ok r cs => .ok r (wrA as cs ρ)
    | .err e cs => .err e (wrA as cs ρ)
    | .stuck => .stuck) else .stuck
end DL

namespace DL
open PySem PySem.Spec PyProof.Rows L2
/-! ## statements -/
inductive Fl where
  | nx
  | rt (c : C)
  | bk
  | ct
def sSkip : M Fl := M.pure .nx
def sBk : M Fl := M.pure .bk
def sCt : M Fl := M.pure .ct
def sSeq (a b : M Fl) : M Fl := M.bind a fun fl => match fl with
  | .nx => b
  | fl => M.pure fl
def sRet (m : M C) : M Fl := M.bind m fun c => M.pure (.rt c)
def sDo {α : Type} (m : M α) : M Fl := M.bind m fun _ => M.pure .nx
def sPut (i : Nat) (c : C) : M Fl := fun ρ => .ok .nx (ρ.set i (some c))
def sSet (i : Nat) (m : M C) : M Fl := M.bind m fun c => sPut i c
def sSet2 (i j : Nat) (a b : M C) : M Fl := M.bind a fun x => M.bind b fun y => fun ρ => .ok .nx ((ρ.set i (some x)).set j (some y))
def sSet3 (i j l : Nat) (a b c : M C) : M Fl := M.bind a fun x => M.bind b fun y => M.bind c fun z => fun ρ => .ok .nx (((ρ.set i (some x)).set j (some y)).set l (some z))
/-- targets -/
def gN (i : Nat) (x : PyData) : M Unit := fun ρ => .ok () (ρ.set i (some (.d x)))
def gsL : List (PyData → M Unit) → List PyData → M Unit
  | [], [] => M.pure ()
  | g :: gs, x :: xs => M.bind (g x) fun _ => gsL gs xs
  | _, _ => M.stuck
def gT (gs : List (PyData → M Unit)) (x : PyData) : M Unit := match x with
  | .tuple xs => if xs.length = gs.length then gsL gs xs else M.stuck
  | _ => M.stuck
def sAsg (m : M PyData) (g : PyData → M Unit) : M Fl := M.bind m fun x => sDo (g x)
def sAsg2 (m : M PyData) (g g' : PyData → M Unit) : M Fl := M.bind m fun x => M.bind (g x) fun _ => sDo (g' x)
def sErr (e : Exc) : M Fl := fun ρ => .err e ρ
def sIf (t : M Bool) (a b : M Fl) : M Fl := mIf t a b
def sWhileN (t : M Bool) (b : M Fl) : Nat → M Fl
  | 0 => M.stuck
  | n + 1 => M.bind t fun k => if k = true then M.bind b fun fl => match fl with
      | .nx => sWhileN t b n
      | .ct => sWhileN t b n
      | .bk => M.pure .nx
      | .rt c => M.pure (.rt c)
    else M.pure .nx
def Res.bad {α : Type} : Res α → Prop
  | .stuck => True
  | _ => False
open Classical in
noncomputable def sWhile (t : M Bool) (b : M Fl) : M Fl := fun ρ => if h : ∃ n, ¬ (sWhileN t b n ρ).bad then sWhileN t b h.choose ρ else .stuck
def sForL (g : PyData → M Unit) (b : M Fl) : List PyData → M Fl
  | [] => M.pure .nx
  | x :: r => M.bind (g x) fun _ => M.bind b fun fl => match fl with
      | .nx => sForL g b r
      | .ct => sForL g b r
      | .bk => M.pure .nx
      | .rt c => M.pure (.rt c)
def sFor (mi : M (List PyData)) (g : PyData → M Unit) (b : M Fl) : M Fl := M.bind mi fun xs => sForL g b xs
/-- lists of a slot's own -/
def lsAt (i : Nat) (ρ : Sl) : Option (List PyData) := match ρ[i]? with
  | some (some (.l xs)) => some xs
  | _ => none
def sOn (i : Nat) (m : M Fl) : M Fl := fun ρ => if (lsAt i ρ).isSome then m ρ else .stuck
def sApp (i : Nat) (m : M PyData) : M Fl := sOn i (M.bind m fun x => fun ρ => match lsAt i ρ with
  | some xs => if xs.length < sizeLine then .ok .nx (ρ.set i (some (.l (xs ++ [x])))) else .stuck
  | none => .stuck)
def sExt (i : Nat) (m : M C) : M Fl := sOn i (M.bind m fun x => fun ρ => match lsAt i ρ, x with
  | some xs, .l ys => if xs.length + ys.length ≤ sizeLine then .ok .nx (ρ.set i (some (.l (xs ++ ys)))) else .stuck
  | _, _ => .stuck)
def ixOf (n : Nat) : PyData → Option Nat
  | .int j => ixN n j
  | _ => none
def sSetIx (i : Nat) (mi mv : M PyData) : M Fl := M.bind mv fun v => sOn i (M.bind mi fun j => fun ρ => match lsAt i ρ with
  | some xs => (match ixOf xs.length j with
    | some k => .ok .nx (ρ.set i (some (.l (xs.set k v))))
    | none => .stuck)
  | none => .stuck)
/-! ## defs -/
/-- n parameters, N names, pm: the parameters that stay, b the body -/
def finSl (n : Nat) (pm : List Nat) (cs ρ : Sl) : Sl := (List.range n).map fun i => if i ∈ pm then (ρ[i]?).join else (cs[i]?).join
def okSl (n : Nat) (pm : List Nat) (cs : Sl) : Bool := decide (cs.length = n) && (List.range n).all fun i => pm.contains i || match cs[i]? with
  | some (some c) => !c.own
  | _ => true
def run (n N : Nat) (pm : List Nat) (b : M Fl) (cs : Sl) : Res C := if okSl n pm cs then (match b (cs ++ List.replicate (N - n) none) with
    | .ok .nx ρ => .ok (.d .none) (finSl n pm cs ρ)
    | .ok (.rt c) ρ => .ok c (finSl n pm cs ρ)
    | .ok _ _ => .stuck
    | .err e ρ => .err e (finSl n pm cs ρ)
    | .stuck => .stuck) else .stuck
end DL

namespace DL
open PySem PySem.Spec PyProof.Rows L2
/-! ## comprehensions -/
def wipeS (ρ : Sl) : List Nat → Sl
  | [] => ρ
  | v :: vs => (wipeS ρ vs).set v none
def restS (vs : List Nat) (ρ ρ' : Sl) : Sl := (List.range ρ.length).map fun i => if i ∈ vs then (ρ[i]?).join else (ρ'[i]?).join
def noOwn (vs : List Nat) (ρ : Sl) : Bool := vs.all fun i => match ρ[i]? with
  | some (some c) => !c.own
  | _ => true
def mYes : M Bool := M.pure true
def mLcL (vs : List Nat) (g : PyData → M Unit) (t : M Bool) (e : M PyData) : List PyData → List PyData → M (List PyData)
  | [], acc => M.pure acc
  | x :: r, acc => M.bind (g x) fun _ => M.bind t fun k => if k = true then M.bind e fun y => fun ρ => if acc.length < sizeLine then mLcL vs g t e r (acc ++ [y]) (wipeS ρ vs) else .stuck
      else fun ρ => mLcL vs g t e r acc (wipeS ρ vs)
def mLc (vs : List Nat) (mi : M (List PyData)) (g : PyData → M Unit) (t : M Bool) (e : M PyData) : M C := M.bind mi fun xs => fun ρ => if noOwn vs ρ then (match mLcL vs g t e xs [] (wipeS ρ vs) with
    | .ok acc ρ' => .ok (.l acc) (restS vs ρ ρ')
    | .err _ _ => .stuck
    | .stuck => .stuck) else .stuck
end DL

namespace DL
open PySem PySem.Spec PyProof.Rows L2
/-! ## more expressions -/
/-- a subscript, the length of a slot's own list -/
def mIxV (i : Nat) (m : M PyData) : M PyData := fun ρ => if (lsAt i ρ).isSome then (M.bind m fun j => fun ρ' => match lsAt i ρ' with
    | some xs => M.of (oIx (.list xs) j) ρ'
    | none => .stuck) ρ else .stuck
def mLenV (i : Nat) : M PyData := fun ρ => match lsAt i ρ with
  | some xs => .ok (.int xs.length) ρ
  | none => .stuck
def truC : C → Option Bool
  | .d x => truD x
  | .l xs => some (!xs.isEmpty)
  | _ => none
def mOrC (a b : M C) : M C := M.bind a fun c => match truC c with
  | some true => M.pure c
  | some false => b
  | none => M.stuck
/-- a list, new or shared -/
def toL : C → Option (List PyData)
  | .l xs => some xs
  | .d (.list xs) => some xs
  | _ => none
def oCat (a b : C) : Option C := match toL a, toL b with
  | some xs, some ys => if xs.length + ys.length ≤ sizeLine then some (.l (xs ++ ys)) else none
  | _, _ => (match a, b with
    | .d (.tuple xs), .d (.tuple ys) => if xs.length + ys.length ≤ sizeLine then some (.d (.tuple (xs ++ ys))) else none
    | _, _ => none)
def mCat (a b : M C) : M C := M.bind a fun x => M.bind b fun y => M.of (oCat x y)
def cutL {α : Type} (xs : List α) (lo hi : Option Int) : List α := (xs.drop (HT.sIx xs.length 0 lo)).take (HT.sIx xs.length xs.length hi - HT.sIx xs.length 0 lo)
def oSl (x : PyData) (lo hi : Option Int) : Option C := match x with
  | .list xs => some (.l (cutL xs lo hi))
  | .tuple xs => some (.d (.tuple (cutL xs lo hi)))
  | _ => none
def pNo : M (Option Int) := M.pure none
def pInt (m : M PyData) : M (Option Int) := M.bind m fun d => match d with
  | .int i => M.pure (some i)
  | _ => M.stuck
def mSl (m : M PyData) (lo hi : M (Option Int)) : M C := M.bind m fun x => M.bind lo fun l => M.bind hi fun u => M.of (oSl x l u)
def rgOk (a b : Int) : Bool := decide (-(2 ^ 62) ≤ a) && decide (a < 2 ^ 62) && decide (-(2 ^ 62) ≤ b) && decide (b < 2 ^ 62) && decide ((b - a).toNat ≤ 2 ^ 24)
def rgL (a b : Int) : List PyData := (List.range (b - a).toNat).map fun (i : Nat) => .int (a + (i : Int))
def mLstRg1 (m : M PyData) : M C := M.bind m fun x => M.of (match x with
  | .int j => if rgOk 0 j then some (.l (rgL 0 j)) else none
  | _ => none)
def sExtC (i : Nat) (m : M C) : M Fl := sOn i (M.bind m fun x => fun ρ => match lsAt i ρ, toL x with
  | some xs, some ys => if xs.length + ys.length ≤ sizeLine then .ok .nx (ρ.set i (some (.l (xs ++ ys)))) else .stuck
  | _, _ => .stuck)
/-- a slot that holds a def, called: T the defs by their names -/
def mDoor (T : Str → Option (Nat × (Sl → Res C))) (i : Nat) (n : Nat) (m : M (List Av)) : M C := fun ρ => match ρ[i]? with
  | some (some (.f x)) => (match T x with
    | some (k, φ) => if k = n then mCall φ m ρ else .stuck
    | none => .stuck)
  | _ => .stuck
end DL

namespace DL
open PySem PySem.Spec PyProof.Rows L2
/-! ## calls of what is built in, what is walked -/
def liftL {α : Type} (f : List PyData → Option α) (m : M (List PyData)) : M α := M.bind m fun xs => M.of (f xs)
def on1 {α : Type} (f : PyData → Option α) : List PyData → Option α
  | [x] => f x
  | _ => none
def on2 {α : Type} (f : PyData → PyData → Option α) : List PyData → Option α
  | [x, y] => f x y
  | _ => none
def oListC : PyData → Option C
  | .list xs => some (.l xs)
  | .tuple xs => some (.l xs)
  | _ => none
def oIsi (t : Ty) (x : PyData) : Option PyData := match x with
  | .dict _ => none
  | x => some (.bool (isTy t x))
def oIsi2 (t u : Ty) (x : PyData) : Option PyData := match x with
  | .dict _ => none
  | x => some (.bool (isTy t x || isTy u x))
def mItems (m : M PyData) : M (List PyData) := M.bind m fun d => M.of (items d)
def intsL (lo : Int) (n : Nat) : List PyData := (List.range n).map fun (i : Nat) => .int (lo + (i : Int))
def oRng1 : PyData → Option (List PyData)
  | .int j => if -(2 ^ 62) ≤ j ∧ j < 2 ^ 62 then some (intsL 0 j.toNat) else none
  | _ => none
def oRng2 : PyData → PyData → Option (List PyData)
  | .int i, .int j => if -(2 ^ 62) ≤ i ∧ i < 2 ^ 62 ∧ -(2 ^ 62) ≤ j ∧ j < 2 ^ 62 then some (intsL i (j - i).toNat) else none
  | _, _ => none
def mRng1 (m : M PyData) : M (List PyData) := lift1 oRng1 m
def mRng2 (m m' : M PyData) : M (List PyData) := lift2 oRng2 m m'
def enumL (xs : List PyData) : List PyData := (List.range xs.length).zipWith (fun (i : Nat) x => .tuple [.int (i : Int), x]) xs
def oEnum : PyData → Option (List PyData)
  | .list xs => some (enumL xs)
  | _ => none
def mEnum (m : M PyData) : M (List PyData) := lift1 oEnum m
def zipL (xs ys : List PyData) : List PyData := xs.zipWith (fun x y => .tuple [x, y]) ys
def oZip : PyData → PyData → Option (List PyData)
  | .list xs, .list ys => some (zipL xs ys)
  | .tuple xs, .tuple ys => some (zipL xs ys)
  | _, _ => none
def mZip (m m' : M PyData) : M (List PyData) := lift2 oZip m m'
end DL

namespace DL
open PySem PySem.Spec PyProof.Rows L2
def Out {α : Type} (r : Res α) (P : α → Sl → Prop) (E : Exc → Sl → Prop) : Prop := match r with
  | .ok a ρ => P a ρ
  | .err e ρ => E e ρ
  | .stuck => False
/-- the plain law: what the law's def does tells True -/
def Good (φ : Sl → Res C) (ns : List Int) : Prop := Out (φ [some (.d (.list (ns.map .int)))]) (fun c _ => c = .d (.bool true)) fun _ _ => False
end DL

namespace DL
open PySem PySem.Spec PyProof.Rows L2
/-! ## try -/
def Exc.same : Exc → Exc → Bool
  | .unfit, .unfit => true
  | .cannot, .cannot => true
  | .many, .many => true
  | .nothing, .nothing => true
  | .bad _, .bad _ => true
  | _, _ => false
/-- try: b, except ex as the i-th slot: return a list of the items xs -/
def sTryRet (b : M Fl) (ex : Exc) (i : Nat) (xs : List PyData) : M Fl := fun ρ => match b ρ with
  | .ok fl ρ' => .ok fl ρ'
  | .err e ρ' => if e.same ex = true then (if i < ρ'.length then .ok (.rt (.l xs)) (ρ'.set i none) else .stuck) else .err e ρ'
  | .stuck => .stuck
end DL

set_option Elab.async false
set_option linter.all false
set_option maxRecDepth 100000
namespace DL
open PySem PySem.Spec L2
/-! ## more of the text: turned about, repeated, try with a store -/
def oRev : PyData → Option C
  | .list xs => some (.l xs.reverse)
  | .tuple xs => some (.d (.tuple xs.reverse))
  | _ => none
def mRev (m : M PyData) : M C := M.bind m fun x => M.of (oRev x)
def repOk (n : Nat) (k : Int) : Bool := decide (-9223372036854775808 ≤ k) && decide (k < 9223372036854775808) && decide (n * k.toNat ≤ sizeLine)
def repOkT (n : Nat) (k : Int) : Bool := decide (0 < n) && decide (n ≤ 1000) && decide (2 ≤ k) && decide (k ≤ 1000)
def oRep (c : C) (y : PyData) : Option C := match c, y with
  | .l xs, .int k => if repOk xs.length k then some (.l (List.replicate k.toNat xs).flatten) else none
  | .d (.tuple xs), .int k => if repOkT xs.length k then some (.d (.tuple (List.replicate k.toNat xs).flatten)) else none
  | _, _ => none
def mRep (a : M C) (b : M PyData) : M C := M.bind a fun x => M.bind b fun y => M.of (oRep x y)
/-- try: b, except ex as the i-th slot: the j-th slot holds bb -/
def sTrySet (b : M Fl) (ex : Exc) (i j : Nat) (bb : Bool) : M Fl := fun ρ => match b ρ with
  | .ok fl ρ' => .ok fl ρ'
  | .err e ρ' => if e.same ex = true then (if i < ρ'.length ∧ j < ρ'.length then .ok .nx (((ρ'.set i none).set j (some (.d (.bool bb)))).set i none) else .stuck) else .err e ρ'
  | .stuck => .stuck
end DL
namespace DL
open PySem PySem.Spec L2
/-! ## a slot's list, its own or shared, compared where it stands -/
def vlAt (i : Nat) (ρ : Sl) : Option (List PyData) := match ρ[i]? with
  | some (some (.l xs)) => some xs
  | some (some (.d (.list xs))) => some xs
  | _ => none
def eqS (x y : PyData) : Option Bool := if SeqAt.shaped x && SeqAt.shaped y then some (PyData.eqv x y) else none
def neS (x y : PyData) : Option Bool := if SeqAt.shaped x && SeqAt.shaped y then some (!PyData.eqv x y) else none
def tCmpV (f : PyData → PyData → Option Bool) (i : Nat) (m : M PyData) : M Bool := fun ρ => if (vlAt i ρ).isSome = true then (M.bind m fun y => fun ρ' => match vlAt i ρ' with
  | some xs => M.of (f (.list xs) y) ρ'
  | none => .stuck) ρ else .stuck
end DL
namespace DL
open PySem PySem.Spec L2
/-! ## sorted -/
def insU (x : Int) : List Int → List Int
  | [] => [x]
  | y :: r => if x < y then x :: y :: r else if x = y then y :: r else y :: insU x r
/-- ascending, none twice -/
def sortU : List Int → List Int
  | [] => []
  | x :: r => insU x (sortU r)
def insS (x : Int) : List Int → List Int
  | [] => [x]
  | y :: r => if x ≤ y then x :: y :: r else y :: insS x r
def sortS : List Int → List Int
  | [] => []
  | x :: r => insS x (sortS r)
def oSortSet : PyData → Option C
  | .list xs => (match intsD xs with
    | some ns => if ns.length < 64 then some (.l ((sortU ns).map .int)) else none
    | none => none)
  | _ => none
def keysD : List PyData → Option (List Int)
  | [] => some []
  | .tuple [.int k, _] :: r => (keysD r).map fun t => k :: t
  | _ => none
/-- sorted(dict(pairs)) -/
def oSortDict : PyData → Option C
  | .list xs => (match keysD xs with
    | some ns => if ns.length < 64 then some (.l ((sortU ns).map .int)) else none
    | none => none)
  | _ => none
def oSortI : PyData → Option C
  | .list xs => (match intsD xs with
    | some ns => some (.l ((sortS ns).map .int))
    | none => none)
  | _ => none
end DL

set_option Elab.async false
set_option linter.all false
set_option maxRecDepth 100000
set_option maxHeartbeats 2000000
namespace DL
open PySem PySem.Spec PyProof.Rows L2

/-- the fragment, and what the module's names hold -/
structure Kx where
  fr : PySem.W.Frag
  mg : Str → Option Value
instance : Coe Kx PySem.W.Frag := ⟨Kx.fr⟩
abbrev _root_.L2.Cx.kx (X : Cx) : Kx := ⟨X.K, X.mg⟩
mutual
/-- a value stands for data; its lists are tracked -/
inductive Dp (K : PySem.W.Frag) (H : Hp) : V → PyData → Prop
  | non : Dp K H .non .none
  | bl (b : Bool) : Dp K H (.bl b) (.bool b)
  | int (i : Int) : Dp K H (.int i) (.int i)
  | str (x : Str) : Dp K H (.str x) (.str x)
  | lst {a : Addr} {xs : List V} {ds : List PyData} : Rd H a (.lst xs) → DpAll K H xs ds → Dp K H (.ref a) (.list ds)
  | tup {a : Addr} {xs : List V} {ds : List PyData} : SqT K H a xs → DpAll K H xs ds → Dp K H (.ref a) (.tuple ds)
inductive DpAll (K : PySem.W.Frag) (H : Hp) : List V → List PyData → Prop
  | nil : DpAll K H [] []
  | cons {v : V} {vs : List V} {d : PyData} {ds : List PyData} : Dp K H v d → DpAll K H vs ds → DpAll K H (v :: vs) (d :: ds)
end
theorem rd_mono {H H' : Hp} {a : Addr} {u : HO} (e : Same H H') (h : Rd H a u) : Rd H' a u := by
  rcases h with h | ⟨o, h⟩
  · exact .inl (e _ _ h)
  · exact .inr ⟨o, e _ _ h⟩
theorem rd_seq {K : PySem.W.Frag} {H H' : Hp} {a : Addr} {xs : List V} (e : Same H H') (h : Rd H a (.lst xs)) : SqL K H' a xs := .inl (rd_mono e h)
mutual
theorem dp_to {K : PySem.W.Frag} {F : Hp} : ∀ {v : V} {d : PyData}, Dp K F v d → L2.Dp K F v d
  | _, _, .non => .non
  | _, _, .bl b => .bl b
  | _, _, .int i => .int i
  | _, _, .str x => .str x
  | _, _, .lst h a => .lst (.inl h) (dpAll_to a)
  | _, _, .tup h a => .tup h (dpAll_to a)
theorem dpAll_to {K : PySem.W.Frag} {F : Hp} : ∀ {vs : List V} {ds : List PyData}, DpAll K F vs ds → L2.DpAll K F vs ds
  | _, _, .nil => .nil
  | _, _, .cons h t => .cons (dp_to h) (dpAll_to t)
end
theorem sqT_mono {K : Kx} {H H' : Hp} {a : Addr} {xs : List V} (e : Same H H') (h : SqT K H a xs) : SqT K H' a xs := by
  rcases h with (h | ⟨o, h⟩) | h
  · exact .inl (.inl (e _ _ h))
  · exact .inl (.inr ⟨o, e _ _ h⟩)
  · exact .inr h
mutual
theorem dp_mono {K : Kx} {F F' : Hp} (e : Same F F') : ∀ {v : V} {d : PyData}, Dp K F v d → Dp K F' v d
  | _, _, .non => .non
  | _, _, .bl b => .bl b
  | _, _, .int i => .int i
  | _, _, .str x => .str x
  | _, _, .lst h a => .lst (rd_mono e h) (dpAll_mono e a)
  | _, _, .tup h a => .tup (sqT_mono e h) (dpAll_mono e a)
theorem dpAll_mono {K : Kx} {F F' : Hp} (e : Same F F') : ∀ {vs : List V} {ds : List PyData}, DpAll K F vs ds → DpAll K F' vs ds
  | _, _, .nil => .nil
  | _, _, .cons h t => .cons (dp_mono e h) (dpAll_mono e t)
end
/-- values of a dict -/
abbrev KVD {κ : Type} (K : Kx) (F : Hp) : List (κ × PyData) → List (κ × V) → Prop := Paired fun p q => p.1 = q.1 ∧ Dp K F q.2 p.2
theorem kvd_mono {κ : Type} {K : Kx} {F F' : Hp} (e : Same F F') {a : List (κ × PyData)} {b : List (κ × V)} (h : KVD K F a b) : KVD K F' a b := Paired.mapP h fun _ _ z => ⟨z.1, dp_mono e z.2⟩
/-- an object with such contents -/
def IsO (K : Kx) (F : Hp) : C → HO → Prop
  | .l xs, .lst vs => DpAll K F vs xs
  | .k kvs, .dK ws => KVD K F kvs ws
  | .t kvs, .dT ws => KVD K F kvs ws
  | _, _ => False
theorem isO_mono {K : Kx} {F F' : Hp} (e : Same F F') {c : C} {o : HO} (h : IsO K F c o) : IsO K F' c o := by
  cases c <;> cases o <;> first
    | exact dpAll_mono e h
    | exact kvd_mono e h
    | exact h
theorem isO_l {K : Kx} {F : Hp} {xs : List PyData} {o : HO} (h : IsO K F (.l xs) o) : ∃ vs, o = .lst vs ∧ DpAll K F vs xs := by
  cases o with
  | lst vs => exact ⟨vs, rfl, h⟩
  | _ => exact (show False from h).elim
theorem isO_k {K : Kx} {F : Hp} {xs : List (Key × PyData)} {o : HO} (h : IsO K F (.k xs) o) : ∃ vs, o = .dK vs ∧ KVD K F xs vs := by
  cases o with
  | dK vs => exact ⟨vs, rfl, h⟩
  | _ => exact (show False from h).elim
theorem isO_t {K : Kx} {F : Hp} {xs : List (List Key × PyData)} {o : HO} (h : IsO K F (.t xs) o) : ∃ vs, o = .dT vs ∧ KVD K F xs vs := by
  cases o with
  | dT vs => exact ⟨vs, rfl, h⟩
  | _ => exact (show False from h).elim
theorem dpa_len {K : Kx} {F : Hp} : ∀ {vs : List V} {ds : List PyData}, DpAll K F vs ds → vs.length = ds.length
  | _, _, .nil => rfl
  | _, _, .cons _ t => by rw [List.length_cons, List.length_cons, dpa_len t]
theorem dpa_at {K : Kx} {F : Hp} : ∀ {vs : List V} {ds : List PyData} {i : Nat} {d : PyData}, DpAll K F vs ds → ds[i]? = some d → ∃ v, vs[i]? = some v ∧ Dp K F v d
  | _, _, _, _, .nil, e => by simp at e
  | _, _, 0, _, .cons h _, e => by simp at e; subst e; exact ⟨_, rfl, h⟩
  | _, _, i + 1, d, .cons _ t, e => by
    obtain ⟨v, h1, h2⟩ := dpa_at (i := i) (d := d) t (by simpa using e)
    exact ⟨v, by simpa using h1, h2⟩
theorem dpa_at' {K : Kx} {F : Hp} {vs : List V} {ds : List PyData} {i : Nat} {v : V} (h : DpAll K F vs ds) (e : vs[i]? = some v) : ∃ d, ds[i]? = some d ∧ Dp K F v d := by
  have hi : i < vs.length := (List.getElem?_eq_some_iff.mp e).1
  have hj : i < ds.length := by rw [← dpa_len h]; exact hi
  obtain ⟨w, h1, h2⟩ := dpa_at h (List.getElem?_eq_getElem hj)
  rw [e] at h1
  cases h1
  exact ⟨_, List.getElem?_eq_getElem hj, h2⟩
theorem dpa_app {K : Kx} {F : Hp} : ∀ {vs ws : List V} {ds es : List PyData}, DpAll K F vs ds → DpAll K F ws es → DpAll K F (vs ++ ws) (ds ++ es)
  | _, _, _, _, .nil, h => h
  | _, _, _, _, .cons h t, h2 => .cons h (dpa_app t h2)
theorem dpa_one {K : Kx} {F : Hp} {v : V} {d : PyData} (h : Dp K F v d) : DpAll K F [v] [d] := .cons h .nil
theorem dpa_take {K : Kx} {F : Hp} : ∀ {vs : List V} {ds : List PyData} (n : Nat), DpAll K F vs ds → DpAll K F (vs.take n) (ds.take n)
  | _, _, 0, _ => by rw [List.take_zero, List.take_zero]; exact .nil
  | _, _, _ + 1, .nil => .nil
  | _, _, n + 1, .cons h t => .cons h (dpa_take n t)
theorem dpa_drop {K : Kx} {F : Hp} : ∀ {vs : List V} {ds : List PyData} (n : Nat), DpAll K F vs ds → DpAll K F (vs.drop n) (ds.drop n)
  | _, _, 0, h => h
  | _, _, _ + 1, .nil => .nil
  | _, _, n + 1, .cons _ t => dpa_drop n t
theorem dpa_rev {K : Kx} {F : Hp} : ∀ {vs : List V} {ds : List PyData}, DpAll K F vs ds → DpAll K F vs.reverse ds.reverse
  | _, _, .nil => .nil
  | _, _, .cons h t => by
    rw [List.reverse_cons, List.reverse_cons]
    exact dpa_app (dpa_rev t) (dpa_one h)
theorem dpa_dropLast {K : Kx} {F : Hp} {vs : List V} {ds : List PyData} (h : DpAll K F vs ds) : DpAll K F vs.dropLast ds.dropLast := by
  rw [List.dropLast_eq_take, List.dropLast_eq_take, dpa_len h]
  exact dpa_take _ h
theorem dpa_set {K : Kx} {F : Hp} {v : V} {d : PyData} (q : Dp K F v d) : ∀ {vs : List V} {ds : List PyData} (i : Nat), DpAll K F vs ds → DpAll K F (vs.set i v) (ds.set i d)
  | _, _, _, .nil => .nil
  | _, _, 0, .cons _ t => .cons q t
  | _, _, i + 1, .cons h t => .cons h (dpa_set q i t)
theorem dpa_ints {K : Kx} {F : Hp} : ∀ (ns : List Int), DpAll K F (ns.map V.int) (ns.map PyData.int)
  | [] => .nil
  | n :: r => .cons (.int n) (dpa_ints r)

/-! ## slots against the frame's slots and the heap -/
def ownAt (ρ : Sl) (i : Nat) : Prop := ∃ c, ρ[i]? = some (some c) ∧ c.own = true
def Own (ρ : Sl) (σ : St) (b : Addr) : Prop := ∃ i, ownAt ρ i ∧ σ[i]? = some (some (.ref b))
/-- F: what is shared and never changes -/
structure Rp (K : Kx) (F : Hp) (ρ : Sl) (σ : St) (H : Hp) : Prop where
  sub : Same F H
  len : ρ.length = σ.length
  dat : ∀ (i : Nat) (x : PyData), ρ[i]? = some (some (.d x)) → ∃ v, σ[i]? = some (some v) ∧ Dp K F v x
  fn : ∀ (i : Nat) (x : Str), ρ[i]? = some (some (.f x)) → ∃ a, K.mg x = some (.ref a) ∧ σ[i]? = some (some (.ref a))
  own : ∀ (i : Nat) (c : C), ρ[i]? = some (some c) → c.own = true → ∃ a o, σ[i]? = some (some (.ref a)) ∧ F a = none ∧ H a = some o ∧ IsO K F c o
  apart : ∀ (i j : Nat) (a : Addr), ownAt ρ i → ownAt ρ j → σ[i]? = some (some (.ref a)) → σ[j]? = some (some (.ref a)) → i = j
/-- slots whose values stay; slots whose own things stay -/
structure Pn where
  s : Nat → Bool
  o : Nat → Bool
def Pn.all (P : Pn) (i : Nat) : Bool := P.s i || P.o i
def allP (n : Nat) : Pn := ⟨fun i => decide (i < n), fun i => decide (i < n)⟩
def ofP (l : List Nat) : Pn := ⟨fun i => l.contains i, fun i => l.contains i⟩
theorem ne_o {P : Pn} {i j : Nat} (hi : P.o i = false) (hj : P.o j = true) : j ≠ i := fun e => by subst e; rw [hj] at hi; cases hi
/-- from one state to a later one; P: slots that stay -/
structure Go (K : Kx) (P : Pn) (ρ : Sl) (σ : St) (H F : Hp) (ρ' : Sl) (σ' : St) (H' F' : Hp) : Prop where
  rp : Rp K F' ρ' σ' H'
  fr : Same F F'
  hp : ∀ b o, ¬ Own ρ σ b → H b = some o → H' b = some o
  th : ∀ b o, H b = some o → ∃ o', H' b = some o'
  nw : ∀ b o, F' b = some o → F b = some o ∨ H b = none ∨ Own ρ σ b
  ow : ∀ b, Own ρ' σ' b → Own ρ σ b ∨ H b = none
  pn : ∀ i, P.s i = true → σ'[i]? = σ[i]?
  po : ∀ i, P.o i = true → ownAt ρ i → ownAt ρ' i
  ln : σ'.length = σ.length
theorem Go.refl {K : Kx} {P : Pn} {ρ : Sl} {σ : St} {H F : Hp} (r : Rp K F ρ σ H) : Go K P ρ σ H F ρ σ H F :=
  ⟨r, Same.refl F, fun _ _ _ e => e, fun _ o e => ⟨o, e⟩, fun _ _ e => .inl e, fun _ e => .inl e, fun _ _ => rfl, fun _ _ e => e, rfl⟩
theorem Go.trans {K : Kx} {P : Pn} {ρ ρ1 ρ2 : Sl} {σ σ1 σ2 : St} {H H1 H2 F F1 F2 : Hp} (a : Go K P ρ σ H F ρ1 σ1 H1 F1) (b : Go K P ρ1 σ1 H1 F1 ρ2 σ2 H2 F2) : Go K P ρ σ H F ρ2 σ2 H2 F2 where
  rp := b.rp
  fr := a.fr.trans b.fr
  hp := fun x o n e => by
    refine b.hp x o (fun z => ?_) (a.hp x o n e)
    rcases a.ow x z with q | q
    · exact n q
    · rw [q] at e; cases e
  th := fun x o e => by
    obtain ⟨o1, e1⟩ := a.th x o e
    exact b.th x o1 e1
  nw := fun x o e => by
    rcases b.nw x o e with q | q | q
    · exact a.nw x o q
    · refine .inr (.inl ?_)
      cases z : H x with
      | none => rfl
      | some u =>
        obtain ⟨u', z'⟩ := a.th x u z
        rw [q] at z'; cases z'
    · rcases a.ow x q with z | z
      · exact .inr (.inr z)
      · exact .inr (.inl z)
  ow := fun x e => by
    rcases b.ow x e with q | q
    · exact a.ow x q
    · cases z : H x with
      | none => exact .inr rfl
      | some u =>
        obtain ⟨u', z'⟩ := a.th x u z
        rw [q] at z'; cases z'
  pn := fun i hi => (b.pn i hi).trans (a.pn i hi)
  po := fun i hi e => b.po i hi (a.po i hi e)
  ln := b.ln.trans a.ln
theorem Go.back {K : Kx} {P : Pn} {ρ ρ1 : Sl} {σ σ1 : St} {H H1 F F1 : Hp} (a : Go K P ρ σ H F ρ1 σ1 H1 F1) {p : Addr} (h : H1 p = none) : H p = none := by
  cases z : H p with
  | none => rfl
  | some u =>
    obtain ⟨u', z'⟩ := a.th p u z
    rw [h] at z'; cases z'
theorem Rp.notOwn {K : Kx} {F : Hp} {ρ : Sl} {σ : St} {H : Hp} (r : Rp K F ρ σ H) {b : Addr} (h : Own ρ σ b) : F b = none ∧ ∃ o, H b = some o := by
  obtain ⟨i, ⟨c, e, hc⟩, hs⟩ := h
  obtain ⟨a, o, h1, h2, h3, _⟩ := r.own i c e hc
  rw [hs] at h1
  cases h1
  exact ⟨h2, o, h3⟩
theorem Rp.free {K : Kx} {F : Hp} {ρ : Sl} {σ : St} {H : Hp} (r : Rp K F ρ σ H) {p : Addr} (h : H p = none) : F p = none := by
  cases z : F p with
  | none => rfl
  | some u => rw [r.sub p u z] at h; cases h
theorem same_upd {H : Hp} {p : Addr} {o : HO} (h : H p = none) : Same H (upd H p o) := fun b x e => by
  rw [upd_ne (ne_of_none e h)]
  exact e
/-- a new object that nobody changes -/
theorem Go.data {K : Kx} {P : Pn} {ρ : Sl} {σ : St} {H F : Hp} (r : Rp K F ρ σ H) {p : Addr} (h : H p = none) (o : HO) : Go K P ρ σ H F ρ σ (upd H p o) (upd F p o) := by
  have hF := r.free h
  have s1 : Same F (upd F p o) := same_upd hF
  refine ⟨⟨fun b x e => ?_, r.len, fun i x e => ?_, r.fn, fun i c e hc => ?_, r.apart⟩, s1, fun b x _ e => same_upd h b x e, fun b x e => ⟨x, same_upd h b x e⟩, fun b x e => ?_, fun b e => .inl e, fun _ _ => rfl, fun _ _ e => e, rfl⟩
  · by_cases hb : b = p
    · subst hb; rw [upd_same] at e ⊢; exact e
    · rw [upd_ne hb] at e ⊢; exact r.sub b x e
  · obtain ⟨v, h1, h2⟩ := r.dat i x e
    exact ⟨v, h1, dp_mono s1 h2⟩
  · obtain ⟨a, u, h1, h2, h3, h4⟩ := r.own i c e hc
    have ne : a ≠ p := ne_of_none h3 h
    exact ⟨a, u, h1, by rw [upd_ne ne]; exact h2, by rw [upd_ne ne]; exact h3, isO_mono s1 h4⟩
  · by_cases hb : b = p
    · subst hb; exact .inr (.inl h)
    · rw [upd_ne hb] at e; exact .inl e
/-- a new object that is nobody's yet -/
theorem Go.temp {K : Kx} {P : Pn} {ρ : Sl} {σ : St} {H F : Hp} (r : Rp K F ρ σ H) {p : Addr} (h : H p = none) (o : HO) : Go K P ρ σ H F ρ σ (upd H p o) F := by
  refine ⟨⟨fun b x e => same_upd h b x (r.sub b x e), r.len, r.dat, r.fn, fun i c e hc => ?_, r.apart⟩, Same.refl F, fun b x _ e => same_upd h b x e, fun b x e => ⟨x, same_upd h b x e⟩, fun b x e => .inl e, fun b e => .inl e, fun _ _ => rfl, fun _ _ e => e, rfl⟩
  obtain ⟨a, u, h1, h2, h3, h4⟩ := r.own i c e hc
  exact ⟨a, u, h1, h2, by rw [upd_ne (ne_of_none h3 h)]; exact h3, h4⟩
/-- what is new, or was one's own -/
abbrev FR := Addr → Prop
def Fr (ρ : Sl) (σ : St) (H : Hp) : FR := fun p => H p = none ∨ Own ρ σ p
theorem Go.fr0 {K : Kx} {P : Pn} {ρ ρ1 : Sl} {σ σ1 : St} {H H1 F F1 : Hp} (a : Go K P ρ σ H F ρ1 σ1 H1 F1) {p : Addr} (h : Fr ρ1 σ1 H1 p) : Fr ρ σ H p := by
  rcases h with h | h
  · exact .inl (a.back h)
  · rcases a.ow p h with z | z
    · exact .inr z
    · exact .inl z
/-- an object that is nobody's is shared from now on -/
theorem Go.share {K : Kx} {P : Pn} {ρ0 ρ : Sl} {σ0 σ : St} {H0 F0 H F : Hp} (g : Go K P ρ0 σ0 H0 F0 ρ σ H F) {p : Addr} {o : HO} (h0 : Fr ρ0 σ0 H0 p) (h : H p = some o) (hF : F p = none) (no : ¬ Own ρ σ p) : Go K P ρ0 σ0 H0 F0 ρ σ H (upd F p o) := by
  have s1 : Same F (upd F p o) := same_upd hF
  refine ⟨⟨fun b x e => ?_, g.rp.len, fun i x e => ?_, g.rp.fn, fun i c e hc => ?_, g.rp.apart⟩, g.fr.trans s1, g.hp, g.th, fun b x e => ?_, g.ow, g.pn, g.po, g.ln⟩
  · by_cases hb : b = p
    · subst hb; rw [upd_same] at e; rw [← e]; exact h
    · rw [upd_ne hb] at e; exact g.rp.sub b x e
  · obtain ⟨v, h1, h2⟩ := g.rp.dat i x e
    exact ⟨v, h1, dp_mono s1 h2⟩
  · obtain ⟨a, u, h1, h2, h3, h4⟩ := g.rp.own i c e hc
    have ne : a ≠ p := fun z => no ⟨i, ⟨c, e, hc⟩, z ▸ h1⟩
    exact ⟨a, u, h1, by rw [upd_ne ne]; exact h2, h3, isO_mono s1 h4⟩
  · by_cases hb : b = p
    · subst hb; exact .inr h0
    · rw [upd_ne hb] at e; exact g.nw b x e

theorem Out.mono {α : Type} {r : Res α} {P P' : α → Sl → Prop} {E E' : Exc → Sl → Prop} (h : Out r P E) (hP : ∀ a ρ, P a ρ → P' a ρ) (hE : ∀ e ρ, E e ρ → E' e ρ) : Out r P' E' := by
  cases r with
  | ok a ρ => exact hP a ρ h
  | err e ρ => exact hE e ρ h
  | stuck => exact h
theorem Out.bind {α β : Type} {m : M α} {f : α → M β} {ρ : Sl} {P : β → Sl → Prop} {E : Exc → Sl → Prop} (h : Out (M.bind m f ρ) P E) : Out (m ρ) (fun a ρ1 => Out (f a ρ1) P E) E := by
  unfold M.bind at h
  cases e : m ρ with
  | ok a ρ1 => rw [e] at h; exact h
  | err x ρ1 => rw [e] at h; exact h
  | stuck => rw [e] at h; exact h
theorem Out.of {α : Type} {o : Option α} {ρ : Sl} {P : α → Sl → Prop} {E : Exc → Sl → Prop} (h : Out (M.of o ρ) P E) : ∃ a, o = some a ∧ P a ρ := by
  cases o with
  | some a => exact ⟨a, rfl, h⟩
  | none => exact h.elim

/-! ## the link -/
/-- slots that stay, how what is raised stands, what is wanted of it -/
structure Ct where
  P : Pn
  ER : Exc → Value → Option Addr → Hp → Prop
  W : WX
/-- what an expression gives: R tells how the value stands for what m gives -/
def T1 {α β : Type} (K : Kx) (c : Ct) (R : FR → Sl → St → Hp → Hp → α → β → Prop) (m : M α) (F : Hp) (ρ : Sl) : St → Hp → (β → Hp → Prop) → Prop := fun σ H Q =>
  Out (m ρ) (fun a ρ' => ∀ v H' F', Go K c.P ρ σ H F ρ' σ H' F' → R (Fr ρ σ H) ρ' σ H' F' a v → Q v H') (fun e ρ' => ∀ cv dd H' F', Go K c.P ρ σ H F ρ' σ H' F' → c.ER e cv dd H' → c.W cv dd σ H')
def Tr {α β : Type} (K : Kx) (c : Ct) (R : FR → Sl → St → Hp → Hp → α → β → Prop) (m : M α) : St → Hp → (β → Hp → Prop) → Prop := fun σ H Q => ∃ F ρ, Rp K F ρ σ H ∧ T1 K c R m F ρ σ H Q
def RD (K : Kx) : FR → Sl → St → Hp → Hp → PyData → V → Prop := fun _ _ _ _ F' d v => Dp K F' v d
def RB : FR → Sl → St → Hp → Hp → Bool → Bool → Prop := fun _ _ _ _ _ a b => a = b
/-- data, a def, or a new object of one's own -/
def RC (K : Kx) : FR → Sl → St → Hp → Hp → C → V → Prop := fun fr ρ' σ H' F' c v => match c with
  | .d x => Dp K F' v x
  | .f x => ∃ a, K.mg x = some (.ref a) ∧ v = .ref a
  | c => ∃ p o, v = .ref p ∧ fr p ∧ F' p = none ∧ H' p = some o ∧ IsO K F' c o ∧ ¬ Own ρ' σ p
/-- rebasing a step -/
theorem T1.base {α β : Type} {K : Kx} {c : Ct} {R R' : FR → Sl → St → Hp → Hp → α → β → Prop} {m : M α} {F F1 : Hp} {ρ ρ1 : Sl} {σ : St} {H H1 : Hp} {Q : β → Hp → Prop} (g : Go K c.P ρ σ H F ρ1 σ H1 F1)
    (hR : ∀ ρ' H' F' a v, Go K c.P ρ1 σ H1 F1 ρ' σ H' F' → R' (Fr ρ1 σ H1) ρ' σ H' F' a v → R (Fr ρ σ H) ρ' σ H' F' a v)
    (h : Out (m ρ1) (fun a ρ' => ∀ v H' F', Go K c.P ρ σ H F ρ' σ H' F' → R (Fr ρ σ H) ρ' σ H' F' a v → Q v H') (fun e ρ' => ∀ cv dd H' F', Go K c.P ρ σ H F ρ' σ H' F' → c.ER e cv dd H' → c.W cv dd σ H')) : T1 K c R' m F1 ρ1 σ H1 Q :=
  Out.mono h (fun a ρ' q v H' F' g' r => q v H' F' (g.trans g') (hR ρ' H' F' a v g' r)) fun e ρ' q cv dd H' F' g' r => q cv dd H' F' (g.trans g') r
theorem pe_imp {X : Cx} {e : Expr} {t t' : TE} (h : PE X e t) (i : ∀ σ H Q, t' σ H Q → t σ H Q) : PE X e t' := ⟨fun pins s σ H Q I q => h.run pins s σ H Q I (i σ H Q q)⟩
theorem pt_imp {X : Cx} {e : Expr} {t t' : TT} (h : PT X e t) (i : ∀ σ H Q, t' σ H Q → t σ H Q) : PT X e t' := ⟨fun pins s σ H Q I q => h.run pins s σ H Q I (i σ H Q q)⟩
theorem pw_imp {X : Cx} {e : Expr} {t t' : TT} (h : PW X e t) (i : ∀ σ H Q, t' σ H Q → t σ H Q) : PW X e t' := ⟨fun wh pins s σ H Q I q => h.run wh pins s σ H Q I (i σ H Q q)⟩
theorem pa_imp {X : Cx} {e : List Expr} {t t' : TA} (h : PA X e t) (i : ∀ σ H Q, t' σ H Q → t σ H Q) : PA X e t' := ⟨fun p pins s σ H Q I q => h.run p pins s σ H Q I (i σ H Q q)⟩
theorem ps_imp {X : Cx} {e : Stmt} {t t' : TS} (h : PS X e t) (i : ∀ D σ H, t' D σ H → t D σ H) : PS X e t' := ⟨fun pins s σ H D I q => h.run pins s σ H D I (i D σ H q)⟩
theorem pss_imp {X : Cx} {e : List Stmt} {t t' : TS} (h : PSs X e t) (i : ∀ D σ H, t' D σ H → t D σ H) : PSs X e t' := ⟨fun pins s σ H D I q => h.run pins s σ H D I (i D σ H q)⟩
/-- an expression gives data -/
abbrev DE (X : Cx) (c : Ct) (e : Expr) (m : M PyData) : Prop := PE X e (Tr X.kx c (RD X.kx) m)
/-- an expression gives contents -/
abbrev DO (X : Cx) (c : Ct) (e : Expr) (m : M C) : Prop := PE X e (Tr X.kx c (RC X.kx) m)
/-- a test -/
abbrev DT (X : Cx) (c : Ct) (e : Expr) (m : M Bool) : Prop := PT X e (Tr X.kx c RB m)
abbrev DW (X : Cx) (c : Ct) (e : Expr) (m : M Bool) : Prop := PW X e (Tr X.kx c RB m)
end DL

set_option Elab.async false
set_option linter.all false
set_option maxRecDepth 100000
set_option maxHeartbeats 2000000
namespace DL
open PySem PySem.Spec PyProof.Rows L2

theorem Tr.pure {α β : Type} {K : Kx} {c : Ct} {R : FR → Sl → St → Hp → Hp → α → β → Prop} {a : α} {σ : St} {H : Hp} {Q : β → Hp → Prop} (h : Tr K c R (M.pure a) σ H Q) : ∃ F ρ, Rp K F ρ σ H ∧ ∀ v H' F', Go K c.P ρ σ H F ρ σ H' F' → R (Fr ρ σ H) ρ σ H' F' a v → Q v H' := h
section
variable {X : Cx} {c : Ct} {e a b d : Expr} {pos : Pos}

/-! ### constants, names -/
theorem de_int {i j} : DE X c (.Constant (.int i) j pos) (M.pure (.int i)) := pe_imp pe_int fun σ H Q ⟨F, ρ, r, h⟩ => h _ H F (Go.refl r) (.int i)
theorem de_bl {i j} : DE X c (.Constant (.bool i) j pos) (M.pure (.bool i)) := pe_imp pe_bl fun σ H Q ⟨F, ρ, r, h⟩ => h _ H F (Go.refl r) (.bl i)
theorem de_non {j} : DE X c (.Constant .none j pos) (M.pure .none) := pe_imp pe_non fun σ H Q ⟨F, ρ, r, h⟩ => h _ H F (Go.refl r) .non
theorem de_str {x j} : DE X c (.Constant (.str x) j pos) (M.pure (.str x)) := pe_imp pe_str fun σ H Q ⟨F, ρ, r, h⟩ => h _ H F (Go.refl r) (.str x)
theorem de_varP {i : Nat} (h : PE X e (L2.tVar i)) : DE X c e (mVar i) := pe_imp h fun σ H Q ⟨F, ρ, r, h⟩ => by
  unfold T1 mVar at h
  cases z : ρ[i]? with
  | none => rw [z] at h; exact h.elim
  | some o =>
    cases o with
    | none => rw [z] at h; exact h.elim
    | some k =>
      cases k with
      | d x =>
        rw [z] at h
        obtain ⟨v, h1, h2⟩ := r.dat i x z
        exact ⟨v, h1, h v H F (Go.refl r) h2⟩
      | _ => rw [z] at h; exact h.elim
theorem do_varP {i : Nat} (h : PE X e (L2.tVar i)) : DO X c e (mVarC i) := pe_imp h fun σ H Q ⟨F, ρ, r, h⟩ => by
  unfold T1 mVarC at h
  cases z : ρ[i]? with
  | none => rw [z] at h; exact h.elim
  | some o =>
    cases o with
    | none => rw [z] at h; exact h.elim
    | some k =>
      cases k with
      | d x =>
        rw [z] at h
        obtain ⟨v, h1, h2⟩ := r.dat i x z
        exact ⟨v, h1, h v H F (Go.refl r) h2⟩
      | f x =>
        rw [z] at h
        obtain ⟨a, h1, h2⟩ := r.fn i x z
        exact ⟨_, h2, h (.ref a) H F (Go.refl r) ⟨a, h1, rfl⟩⟩
      | _ => rw [z] at h; exact h.elim
/-- giving up a list of one's own -/
theorem Go.give {K : Kx} {P : Pn} {F : Hp} {ρ : Sl} {σ : St} {H : Hp} {i : Nat} {xs : List PyData} (r : Rp K F ρ σ H) (z : ρ[i]? = some (some (.l xs))) (hi : P.o i = false) :
    ∃ a F', σ[i]? = some (some (.ref a)) ∧ Go K P ρ σ H F (ρ.set i (some (.d (.list xs)))) σ H F' ∧ Dp K F' (.ref a) (.list xs) := by
  obtain ⟨a, o, h1, h2, h3, h4⟩ := r.own i _ z rfl
  obtain ⟨vs, rfl, h5⟩ := isO_l h4
  have s1 : Same F (upd F a (.lst vs)) := same_upd h2
  have hlt : i < ρ.length := (List.getElem?_eq_some_iff.mp z).1
  have dd : Dp K (upd F a (.lst vs)) (.ref a) (.list xs) := .lst (.inl upd_same) (dpAll_mono s1 h5)
  have oi : ownAt ρ i := ⟨_, z, rfl⟩
  have get : ∀ j, j ≠ i → (ρ.set i (some (.d (.list xs))))[j]? = ρ[j]? := fun j hj => List.getElem?_set_ne (Ne.symm hj)
  have self : (ρ.set i (some (.d (.list xs))))[i]? = some (some (.d (.list xs))) := List.getElem?_set_self hlt
  have back : ∀ j, ownAt (ρ.set i (some (.d (.list xs)))) j → j ≠ i ∧ ownAt ρ j := fun j ⟨k, e1, e2⟩ => by
    by_cases hj : j = i
    · subst hj; rw [self] at e1; cases e1; cases e2
    · rw [get j hj] at e1; exact ⟨hj, k, e1, e2⟩
  refine ⟨a, upd F a (.lst vs), h1, ⟨⟨fun b x e => ?_, by rw [List.length_set]; exact r.len, fun j x e => ?_, fun j x e => ?_, fun j k e hk => ?_, fun j k b h h' e e' => r.apart j k b (back j h).2 (back k h').2 e e'⟩, s1, fun _ _ _ e => e, fun _ o e => ⟨o, e⟩, fun b x e => ?_, fun b ⟨j, h, e⟩ => .inl ⟨j, (back j h).2, e⟩, fun j hj => rfl, fun j hj ⟨k, e1, e2⟩ => ⟨k, by rw [get j (ne_o hi hj)]; exact e1, e2⟩, rfl⟩, dd⟩
  · by_cases hb : b = a
    · subst hb; rw [upd_same] at e; rw [← e]; exact h3
    · rw [upd_ne hb] at e; exact r.sub b x e
  · by_cases hj : j = i
    · subst hj; rw [self] at e; cases e; exact ⟨_, h1, dd⟩
    · rw [get j hj] at e
      obtain ⟨v, q1, q2⟩ := r.dat j x e
      exact ⟨v, q1, dp_mono s1 q2⟩
  · by_cases hj : j = i
    · subst hj; rw [self] at e; cases e
    · rw [get j hj] at e; exact r.fn j x e
  · obtain ⟨hj, _⟩ := back j ⟨k, e, hk⟩
    rw [get j hj] at e
    obtain ⟨a', u, q1, q2, q3, q4⟩ := r.own j k e hk
    have ne : a' ≠ a := fun q => hj (r.apart j i a ⟨k, e, hk⟩ oi (q ▸ q1) h1)
    exact ⟨a', u, q1, by rw [upd_ne ne]; exact q2, q3, isO_mono s1 q4⟩
  · by_cases hb : b = a
    · subst hb; exact .inr (.inr ⟨i, oi, h1⟩)
    · rw [upd_ne hb] at e; exact .inl e
theorem de_varFP {i : Nat} (hi : c.P.o i = false) (h : PE X e (L2.tVar i)) : DE X c e (mVarF i) := pe_imp h fun σ H Q ⟨F, ρ, r, h⟩ => by
  unfold T1 mVarF at h
  cases z : ρ[i]? with
  | none => rw [z] at h; exact h.elim
  | some o =>
    cases o with
    | none => rw [z] at h; exact h.elim
    | some k =>
      cases k with
      | d x =>
        rw [z] at h
        obtain ⟨v, h1, h2⟩ := r.dat i x z
        exact ⟨v, h1, h v H F (Go.refl r) h2⟩
      | l xs =>
        rw [z] at h
        obtain ⟨a, F', h1, g, dd⟩ := Go.give r z hi
        exact ⟨_, h1, h _ H F' g dd⟩
      | _ => rw [z] at h; exact h.elim
theorem de_globP {v : V} {m : PyData} (h : PE X e (tC v)) (hd : ∀ F, Dp X.kx F v m) : DE X c e (M.pure m) := pe_imp h fun σ H Q ⟨F, ρ, r, h⟩ => h _ H F (Go.refl r) (hd F)
theorem do_globP {x : Str} {f : Addr} (h : PE X e (tC (.ref f))) (hm : X.mg x = some (.ref f)) : DO X c e (M.pure (.f x)) := pe_imp h fun σ H Q ⟨F, ρ, r, h⟩ => h _ H F (Go.refl r) ⟨f, hm, rfl⟩

/-! ### operators -/
def OpD (K : Kx) (P : Pn) (r : R2) (f : PyData → PyData → Option PyData) : Prop :=
  ∀ {ρ : Sl} {σ : St} {H F : Hp} {v u : V} {x y z : PyData} {Q : VK}, Rp K F ρ σ H → Dp K F v x → Dp K F u y → f x y = some z → (∀ w H' F', Go K P ρ σ H F ρ σ H' F' → Dp K F' w z → Q w H') → r v u H Q
theorem de_op {op : Operator} {r : R2} {f : PyData → PyData → Option PyData} {m1 m2 : M PyData} (ho : OpR X (binaryOp op) r) (hf : OpD X.kx c.P r f) (ha : DE X c a m1) (hb : DE X c b m2) : DE X c (.BinOp a op b pos) (lift2 f m1 m2) :=
  pe_imp (pe_op ho ha hb) fun σ H Q ⟨F, ρ, r, h⟩ => ⟨F, ρ, r, Out.mono (Out.bind h) (fun x ρ1 h1 v H1 F1 g1 d1 => ⟨F1, ρ1, g1.rp, Out.mono (Out.bind h1) (fun y ρ2 h2 u H2 F2 g2 d2 => by
    obtain ⟨z, e, q⟩ := Out.of h2
    exact hf g2.rp (dp_mono g2.fr d1) d2 e fun w H' F' g3 d3 => q w H' F' ((g1.trans g2).trans g3) d3) fun e ρ2 q cv dd H2 F2 g2 er => q cv dd H2 F2 (g1.trans g2) er⟩) fun e ρ1 q => q⟩
theorem de_un {op : UnaryOp} {r : V → Hp → VK → Prop} {f : PyData → Option PyData} {m1 : M PyData} (ho : UnR X (unaryOp op) r)
    (hf : ∀ {ρ : Sl} {σ : St} {H F : Hp} {v : V} {x z : PyData} {Q : VK}, Rp X.kx F ρ σ H → Dp X.kx F v x → f x = some z → (∀ w H' F', Go X.kx c.P ρ σ H F ρ σ H' F' → Dp X.kx F' w z → Q w H') → r v H Q) (ha : DE X c a m1) : DE X c (.UnaryOp op a pos) (lift1 f m1) :=
  pe_imp (pe_un ho ha) fun σ H Q ⟨F, ρ, r, h⟩ => ⟨F, ρ, r, Out.mono (Out.bind h) (fun x ρ1 h1 v H1 F1 g1 d1 => by
    obtain ⟨z, e, q⟩ := Out.of h1
    exact hf g1.rp d1 e fun w H' F' g3 d3 => q w H' F' (g1.trans g3) d3) fun e ρ1 q => q⟩
theorem oi_of {K : Kx} {P : Pn} {cc : Int → Int → Prop} {g : Int → Int → V} {f : PyData → PyData → Option PyData} (hf : ∀ x y z, f x y = some z → ∃ i j k, x = .int i ∧ y = .int j ∧ cc i j ∧ g i j = .int k ∧ z = .int k) : OpD K P (rI cc g) f := fun {ρ σ H F v u x y z Q} r hx hy e q => by
  obtain ⟨i, j, k, rfl, rfl, hc, h1, rfl⟩ := hf x y z e
  cases hx
  cases hy
  refine ⟨i, j, rfl, rfl, hc, ?_⟩
  rw [h1]
  exact q _ H F (Go.refl r) (.int k)
theorem oi_of0 {K : Kx} {P : Pn} {g : Int → Int → V} {f : PyData → PyData → Option PyData} (hf : ∀ x y z, f x y = some z → ∃ i j k, x = .int i ∧ y = .int j ∧ g i j = .int k ∧ z = .int k) : OpD K P (rI0 g) f := fun {ρ σ H F v u x y z Q} r hx hy e q => by
  obtain ⟨i, j, k, rfl, rfl, h1, rfl⟩ := hf x y z e
  cases hx
  cases hy
  refine ⟨i, j, rfl, rfl, ?_⟩
  rw [h1]
  exact q _ H F (Go.refl r) (.int k)
theorem ints_or (x y : PyData) : (∃ i j, x = .int i ∧ y = .int j) ∨ ∀ i j, x = .int i → y = .int j → False := by
  cases x <;> cases y <;> first
    | exact .inl ⟨_, _, rfl, rfl⟩
    | (refine .inr fun _ _ e _ => ?_; cases e; done)
    | (refine .inr fun _ _ _ e => ?_; cases e; done)
theorem ints_of {f : PyData → PyData → Option PyData} {x y z : PyData} (h : f x y = some z) (hn : ∀ x y, (∀ i j, x = .int i → y = .int j → False) → f x y = none) : ∃ i j, x = .int i ∧ y = .int j := by
  rcases ints_or x y with k | k
  · exact k
  · rw [hn _ _ k] at h; cases h
theorem os_sub {K : Kx} {P : Pn} : OpD K P (rI0 fun i j => .int (i - j)) oSub := oi_of0 fun x y z h => by
  obtain ⟨i, j, rfl, rfl⟩ := ints_of h fun x y n => by cases x <;> cases y <;> first | rfl | exact (n _ _ rfl rfl).elim
  exact ⟨i, j, i - j, rfl, rfl, rfl, (Option.some.inj h).symm⟩
theorem os_and {K : Kx} {P : Pn} : OpD K P (rI0 fun i j => .int (Builtin.bitAnd i j)) oAnd := oi_of0 fun x y z h => by
  obtain ⟨i, j, rfl, rfl⟩ := ints_of h fun x y n => by cases x <;> cases y <;> first | rfl | exact (n _ _ rfl rfl).elim
  exact ⟨i, j, _, rfl, rfl, rfl, (Option.some.inj h).symm⟩
theorem os_or {K : Kx} {P : Pn} : OpD K P (rI0 fun i j => .int (Builtin.bitOr i j)) oOr := oi_of0 fun x y z h => by
  obtain ⟨i, j, rfl, rfl⟩ := ints_of h fun x y n => by cases x <;> cases y <;> first | rfl | exact (n _ _ rfl rfl).elim
  exact ⟨i, j, _, rfl, rfl, rfl, (Option.some.inj h).symm⟩
theorem os_mul {K : Kx} {P : Pn} : OpD K P (rI CMulX fun i j => .int (i * j)) oMul := oi_of fun x y z h => by
  obtain ⟨i, j, rfl, rfl⟩ := ints_of h fun x y n => by cases x <;> cases y <;> first | rfl | exact (n _ _ rfl rfl).elim
  have h' : (if mulOk i j then some (PyData.int (i * j)) else none) = some z := h
  by_cases hm : mulOk i j = true
  · rw [if_pos hm] at h'
    exact ⟨i, j, _, rfl, rfl, of_decide_eq_true (p := (Builtin.Int.intBits i : Int) + (Builtin.Int.intBits j : Int) ≤ 134217728) hm, rfl, (Option.some.inj h').symm⟩
  · rw [if_neg hm] at h'; cases h'
theorem os_div {K : Kx} {P : Pn} : OpD K P (rI CDivW fun i j => .int (i / j)) oDiv := oi_of fun x y z h => by
  obtain ⟨i, j, rfl, rfl⟩ := ints_of h fun x y n => by cases x <;> cases y <;> first | rfl | exact (n _ _ rfl rfl).elim
  have h' : (if divOk j then some (PyData.int (i / j)) else none) = some z := h
  by_cases hm : divOk j = true
  · rw [if_pos hm] at h'
    unfold divOk at hm
    rw [Bool.and_eq_true] at hm
    exact ⟨i, j, _, rfl, rfl, ⟨of_decide_eq_true hm.1, of_decide_eq_true hm.2⟩, rfl, (Option.some.inj h').symm⟩
  · rw [if_neg hm] at h'; cases h'
theorem os_mod {K : Kx} {P : Pn} : OpD K P (rI (fun _ j => 0 < j) fun i j => .int (i % j)) oMod := oi_of fun x y z h => by
  obtain ⟨i, j, rfl, rfl⟩ := ints_of h fun x y n => by cases x <;> cases y <;> first | rfl | exact (n _ _ rfl rfl).elim
  have h' : (if 0 < j then some (PyData.int (i % j)) else none) = some z := h
  by_cases hm : 0 < j
  · rw [if_pos hm] at h'
    exact ⟨i, j, _, rfl, rfl, hm, rfl, (Option.some.inj h').symm⟩
  · rw [if_neg hm] at h'; cases h'
theorem os_shl {K : Kx} {P : Pn} : OpD K P (rI CShl fun i j => .int (i * 2 ^ j.toNat)) oShl := oi_of fun x y z h => by
  obtain ⟨i, j, rfl, rfl⟩ := ints_of h fun x y n => by cases x <;> cases y <;> first | rfl | exact (n _ _ rfl rfl).elim
  have h' : (if shlOk i j then some (PyData.int (i * 2 ^ j.toNat)) else none) = some z := h
  by_cases hm : shlOk i j = true
  · rw [if_pos hm] at h'
    unfold shlOk at hm
    rw [Bool.and_eq_true] at hm
    refine ⟨i, j, _, rfl, rfl, ⟨of_decide_eq_true hm.1, ?_⟩, rfl, (Option.some.inj h').symm⟩
    have e : (2 : Int) ^ 27 = 134217728 := by decide
    rw [e]
    exact of_decide_eq_true hm.2
  · rw [if_neg hm] at h'; cases h'
theorem os_shr {K : Kx} {P : Pn} : OpD K P (rI (fun _ j => 0 ≤ j) fun i j => .int (i / 2 ^ j.toNat)) oShr := oi_of fun x y z h => by
  obtain ⟨i, j, rfl, rfl⟩ := ints_of h fun x y n => by cases x <;> cases y <;> first | rfl | exact (n _ _ rfl rfl).elim
  have h' : (if 0 ≤ j then some (PyData.int (i / 2 ^ j.toNat)) else none) = some z := h
  by_cases hm : 0 ≤ j
  · rw [if_pos hm] at h'
    exact ⟨i, j, _, rfl, rfl, hm, rfl, (Option.some.inj h').symm⟩
  · rw [if_neg hm] at h'; cases h'
theorem os_pow {K : Kx} {P : Pn} : OpD K P (rI CPow fun i j => .int (i ^ j.toNat)) oPow := oi_of fun x y z h => by
  obtain ⟨i, j, rfl, rfl⟩ := ints_of h fun x y n => by cases x <;> cases y <;> first | rfl | exact (n _ _ rfl rfl).elim
  have h' : (if powOk i j then some (PyData.int (i ^ j.toNat)) else none) = some z := h
  by_cases hm : powOk i j = true
  · rw [if_pos hm] at h'
    unfold powOk at hm
    rw [Bool.and_eq_true, Bool.and_eq_true] at hm
    exact ⟨i, j, _, rfl, rfl, ⟨of_decide_eq_true hm.1.1, of_decide_eq_true hm.1.2, of_decide_eq_true hm.2⟩, rfl, (Option.some.inj h').symm⟩
  · rw [if_neg hm] at h'; cases h'
abbrev rAddS2 : R2 := fun x y H Q => ∃ i j, x = .str i ∧ y = .str j ∧ i.length + j.length ≤ sizeLine ∧ Q (.str (i ++ j)) H
theorem os_add {K : Kx} {P : Pn} : OpD K P (fun x y H Q => rI0 (fun i j => .int (i + j)) x y H Q ∨ rAddS2 x y H Q) oAdd := fun {ρ σ H F v u x y z Q} r hx hy e q => by
  cases x <;> first
    | (cases y <;> first
        | (cases hx; cases hy; cases e; exact .inl ⟨_, _, rfl, rfl, q _ H F (Go.refl r) (.int _)⟩)
        | cases e)
    | skip
  case str x =>
    cases y with
    | str y =>
      have h' : (if x.length + y.length ≤ sizeLine then some (PyData.str (x ++ y)) else none) = some z := e
      by_cases hm : x.length + y.length ≤ sizeLine
      · rw [if_pos hm] at h'
        cases h'
        cases hx
        cases hy
        exact .inr ⟨x, y, rfl, rfl, hm, q _ H F (Go.refl r) (.str _)⟩
      · rw [if_neg hm] at h'; cases h'
    | _ => cases e
variable {m1 m2 m3 : M PyData}
theorem de_add (ha : DE X c a m1) (hb : DE X c b m2) : DE X c (.BinOp a .Add b pos) (lift2 oAdd m1 m2) := de_op (OpR.or op_add op_add_str) os_add ha hb
theorem de_sub (ha : DE X c a m1) (hb : DE X c b m2) : DE X c (.BinOp a .Sub b pos) (lift2 oSub m1 m2) := de_op op_sub os_sub ha hb
theorem de_mul (ha : DE X c a m1) (hb : DE X c b m2) : DE X c (.BinOp a .Mult b pos) (lift2 oMul m1 m2) := de_op op_mulX os_mul ha hb
theorem de_div (ha : DE X c a m1) (hb : DE X c b m2) : DE X c (.BinOp a .FloorDiv b pos) (lift2 oDiv m1 m2) := de_op op_fdivW os_div ha hb
theorem de_mod (ha : DE X c a m1) (hb : DE X c b m2) : DE X c (.BinOp a .Mod b pos) (lift2 oMod m1 m2) := de_op op_mod os_mod ha hb
theorem de_shl (ha : DE X c a m1) (hb : DE X c b m2) : DE X c (.BinOp a .LShift b pos) (lift2 oShl m1 m2) := de_op op_shlW os_shl ha hb
theorem de_shr (ha : DE X c a m1) (hb : DE X c b m2) : DE X c (.BinOp a .RShift b pos) (lift2 oShr m1 m2) := de_op op_shr os_shr ha hb
theorem de_pow (ha : DE X c a m1) (hb : DE X c b m2) : DE X c (.BinOp a .Pow b pos) (lift2 oPow m1 m2) := de_op op_pow os_pow ha hb
theorem de_and (ha : DE X c a m1) (hb : DE X c b m2) : DE X c (.BinOp a .BitAnd b pos) (lift2 oAnd m1 m2) := de_op L2.op_and os_and ha hb
theorem de_or (ha : DE X c a m1) (hb : DE X c b m2) : DE X c (.BinOp a .BitOr b pos) (lift2 oOr m1 m2) := de_op L2.op_or os_or ha hb
theorem de_neg (ha : DE X c a m1) : DE X c (.UnaryOp .USub a pos) (lift1 oNeg m1) := de_un un_neg (fun {ρ σ H F v x z Q} r hx e q => by
  cases x <;> first
    | (cases hx; cases e; exact ⟨_, rfl, q _ H F (Go.refl r) (.int _)⟩)
    | cases e) ha

/-! ### comparisons -/
def CmD (K : Kx) (P : Pn) (r : R2) (f : PyData → PyData → Option Bool) : Prop :=
  ∀ {ρ : Sl} {σ : St} {H F : Hp} {v u : V} {x y : PyData} {k : Bool} {Q : VK}, Rp K F ρ σ H → Dp K F v x → Dp K F u y → f x y = some k → (∀ H' F', Go K P ρ σ H F ρ σ H' F' → Q (.bl k) H') → r v u H Q
theorem de_cmp {op : CmpOp} {r : R2} {f : PyData → PyData → Option Bool} (ho : OpR X (compareOp op) r) (hf : CmD X.kx c.P r f) (ha : DE X c a m1) (hb : DE X c b m2) (hm : behindInMarks op b = false) : DE X c (.Compare a [op] [b] pos) (bD (lift2 f m1 m2)) :=
  pe_imp (pe_cmpR ho ha hb hm) fun σ H Q ⟨F, ρ, r, h⟩ => ⟨F, ρ, r, Out.mono (Out.bind (Out.bind h)) (fun x ρ1 h1 v H1 F1 g1 d1 => ⟨F1, ρ1, g1.rp, Out.mono (Out.bind h1) (fun y ρ2 h2 u H2 F2 g2 d2 => by
    obtain ⟨z, e, q⟩ := Out.of h2
    exact hf g2.rp (dp_mono g2.fr d1) d2 e fun H' F' g3 => q _ H' F' ((g1.trans g2).trans g3) (.bl z)) fun e ρ2 q cv dd H2 F2 g2 er => q cv dd H2 F2 (g1.trans g2) er⟩) fun e ρ1 q => q⟩
theorem dt_cmp {op : CmpOp} {r : R2} {f : PyData → PyData → Option Bool} (ho : OpR X (compareOp op) r) (hf : CmD X.kx c.P r f) (ha : DE X c a m1) (hb : DE X c b m2) (hm : behindInMarks op b = false) : DT X c (.Compare a [op] [b] pos) (lift2 f m1 m2) :=
  pt_imp (pt_cmpR ho ha hb hm) fun σ H Q ⟨F, ρ, r, h⟩ => ⟨F, ρ, r, Out.mono (Out.bind h) (fun x ρ1 h1 v H1 F1 g1 d1 => ⟨F1, ρ1, g1.rp, Out.mono (Out.bind h1) (fun y ρ2 h2 u H2 F2 g2 d2 => by
    obtain ⟨z, e, q⟩ := Out.of h2
    exact hf g2.rp (dp_mono g2.fr d1) d2 e fun H' F' g3 => ⟨z, rfl, q _ H' F' ((g1.trans g2).trans g3) rfl⟩) fun e ρ2 q cv dd H2 F2 g2 er => q cv dd H2 F2 (g1.trans g2) er⟩) fun e ρ1 q => q⟩
theorem ci_of {K : Kx} {P : Pn} {p : Int → Int → Bool} {f : PyData → PyData → Option Bool} (hf : ∀ x y z, f x y = some z → ∃ i j, x = .int i ∧ y = .int j ∧ z = p i j) : CmD K P (rI0 fun i j => .bl (p i j)) f := fun {ρ σ H F v u x y z Q} r hx hy e q => by
  obtain ⟨i, j, rfl, rfl, rfl⟩ := hf x y z e
  cases hx
  cases hy
  exact ⟨i, j, rfl, rfl, q H F (Go.refl r)⟩
theorem cs_lt {K : Kx} {P : Pn} : CmD K P (rI0 fun i j => .bl (decide (i < j))) oLt := ci_of fun x y z h => by
  cases x <;> first
    | (cases y <;> first
        | exact ⟨_, _, rfl, rfl, (Option.some.inj h).symm⟩
        | cases h)
    | cases h
theorem cs_le {K : Kx} {P : Pn} : CmD K P (rI0 fun i j => .bl (decide (i ≤ j))) oLe := ci_of fun x y z h => by
  cases x <;> first
    | (cases y <;> first
        | exact ⟨_, _, rfl, rfl, (Option.some.inj h).symm⟩
        | cases h)
    | cases h
theorem cs_gt {K : Kx} {P : Pn} : CmD K P (rI0 fun i j => .bl (decide (j < i))) oGt := ci_of fun x y z h => by
  cases x <;> first
    | (cases y <;> first
        | exact ⟨_, _, rfl, rfl, (Option.some.inj h).symm⟩
        | cases h)
    | cases h
theorem cs_ge {K : Kx} {P : Pn} : CmD K P (rI0 fun i j => .bl (decide (j ≤ i))) oGe := ci_of fun x y z h => by
  cases x <;> first
    | (cases y <;> first
        | exact ⟨_, _, rfl, rfl, (Option.some.inj h).symm⟩
        | cases h)
    | cases h
theorem scal_of {K : Kx} {F : Hp} {v u : V} {x y : PyData} (hx : Dp K F v x) (hy : Dp K F u y) (h : scalD x y = true) : scal v u = true ∧ decide (v = u) = PyData.eqv x y := by
  cases hx <;> cases hy <;> first
    | exact absurd (show false = true from h) Bool.false_ne_true
    | (refine ⟨rfl, ?_⟩; first | rfl | (simp only [PyData.eqv, V.int.injEq, V.bl.injEq, V.str.injEq, reduceCtorEq, decide_false, decide_true]; first | rfl | exact (Bool.beq_eq_decide_eq _ _).symm))
theorem cs_eq {K : Kx} {P : Pn} : CmD K P (fun x y H Q => rEq x y H Q ∨ rEqD K x y H Q) oEq := fun {ρ σ H F v u x y k Q} r hx hy e q => by
  unfold oEq at e
  by_cases h1 : scalD x y = true
  · rw [h1, Bool.true_or, if_pos rfl] at e
    cases e
    obtain ⟨s1, s2⟩ := scal_of hx hy h1
    exact .inl ⟨s1, by rw [s2]; exact q H F (Go.refl r)⟩
  · have h1' : scalD x y = false := by simpa using h1
    rw [h1', Bool.false_or] at e
    by_cases h2 : (SeqAt.shaped x && SeqAt.shaped y) = true
    · rw [if_pos h2] at e
      cases e
      rw [Bool.and_eq_true] at h2
      exact .inr ⟨x, y, dp_to (dp_mono r.sub hx), dp_to (dp_mono r.sub hy), h2.1, h2.2, q H F (Go.refl r)⟩
    · rw [if_neg h2] at e; cases e
theorem cs_ne {K : Kx} {P : Pn} : CmD K P (fun x y H Q => rNe x y H Q ∨ rNeD K x y H Q) oNe := fun {ρ σ H F v u x y k Q} r hx hy e q => by
  unfold oNe at e
  by_cases h1 : scalD x y = true
  · rw [h1, Bool.true_or, if_pos rfl] at e
    cases e
    obtain ⟨s1, s2⟩ := scal_of hx hy h1
    exact .inl ⟨s1, by rw [s2]; exact q H F (Go.refl r)⟩
  · have h1' : scalD x y = false := by simpa using h1
    rw [h1', Bool.false_or] at e
    by_cases h2 : (SeqAt.shaped x && SeqAt.shaped y) = true
    · rw [if_pos h2] at e
      cases e
      rw [Bool.and_eq_true] at h2
      exact .inr ⟨x, y, dp_to (dp_mono r.sub hx), dp_to (dp_mono r.sub hy), h2.1, h2.2, q H F (Go.refl r)⟩
    · rw [if_neg h2] at e; cases e
theorem none_of {K : Kx} {F : Hp} {v : V} {x : PyData} (h : Dp K F v x) : decide (v = .non) = isNone x := by
  cases h <;> rfl
theorem cs_isN {K : Kx} {P : Pn} : CmD K P (fun x y H Q => y = .non ∧ Q (.bl (decide (x = .non))) H) (fun x y => match y with | .none => some (isNone x) | _ => none) := fun {ρ σ H F v u x y k Q} r hx hy e q => by
  cases y <;> first
    | (cases e; cases hy; exact ⟨rfl, by rw [none_of hx]; exact q H F (Go.refl r)⟩)
    | cases e
theorem cs_notN {K : Kx} {P : Pn} : CmD K P (fun x y H Q => y = .non ∧ Q (.bl (!decide (x = .non))) H) (fun x y => match y with | .none => some (!isNone x) | _ => none) := fun {ρ σ H F v u x y k Q} r hx hy e q => by
  cases y <;> first
    | (cases e; cases hy; exact ⟨rfl, by rw [none_of hx]; exact q H F (Go.refl r)⟩)
    | cases e
theorem cs_isB {K : Kx} {P : Pn} : CmD K P rIsB oIsB := fun {ρ σ H F v u x y k Q} r hx hy e q => by
  cases x <;> first
    | (cases y <;> first
        | (cases e; cases hx; cases hy; exact ⟨_, _, rfl, rfl, q H F (Go.refl r)⟩)
        | cases e)
    | cases e
theorem cs_notB {K : Kx} {P : Pn} : CmD K P rNotB oNotB := fun {ρ σ H F v u x y k Q} r hx hy e q => by
  cases x <;> first
    | (cases y <;> first
        | (cases e; cases hx; cases hy; exact ⟨_, _, rfl, rfl, q H F (Go.refl r)⟩)
        | cases e)
    | cases e
theorem flat_of {K : Kx} {F : Hp} {v : V} {x : PyData} (h : Dp K F v x) : flatV v = flatD x := by
  cases h <;> rfl
theorem eqV_of {K : Kx} {F : Hp} {v u : V} {x y : PyData} (hx : Dp K F v x) (hy : Dp K F u y) (f1 : flatD x = true) (f2 : flatD y = true) : eqV v u = PyData.eqv x y := by
  cases hx <;> cases hy <;> first
    | exact absurd (show false = true from f1) Bool.false_ne_true
    | exact absurd (show false = true from f2) Bool.false_ne_true
    | rfl
    | (simp only [eqV, PyData.eqv]; done)
    | (simp only [eqV, PyData.eqv]; rfl)
theorem inV_of {K : Kx} {F : Hp} {v : V} {x : PyData} (hx : Dp K F v x) (f1 : flatD x = true) : ∀ {vs : List V} {ys : List PyData}, DpAll K F vs ys → ys.all flatD = true → vs.all flatV = true ∧ inV v vs = inD x ys
  | _, _, .nil, _ => ⟨rfl, rfl⟩
  | w :: vs, y :: ys, .cons h t, f => by
    rw [List.all_cons, Bool.and_eq_true] at f
    obtain ⟨i1, i2⟩ := inV_of hx f1 t f.2
    refine ⟨?_, ?_⟩
    · rw [List.all_cons, flat_of h, f.1, i1] <;> rfl
    · show ((w :: vs).any fun y => eqV y v) = ((y :: ys).any fun y => PyData.eqv y x)
      rw [List.any_cons, List.any_cons, eqV_of h hx f.1 f1]
      exact congrArg _ i2
theorem cs_in {K : Kx} {P : Pn} : CmD K P (rIn K false) oIn := fun {ρ σ H F v u x y k Q} r hx hy e q => by
  unfold oIn at e
  cases hy with
  | lst hs ha =>
    rename_i a vs ys
    have e' : (if (flatD x && ys.all flatD) = true then some (inD x ys) else none) = some k := e
    by_cases hf : (flatD x && ys.all flatD) = true
    · rw [if_pos hf] at e'
      cases e'
      rw [Bool.and_eq_true] at hf
      obtain ⟨i1, i2⟩ := inV_of hx hf.1 ha hf.2
      exact ⟨a, vs, rfl, .inl (rd_seq r.sub hs), by rw [flat_of hx]; exact hf.1, i1, by rw [if_neg Bool.false_ne_true, i2]; exact q H F (Go.refl r)⟩
    · rw [if_neg hf] at e'; cases e'
  | tup hs ha =>
    rename_i a vs ys
    have e' : (if (flatD x && ys.all flatD) = true then some (inD x ys) else none) = some k := e
    by_cases hf : (flatD x && ys.all flatD) = true
    · rw [if_pos hf] at e'
      cases e'
      rw [Bool.and_eq_true] at hf
      obtain ⟨i1, i2⟩ := inV_of hx hf.1 ha hf.2
      exact ⟨a, vs, rfl, .inr (sqT_mono r.sub hs), by rw [flat_of hx]; exact hf.1, i1, by rw [if_neg Bool.false_ne_true, i2]; exact q H F (Go.refl r)⟩
    · rw [if_neg hf] at e'; cases e'
  | _ => cases e
theorem cs_notIn {K : Kx} {P : Pn} : CmD K P (rIn K true) oNotIn := fun {ρ σ H F v u x y k Q} r hx hy e q => by
  unfold oNotIn at e
  cases hy with
  | lst hs ha =>
    rename_i a vs ys
    have e' : (if (flatD x && ys.all flatD) = true then some (!inD x ys) else none) = some k := e
    by_cases hf : (flatD x && ys.all flatD) = true
    · rw [if_pos hf] at e'
      cases e'
      rw [Bool.and_eq_true] at hf
      obtain ⟨i1, i2⟩ := inV_of hx hf.1 ha hf.2
      exact ⟨a, vs, rfl, .inl (rd_seq r.sub hs), by rw [flat_of hx]; exact hf.1, i1, by rw [if_pos rfl, i2]; exact q H F (Go.refl r)⟩
    · rw [if_neg hf] at e'; cases e'
  | tup hs ha =>
    rename_i a vs ys
    have e' : (if (flatD x && ys.all flatD) = true then some (!inD x ys) else none) = some k := e
    by_cases hf : (flatD x && ys.all flatD) = true
    · rw [if_pos hf] at e'
      cases e'
      rw [Bool.and_eq_true] at hf
      obtain ⟨i1, i2⟩ := inV_of hx hf.1 ha hf.2
      exact ⟨a, vs, rfl, .inr (sqT_mono r.sub hs), by rw [flat_of hx]; exact hf.1, i1, by rw [if_pos rfl, i2]; exact q H F (Go.refl r)⟩
    · rw [if_neg hf] at e'; cases e'
  | _ => cases e
/-- the rules by their operators -/
structure Cm (X : Cx) (c : Ct) (op : CmpOp) (f : PyData → PyData → Option Bool) : Prop where
  ex : ∃ r, OpR X (compareOp op) r ∧ CmD X.kx c.P r f
theorem cm_lt : Cm X c .Lt oLt := ⟨_, op_lt, cs_lt⟩
theorem cm_le : Cm X c .LtE oLe := ⟨_, op_le, cs_le⟩
theorem cm_gt : Cm X c .Gt oGt := ⟨_, op_gt, cs_gt⟩
theorem cm_ge : Cm X c .GtE oGe := ⟨_, op_ge, cs_ge⟩
theorem cm_eq (hu : X.A.units + 64 < cLine) : Cm X c .Eq oEq := ⟨_, OpR.or op_eq (op_eqD hu), cs_eq⟩
theorem cm_ne (hu : X.A.units + 64 < cLine) : Cm X c .NotEq oNe := ⟨_, OpR.or op_ne (op_neD hu), cs_ne⟩
theorem cm_in : Cm X c .In oIn := ⟨_, op_in_seq, cs_in⟩
theorem cm_notIn : Cm X c .NotIn oNotIn := ⟨_, op_notIn_seq, cs_notIn⟩
theorem cm_isN : Cm X c .Is oIsX := ⟨_, op_isN, cs_isN⟩
theorem cm_notN : Cm X c .IsNot oNotX := ⟨_, op_notN, cs_notN⟩
theorem cm_isB : Cm X c .Is oIsB := ⟨_, op_isBl, cs_isB⟩
theorem cm_notB : Cm X c .IsNot oNotB := ⟨_, op_notBl, cs_notB⟩
theorem de_cm {op : CmpOp} {f : PyData → PyData → Option Bool} (h : Cm X c op f) (ha : DE X c a m1) (hb : DE X c b m2) (hm : behindInMarks op b = false) : DE X c (.Compare a [op] [b] pos) (bD (lift2 f m1 m2)) := by
  obtain ⟨r, h1, h2⟩ := h.ex
  exact de_cmp h1 h2 ha hb hm
theorem dt_cm {op : CmpOp} {f : PyData → PyData → Option Bool} (h : Cm X c op f) (ha : DE X c a m1) (hb : DE X c b m2) (hm : behindInMarks op b = false) : DT X c (.Compare a [op] [b] pos) (lift2 f m1 m2) := by
  obtain ⟨r, h1, h2⟩ := h.ex
  exact dt_cmp h1 h2 ha hb hm
theorem de_chain {op op' : CmpOp} {f f' : PyData → PyData → Option Bool} (h : Cm X c op f) (h' : Cm X c op' f') (ha : DE X c a m1) (hb : DE X c b m2) (hd : DE X c d m3) (hm : lastMarks [op, op'] [b, d] = false) :
    DE X c (.Compare a [op, op'] [b, d] pos) (bD (tChain f f' m1 m2 m3)) := by
  obtain ⟨r, h1, h2⟩ := h.ex
  obtain ⟨r', h1', h2'⟩ := h'.ex
  refine pe_imp (pe_chain h1 h1' ha hb hd hm) fun σ H Q ⟨F, ρ, r, h⟩ => ⟨F, ρ, r, Out.mono (Out.bind (Out.bind h)) (fun x ρ1 q1 v H1 F1 g1 d1 => ⟨F1, ρ1, g1.rp, Out.mono (Out.bind q1) (fun y ρ2 q2 u H2 F2 g2 d2 => ?_) fun e ρ2 q cv dd H2 F2 g2 er => q cv dd H2 F2 (g1.trans g2) er⟩) fun e ρ1 q => q⟩
  obtain ⟨k, e, q3⟩ := Out.of (Out.bind q2)
  refine h2 g2.rp (dp_mono g2.fr d1) d2 e fun H3 F3 g3 => ⟨k, rfl, ?_⟩
  cases k with
  | false =>
    rw [if_neg Bool.false_ne_true] at q3 ⊢
    exact q3 _ H3 F3 ((g1.trans g2).trans g3) (.bl false)
  | true =>
    rw [if_pos rfl] at q3 ⊢
    refine ⟨F3, ρ2, g3.rp, Out.mono (Out.bind q3) (fun z ρ3 q4 w H4 F4 g4 d4 => ?_) fun e ρ2 q cv dd H2 F2 g4 er => q cv dd H2 F2 (((g1.trans g2).trans g3).trans g4) er⟩
    obtain ⟨k2, e2, q5⟩ := Out.of q4
    exact h2' g4.rp (dp_mono (g3.fr.trans g4.fr) d2) d4 e2 fun H5 F5 g5 => q5 _ H5 F5 ((((g1.trans g2).trans g3).trans g4).trans g5) (.bl k2)
theorem dt_chain {op op' : CmpOp} {f f' : PyData → PyData → Option Bool} (h : Cm X c op f) (h' : Cm X c op' f') (ha : DE X c a m1) (hb : DE X c b m2) (hd : DE X c d m3) (hm : lastMarks [op, op'] [b, d] = false) :
    DT X c (.Compare a [op, op'] [b, d] pos) (tChain f f' m1 m2 m3) := by
  obtain ⟨r, h1, h2⟩ := h.ex
  obtain ⟨r', h1', h2'⟩ := h'.ex
  refine pt_imp (pt_chain h1 h1' ha hb hd hm) fun σ H Q ⟨F, ρ, r, h⟩ => ⟨F, ρ, r, Out.mono (Out.bind h) (fun x ρ1 q1 v H1 F1 g1 d1 => ⟨F1, ρ1, g1.rp, Out.mono (Out.bind q1) (fun y ρ2 q2 u H2 F2 g2 d2 => ?_) fun e ρ2 q cv dd H2 F2 g2 er => q cv dd H2 F2 (g1.trans g2) er⟩) fun e ρ1 q => q⟩
  obtain ⟨k, e, q3⟩ := Out.of (Out.bind q2)
  refine h2 g2.rp (dp_mono g2.fr d1) d2 e fun H3 F3 g3 => ⟨k, rfl, ?_⟩
  cases k with
  | false =>
    rw [if_neg Bool.false_ne_true] at q3 ⊢
    exact ⟨false, rfl, q3 _ H3 F3 ((g1.trans g2).trans g3) rfl⟩
  | true =>
    rw [if_pos rfl] at q3 ⊢
    refine ⟨F3, ρ2, g3.rp, Out.mono (Out.bind q3) (fun z ρ3 q4 w H4 F4 g4 d4 => ?_) fun e ρ2 q cv dd H2 F2 g4 er => q cv dd H2 F2 (((g1.trans g2).trans g3).trans g4) er⟩
    obtain ⟨k2, e2, q5⟩ := Out.of q4
    exact h2' g4.rp (dp_mono (g3.fr.trans g4.fr) d2) d4 e2 fun H5 F5 g5 => ⟨k2, rfl, q5 _ H5 F5 ((((g1.trans g2).trans g3).trans g4).trans g5) rfl⟩

/-! ### tests -/
variable {t1 t2 : M Bool} {rest : List Expr}
theorem tb_of {Q : Bool → Hp → Prop} {σ : St} {H : Hp} {m : M PyData} (h : Tr X.kx c RB (DL.tD m) σ H Q) : Tr X.kx c (RD X.kx) m σ H (fun x H1 => ∃ k, x = .bl k ∧ Q k H1) := by
  obtain ⟨F, ρ, r, h⟩ := h
  refine ⟨F, ρ, r, Out.mono (Out.bind h) (fun x ρ1 q v H1 F1 g1 d1 => ?_) fun e ρ1 q => q⟩
  cases x <;> first
    | (cases d1; exact ⟨_, rfl, q _ H1 F1 g1 rfl⟩)
    | exact q.elim
theorem dt_val (h : DE X c a m1) (he : ∀ whole, isTrue a X.env whole = (do let v ← whole; standAt a.pos; holding [v] (truthy v))) : DT X c a (DL.tD m1) := pt_imp (pt_val h he) fun σ H Q q => tb_of q
theorem truV_of {K : Kx} {F H : Hp} {v : V} {x : PyData} {k : Bool} (s : Same F H) (h : Dp K F v x) (e : truD x = some k) : TruV K v H k := by
  cases h with
  | non => exact (Option.some.inj e).symm
  | bl b => exact (Option.some.inj e).symm
  | int i => exact (Option.some.inj e).symm
  | str z =>
    have e' : (if z.length ≤ sizeLine then some ((z.length : Int) != 0) else none) = some k := e
    by_cases hz : z.length ≤ sizeLine
    · rw [if_pos hz] at e'
      exact ⟨hz, (Option.some.inj e').symm⟩
    · rw [if_neg hz] at e'; cases e'
  | lst hs ha =>
    have e' := Option.some.inj e
    refine .inl ⟨_, rd_seq s hs, ?_⟩
    rw [← e']
    cases ha <;> rfl
  | tup hs ha =>
    have e' := Option.some.inj e
    refine .inr (.inl ⟨_, sqT_mono s hs, ?_⟩)
    rw [← e']
    cases ha <;> rfl
theorem dt_tru (h : DE X c a m1) (he : ∀ whole, isTrue a X.env whole = (do let v ← whole; standAt a.pos; holding [v] (truthy v))) : DT X c a (tTru m1) := pt_imp (pt_truth h he) fun σ H Q ⟨F, ρ, r, q⟩ =>
  ⟨F, ρ, r, Out.mono (Out.bind q) (fun x ρ1 q1 v H1 F1 g1 d1 => by
    obtain ⟨k, e, q2⟩ := Out.of q1
    exact ⟨k, truV_of g1.rp.sub d1 e, q2 _ H1 F1 g1 rfl⟩) fun e ρ1 q => q⟩
theorem dt_not (h : DT X c a t1) : DT X c (.UnaryOp .Not a pos) (DL.tNot t1) := pt_imp (pt_not h) fun σ H Q ⟨F, ρ, r, q⟩ =>
  ⟨F, ρ, r, Out.mono (Out.bind q) (fun x ρ1 q1 v H1 F1 g1 d1 => by
    cases d1
    exact q1 _ H1 F1 g1 rfl) fun e ρ1 q => q⟩
theorem dw_and1 (h : DT X c a t1) : DW X c (.BoolOp .And [a] pos) t1 := pw_and1 h
theorem dw_or1 (h : DT X c a t1) : DW X c (.BoolOp .Or [a] pos) t1 := pw_or1 h
theorem dw_and (ha : DT X c a t1) (hb : DW X c (.BoolOp .And (b :: rest) pos) t2) : DW X c (.BoolOp .And (a :: b :: rest) pos) (DL.tAnd t1 t2) := pw_imp (pw_and ha hb) fun σ H Q ⟨F, ρ, r, q⟩ =>
  ⟨F, ρ, r, Out.mono (Out.bind q) (fun x ρ1 q1 v H1 F1 g1 d1 => by
    cases d1
    cases x with
    | true => exact ⟨F1, ρ1, g1.rp, T1.base g1 (fun _ _ _ _ _ _ z => z) q1⟩
    | false => exact q1 _ H1 F1 g1 rfl) fun e ρ1 q => q⟩
theorem dw_or (ha : DT X c a t1) (hb : DW X c (.BoolOp .Or (b :: rest) pos) t2) : DW X c (.BoolOp .Or (a :: b :: rest) pos) (DL.tOr t1 t2) := pw_imp (pw_or ha hb) fun σ H Q ⟨F, ρ, r, q⟩ =>
  ⟨F, ρ, r, Out.mono (Out.bind q) (fun x ρ1 q1 v H1 F1 g1 d1 => by
    cases d1
    cases x with
    | false => exact ⟨F1, ρ1, g1.rp, T1.base g1 (fun _ _ _ _ _ _ z => z) q1⟩
    | true => exact q1 _ H1 F1 g1 rfl) fun e ρ1 q => q⟩
theorem dt_w (h : DW X c a t1) : DT X c a t1 := PW.pt h
theorem de_andV (ha : DE X c a m1) (hb : DE X c (.BoolOp .And (b :: rest) pos) m2) : DE X c (.BoolOp .And (a :: b :: rest) pos) (mAnd m1 m2) := pe_imp (pe_and ha hb) fun σ H Q ⟨F, ρ, r, q⟩ =>
  ⟨F, ρ, r, Out.mono (Out.bind q) (fun x ρ1 q1 v H1 F1 g1 d1 => by
    cases x <;> first
      | (cases d1
         rename_i k
         refine ⟨k, rfl, ?_⟩
         cases k with
         | true => exact ⟨F1, ρ1, g1.rp, T1.base g1 (fun _ _ _ _ _ _ z => z) q1⟩
         | false => exact q1 _ H1 F1 g1 (.bl false))
      | exact q1.elim) fun e ρ1 q => q⟩
theorem de_orV (ha : DE X c a m1) (hb : DE X c (.BoolOp .Or (b :: rest) pos) m2) : DE X c (.BoolOp .Or (a :: b :: rest) pos) (mOr m1 m2) := pe_imp (pe_or ha hb) fun σ H Q ⟨F, ρ, r, q⟩ =>
  ⟨F, ρ, r, Out.mono (Out.bind q) (fun x ρ1 q1 v H1 F1 g1 d1 => by
    cases x <;> first
      | (cases d1
         rename_i k
         refine ⟨k, rfl, ?_⟩
         cases k with
         | false => exact ⟨F1, ρ1, g1.rp, T1.base g1 (fun _ _ _ _ _ _ z => z) q1⟩
         | true => exact q1 _ H1 F1 g1 (.bl true))
      | exact q1.elim) fun e ρ1 q => q⟩
theorem de_one {op} (h : DE X c a m1) : DE X c (.BoolOp op [a] pos) m1 := pe_one h
theorem de_notV (ha : DE X c a m1) : DE X c (.UnaryOp .Not a pos) (mNot m1) := pe_imp (pe_not ha) fun σ H Q ⟨F, ρ, r, q⟩ =>
  ⟨F, ρ, r, Out.mono (Out.bind q) (fun x ρ1 q1 v H1 F1 g1 d1 => by
    cases x <;> first
      | (cases d1; exact ⟨_, rfl, q1 _ H1 F1 g1 (.bl _)⟩)
      | exact q1.elim) fun e ρ1 q => q⟩
theorem rc_base {K : Kx} {P : Pn} {F F1 : Hp} {ρ ρ1 : Sl} {σ σ1 : St} {H H1 : Hp} (g : Go K P ρ σ H F ρ1 σ1 H1 F1) {ρ' : Sl} {σ' : St} {H' F' : Hp} {a : C} {v : V} (r : RC K (Fr ρ1 σ1 H1) ρ' σ' H' F' a v) : RC K (Fr ρ σ H) ρ' σ' H' F' a v := by
  cases a with
  | d x => exact r
  | f x => exact r
  | l x => obtain ⟨p, o, h1, h2, h3⟩ := r; exact ⟨p, o, h1, g.fr0 h2, h3⟩
  | k x => obtain ⟨p, o, h1, h2, h3⟩ := r; exact ⟨p, o, h1, g.fr0 h2, h3⟩
  | t x => obtain ⟨p, o, h1, h2, h3⟩ := r; exact ⟨p, o, h1, g.fr0 h2, h3⟩
theorem de_if (ht : DT X c d t1) (ha : DE X c a m1) (hb : DE X c b m2) : DE X c (.IfExp d a b pos) (mIf t1 m1 m2) := pe_imp (pe_ifExp ht ha hb) fun σ H Q ⟨F, ρ, r, q⟩ =>
  ⟨F, ρ, r, Out.mono (Out.bind q) (fun x ρ1 q1 v H1 F1 g1 d1 => by
    cases d1
    cases x with
    | true => exact ⟨F1, ρ1, g1.rp, T1.base g1 (fun _ _ _ _ _ _ z => z) q1⟩
    | false => exact ⟨F1, ρ1, g1.rp, T1.base g1 (fun _ _ _ _ _ _ z => z) q1⟩) fun e ρ1 q => q⟩
theorem do_if {n1 n2 : M C} (ht : DT X c d t1) (ha : DO X c a n1) (hb : DO X c b n2) : DO X c (.IfExp d a b pos) (mIf t1 n1 n2) := pe_imp (pe_ifExp ht ha hb) fun σ H Q ⟨F, ρ, r, q⟩ =>
  ⟨F, ρ, r, Out.mono (Out.bind q) (fun x ρ1 q1 v H1 F1 g1 d1 => by
    cases d1
    cases x with
    | true => exact ⟨F1, ρ1, g1.rp, T1.base g1 (fun _ _ _ _ _ _ z => rc_base g1 z) q1⟩
    | false => exact ⟨F1, ρ1, g1.rp, T1.base g1 (fun _ _ _ _ _ _ z => rc_base g1 z) q1⟩) fun e ρ1 q => q⟩

/-! ### contents as data, data as contents -/
theorem do_d (h : DE X c a m1) : DO X c a (mDat m1) := pe_imp h fun σ H Q ⟨F, ρ, r, q⟩ => ⟨F, ρ, r, Out.mono (Out.bind q) (fun x ρ1 q1 v H1 F1 g1 d1 => q1 v H1 F1 g1 d1) fun e ρ1 q => q⟩
theorem de_frz {n1 : M C} (h : DO X c a n1) : DE X c a (mFrz n1) := pe_imp h fun σ H Q ⟨F, ρ, r, q⟩ => ⟨F, ρ, r, Out.mono (Out.bind q) (fun x ρ1 q1 v H1 F1 g1 d1 => by
  cases x with
  | d x => exact q1 v H1 F1 g1 d1
  | l xs =>
    obtain ⟨p, o, rfl, h0, hF, hH, ho, no⟩ := d1
    obtain ⟨vs, rfl, h5⟩ := isO_l ho
    exact q1 _ H1 _ (g1.share h0 hH hF no) (.lst (.inl upd_same) (dpAll_mono (same_upd hF) h5))
  | _ => exact q1.elim) fun e ρ1 q => q⟩
end
end DL

set_option Elab.async false
set_option linter.all false
set_option maxRecDepth 100000
set_option maxHeartbeats 2000000
namespace DL
open PySem PySem.Spec PyProof.Rows L2

/-! ### lists of data -/
def RL (K : Kx) : FR → Sl → St → Hp → Hp → List PyData → List V → Prop := fun _ _ _ _ F' ds vs => DpAll K F' vs ds
abbrev DA (X : Cx) (c : Ct) (es : List Expr) (m : M (List PyData)) : Prop := PA X es (Tr X.kx c (RL X.kx) m)
section
variable {X : Cx} {c : Ct} {e a b d : Expr} {es : List Expr} {pos p : Pos} {m1 m2 m3 : M PyData} {ms : List (M PyData)} {x : Str}
theorem da_nil : DA X c [] (mSeq []) := pa_imp pa_nil fun σ H Q ⟨F, ρ, r, h⟩ => h _ H F (Go.refl r) .nil
theorem da_cons (ha : DE X c e m1) (hr : DA X c es (mSeq ms)) (hs : starEach (e :: es) X.env = (false, eval e X.env) :: starEach es X.env := by rfl) : DA X c (e :: es) (mSeq (m1 :: ms)) :=
  pa_imp (pa_cons ha hr hs) fun σ H Q ⟨F, ρ, r, h⟩ => ⟨F, ρ, r, Out.mono (Out.bind h) (fun x ρ1 h1 v H1 F1 g1 d1 => ⟨F1, ρ1, g1.rp, Out.mono (Out.bind h1) (fun ys ρ2 h2 vs H2 F2 g2 d2 =>
    h2 _ H2 F2 (g1.trans g2) (.cons (dp_mono g2.fr d1) d2)) fun e ρ2 q cv dd H2 F2 g2 er => q cv dd H2 F2 (g1.trans g2) er⟩) fun e ρ1 q => q⟩
theorem Out.bind' {α β : Type} {m : M α} {f : α → M β} {ρ : Sl} {P : β → Sl → Prop} {E : Exc → Sl → Prop} (h : Out (m ρ) (fun a ρ1 => Out (f a ρ1) P E) E) : Out (M.bind m f ρ) P E := by
  unfold M.bind
  cases e : m ρ with
  | ok a ρ1 => rw [e] at h; exact h
  | err x ρ1 => rw [e] at h; exact h
  | stuck => rw [e] at h; exact h
theorem mseq_len : ∀ (ms : List (M PyData)) (ρ : Sl) (P : List PyData → Sl → Prop) (E : Exc → Sl → Prop), Out (mSeq ms ρ) P E → Out (mSeq ms ρ) (fun xs ρ' => xs.length = ms.length ∧ P xs ρ') E
  | [], ρ, P, E, h => ⟨rfl, h⟩
  | m :: r, ρ, P, E, h => by
    refine Out.bind' (Out.mono (Out.bind h) (fun a ρ1 h1 => ?_) fun e ρ1 q => q)
    refine Out.bind' (Out.mono (mseq_len r ρ1 _ _ (Out.bind h1)) (fun b ρ2 h2 => ?_) fun e ρ1 q => q)
    exact ⟨by rw [List.length_cons, List.length_cons, h2.1], h2.2⟩
theorem de_tup {x1} (h : DA X c es (mSeq ms)) (hl : ms.length ≤ 1000 := by decide) : DE X c (.Tuple es x1 pos) (mTup ms) := pe_imp (pe_tup h) fun σ H Q ⟨F, ρ, r, q⟩ =>
  ⟨F, ρ, r, Out.mono (mseq_len _ _ _ _ (Out.bind q)) (fun ys ρ1 ⟨l, q1⟩ vs H1 F1 g1 d1 => ⟨by
    rw [dpa_len d1, l]
    exact Nat.le_of_lt (small1000 hl), fun p hp => q1 _ _ _ (g1.trans (Go.data g1.rp hp (.tup vs))) (.tup (.inl (.inl upd_same)) (dpAll_mono (same_upd (g1.rp.free hp)) d1))⟩) fun e ρ1 q => q⟩
theorem do_lst (h : DA X c es (mSeq ms)) (hl : ms.length ≤ 1000 := by decide) : DO X c (.List es pos) (mLst ms) := pe_imp (pe_lst h) fun σ H Q ⟨F, ρ, r, q⟩ =>
  ⟨F, ρ, r, Out.mono (mseq_len _ _ _ _ (Out.bind q)) (fun ys ρ1 ⟨l, q1⟩ vs H1 F1 g1 d1 => ⟨by
    rw [dpa_len d1, l]
    exact Nat.le_of_lt (small1000 hl), fun p hp => q1 _ _ F1 (g1.trans (Go.temp g1.rp hp (.lst vs))) ⟨p, .lst vs, rfl, .inl (g1.back hp), g1.rp.free hp, upd_same, d1, fun z => by
      obtain ⟨_, o, y⟩ := g1.rp.notOwn z
      rw [hp] at y; cases y⟩⟩) fun e ρ1 q => q⟩

/-! ### built-in functions of one and two arguments -/
def CaD (K : Kx) (P : Pn) (r : List V → Hp → VK → Prop) (f : List PyData → Option PyData) : Prop :=
  ∀ {ρ : Sl} {σ : St} {H F : Hp} {vs : List V} {xs : List PyData} {z : PyData} {Q : VK}, Rp K F ρ σ H → DpAll K F vs xs → f xs = some z → (∀ w H' F', Go K P ρ σ H F ρ σ H' F' → Dp K F' w z → Q w H') → r vs H Q
def CaO (K : Kx) (P : Pn) (r : List V → Hp → VK → Prop) (f : List PyData → Option C) : Prop :=
  ∀ {ρ : Sl} {σ : St} {H F : Hp} {vs : List V} {xs : List PyData} {z : C} {Q : VK}, Rp K F ρ σ H → DpAll K F vs xs → f xs = some z → (∀ w H' F', Go K P ρ σ H F ρ σ H' F' → RC K (Fr ρ σ H) ρ σ H' F' z w → Q w H') → r vs H Q
theorem ca_use {r : List V → Hp → VK → Prop} {f : List PyData → Option PyData} {m : M (List PyData)} (hf : CaD X.kx c.P r f) {σ : St} {H : Hp} {Q : VK} (h : Tr X.kx c (RD X.kx) (liftL f m) σ H Q) : Tr X.kx c (RL X.kx) m σ H (fun vs H1 => r vs H1 Q) := by
  obtain ⟨F, ρ, r, q⟩ := h
  refine ⟨F, ρ, r, Out.mono (Out.bind q) (fun ys ρ1 q1 vs H1 F1 g1 d1 => ?_) fun e ρ1 q => q⟩
  obtain ⟨z, e, q2⟩ := Out.of q1
  exact hf g1.rp d1 e fun w H' F' g' d' => q2 w H' F' (g1.trans g') d'
theorem co_use {r : List V → Hp → VK → Prop} {f : List PyData → Option C} {m : M (List PyData)} (hf : CaO X.kx c.P r f) {σ : St} {H : Hp} {Q : VK} (h : Tr X.kx c (RC X.kx) (liftL f m) σ H Q) : Tr X.kx c (RL X.kx) m σ H (fun vs H1 => r vs H1 Q) := by
  obtain ⟨F, ρ, r, q⟩ := h
  refine ⟨F, ρ, r, Out.mono (Out.bind q) (fun ys ρ1 q1 vs H1 F1 g1 d1 => ?_) fun e ρ1 q => q⟩
  obtain ⟨z, e, q2⟩ := Out.of q1
  exact hf g1.rp d1 e fun w H' F' g' d' => q2 w H' F' (g1.trans g') (rc_base g1 d')
theorem de_callB {id : String} {r : List V → Hp → VK → Prop} {f : List PyData → Option PyData} {m : M (List PyData)} (hc : CallR X (.builtin id) r) (hf : CaD X.kx c.P r f) (hg : Gl X x) (hm : X.mg x = none) (hv : bootBuiltins x = some (.builtin id)) (ha : DA X c (e :: es) m)
    (hn : x ≠ "__name__" := by decide) (hdb : (x == ("__debug__" : Str)) = false := by decide) (he : starEach (e :: es) X.env = (false, eval e X.env) :: starEach es X.env := by rfl) (hpl : (backTo pos (starEach es X.env)).any (·.1) = false := by rfl) :
    DE X c (.Call (.Name x p) (e :: es) [] pos) (liftL f m) := pe_imp (pe_callB hc hg hm hv ha hn hdb he hpl) fun σ H Q q => ca_use hf q
theorem de_callTy {id : String} {r : List V → Hp → VK → Prop} {f : List PyData → Option PyData} {m : M (List PyData)} (hc : CallR X (.type id) r) (hf : CaD X.kx c.P r f) (hg : Gl X x) (hm : X.mg x = none) (hv : bootBuiltins x = some (.type id)) (ha : DA X c (e :: es) m)
    (hn : x ≠ "__name__" := by decide) (hdb : (x == ("__debug__" : Str)) = false := by decide) (he : starEach (e :: es) X.env = (false, eval e X.env) :: starEach es X.env := by rfl) (hpl : (backTo pos (starEach es X.env)).any (·.1) = false := by rfl) :
    DE X c (.Call (.Name x p) (e :: es) [] pos) (liftL f m) := pe_imp (pe_callTy hc hg hm hv ha hn hdb he hpl) fun σ H Q q => ca_use hf q
theorem do_callTy {id : String} {r : List V → Hp → VK → Prop} {f : List PyData → Option C} {m : M (List PyData)} (hc : CallR X (.type id) r) (hf : CaO X.kx c.P r f) (hg : Gl X x) (hm : X.mg x = none) (hv : bootBuiltins x = some (.type id)) (ha : DA X c (e :: es) m)
    (hn : x ≠ "__name__" := by decide) (hdb : (x == ("__debug__" : Str)) = false := by decide) (he : starEach (e :: es) X.env = (false, eval e X.env) :: starEach es X.env := by rfl) (hpl : (backTo pos (starEach es X.env)).any (·.1) = false := by rfl) :
    DO X c (.Call (.Name x p) (e :: es) [] pos) (liftL f m) := pe_imp (pe_callTy hc hg hm hv ha hn hdb he hpl) fun σ H Q q => co_use hf q
/-- one, two arguments -/
theorem on1_some {α : Type} {f : PyData → Option α} {xs : List PyData} {z : α} (h : on1 f xs = some z) : ∃ x, xs = [x] ∧ f x = some z := by
  match xs, h with
  | [x], h => exact ⟨x, rfl, h⟩
theorem on2_some {α : Type} {f : PyData → PyData → Option α} {xs : List PyData} {z : α} (h : on2 f xs = some z) : ∃ x y, xs = [x, y] ∧ f x y = some z := by
  match xs, h with
  | [x, y], h => exact ⟨x, y, rfl, h⟩
theorem dpa_1 {K : Kx} {F : Hp} {vs : List V} {x : PyData} (h : DpAll K F vs [x]) : ∃ v, vs = [v] ∧ Dp K F v x := by
  cases h with
  | cons h t => cases t; exact ⟨_, rfl, h⟩
theorem dpa_2 {K : Kx} {F : Hp} {vs : List V} {x y : PyData} (h : DpAll K F vs [x, y]) : ∃ v u, vs = [v, u] ∧ Dp K F v x ∧ Dp K F u y := by
  cases h with
  | cons h t =>
    obtain ⟨u, rfl, h2⟩ := dpa_1 t
    exact ⟨_, u, rfl, h, h2⟩
theorem ca_abs {K : Kx} {P : Pn} : CaD K P (fun xs H Q => ∃ i, xs = [.int i] ∧ Q (.int (if i < 0 then -i else i)) H) (on1 oAbs) := fun {ρ σ H F vs xs z Q} r d e q => by
  obtain ⟨x, rfl, e⟩ := on1_some e
  obtain ⟨v, rfl, d0⟩ := dpa_1 d
  cases x <;> first
    | (cases e; cases d0; exact ⟨_, rfl, q _ H F (Go.refl r) (.int _)⟩)
    | cases e
theorem ca_max2 {K : Kx} {P : Pn} : CaD K P (fun xs H Q => ∃ i j, xs = [.int i, .int j] ∧ Q (.int (if j > i then j else i)) H) (on2 oMax) := fun {ρ σ H F vs xs z Q} r d e q => by
  obtain ⟨x, y, rfl, e⟩ := on2_some e
  obtain ⟨v, u, rfl, d1, d2⟩ := dpa_2 d
  cases x <;> first
    | (cases y <;> first
        | (cases e; cases d1; cases d2; exact ⟨_, _, rfl, q _ H F (Go.refl r) (.int _)⟩)
        | cases e)
    | cases e
theorem ca_min2 {K : Kx} {P : Pn} : CaD K P (fun xs H Q => ∃ i j, xs = [.int i, .int j] ∧ Q (.int (if j < i then j else i)) H) (on2 oMin) := fun {ρ σ H F vs xs z Q} r d e q => by
  obtain ⟨x, y, rfl, e⟩ := on2_some e
  obtain ⟨v, u, rfl, d1, d2⟩ := dpa_2 d
  cases x <;> first
    | (cases y <;> first
        | (cases e; cases d1; cases d2; exact ⟨_, _, rfl, q _ H F (Go.refl r) (.int _)⟩)
        | cases e)
    | cases e
theorem ca_int {K : Kx} {P : Pn} : CaD K P (fun xs H Q => (∃ i, xs = [.int i] ∧ Q (.int i) H) ∨ ∃ k, xs = [.bl k] ∧ Q (.int (if k then 1 else 0)) H) (on1 oInt) := fun {ρ σ H F vs xs z Q} r d e q => by
  obtain ⟨x, rfl, e⟩ := on1_some e
  obtain ⟨v, rfl, d0⟩ := dpa_1 d
  cases x with
  | int i => cases e; cases d0; exact .inl ⟨_, rfl, q _ H F (Go.refl r) (.int _)⟩
  | bool i => cases e; cases d0; exact .inr ⟨_, rfl, q _ H F (Go.refl r) (.int _)⟩
  | _ => cases e
theorem ca_len {K : Kx} {P : Pn} : CaD K P (fun xs H Q => ∃ x n, xs = [x] ∧ LenV K x H n ∧ Q (.int n) H) (on1 oLen) := fun {ρ σ H F vs xs z Q} r d e q => by
  obtain ⟨x, rfl, e⟩ := on1_some e
  obtain ⟨v, rfl, d0⟩ := dpa_1 d
  cases d0 with
  | lst hs ha => cases e; exact ⟨_, _, rfl, .inl ⟨_, rd_seq r.sub hs, rfl⟩, by rw [dpa_len ha]; exact q _ H F (Go.refl r) (.int _)⟩
  | tup hs ha => cases e; exact ⟨_, _, rfl, .inr ⟨_, sqT_mono r.sub hs, rfl⟩, by rw [dpa_len ha]; exact q _ H F (Go.refl r) (.int _)⟩
  | str s =>
    have e' : (if s.length ≤ sizeLine then some (PyData.int s.length) else none) = some z := e
    by_cases hz : s.length ≤ sizeLine
    · rw [if_pos hz] at e'
      cases e'
      exact ⟨_, _, rfl, ⟨hz, rfl⟩, q _ H F (Go.refl r) (.int _)⟩
    · rw [if_neg hz] at e'; cases e'
  | _ => cases e
theorem bools_of {K : Kx} {F : Hp} : ∀ {vs : List V} {xs : List PyData} {bs : List Bool}, DpAll K F vs xs → boolsD xs = some bs → vs = bs.map V.bl
  | _, _, bs, .nil, e => by cases e; rfl
  | v :: vs, x :: xs, bs, .cons h t, e => by
    cases h with
    | bl b =>
      have e' : (boolsD xs).map (fun t => b :: t) = some bs := e
      obtain ⟨t', e1, rfl⟩ := Option.map_eq_some_iff.mp e'
      rw [bools_of t e1] <;> rfl
    | _ => cases e
theorem ints_ofD {K : Kx} {F : Hp} : ∀ {vs : List V} {xs : List PyData} {bs : List Int}, DpAll K F vs xs → intsD xs = some bs → vs = bs.map V.int
  | _, _, bs, .nil, e => by cases e; rfl
  | v :: vs, x :: xs, bs, .cons h t, e => by
    cases h with
    | int b =>
      have e' : (intsD xs).map (fun t => b :: t) = some bs := e
      obtain ⟨t', e1, rfl⟩ := Option.map_eq_some_iff.mp e'
      rw [ints_ofD t e1] <;> rfl
    | _ => cases e
theorem ca_all {K : Kx} {P : Pn} : CaD K P (rAll K) (on1 oAll) := fun {ρ σ H F vs xs z Q} r d e q => by
  obtain ⟨x, rfl, e⟩ := on1_some e
  obtain ⟨v, rfl, d0⟩ := dpa_1 d
  cases d0 with
  | lst hs ha =>
    rename_i a ws ys e0
    have e' : (boolsD ys).map (fun bs => PyData.bool (bs.all id)) = some z := e
    obtain ⟨bs, e1, rfl⟩ := Option.map_eq_some_iff.mp e'
    have e2 := bools_of ha e1
    subst e2
    exact ⟨a, bs, rfl, rd_seq r.sub hs, q _ H F (Go.refl r) (.bl _)⟩
  | _ => cases e
theorem ca_any {K : Kx} {P : Pn} : CaD K P (rAny K) (on1 oAny) := fun {ρ σ H F vs xs z Q} r d e q => by
  obtain ⟨x, rfl, e⟩ := on1_some e
  obtain ⟨v, rfl, d0⟩ := dpa_1 d
  cases d0 with
  | lst hs ha =>
    rename_i a ws ys e0
    have e' : (boolsD ys).map (fun bs => PyData.bool (bs.any id)) = some z := e
    obtain ⟨bs, e1, rfl⟩ := Option.map_eq_some_iff.mp e'
    have e2 := bools_of ha e1
    subst e2
    exact ⟨a, bs, rfl, rd_seq r.sub hs, q _ H F (Go.refl r) (.bl _)⟩
  | _ => cases e
theorem no_own {K : Kx} {F : Hp} {ρ : Sl} {σ : St} {H : Hp} (r : Rp K F ρ σ H) {p : Addr} (h : H p = none) : ¬ Own ρ σ p := fun z => by
  obtain ⟨_, o, y⟩ := r.notOwn z
  rw [h] at y; cases y
theorem co_list {K : Kx} {P : Pn} : CaO K P (fun xs H Q => ∃ p ys, xs = [.ref p] ∧ (SqL K H p ys ∨ SqT K H p ys) ∧ ∀ l, H l = none → Q (.ref l) (upd H l (.lst ys))) (on1 oListC) := fun {ρ σ H F vs xs z Q} r d e q => by
  obtain ⟨x, rfl, e⟩ := on1_some e
  obtain ⟨v, rfl, d0⟩ := dpa_1 d
  cases d0 with
  | lst hs ha => cases e; exact ⟨_, _, rfl, .inl (rd_seq r.sub hs), fun l hl => q _ _ F (Go.temp r hl _) ⟨l, _, rfl, .inl hl, r.free hl, upd_same, ha, no_own r hl⟩⟩
  | tup hs ha => cases e; exact ⟨_, _, rfl, .inr (sqT_mono r.sub hs), fun l hl => q _ _ F (Go.temp r hl _) ⟨l, _, rfl, .inl hl, r.free hl, upd_same, ha, no_own r hl⟩⟩
  | _ => cases e
theorem ca_tuple {K : Kx} {P : Pn} : CaD K P (fun xs H Q => ∃ p ys, xs = [.ref p] ∧ ((SqL K H p ys ∧ ∀ l, H l = none → Q (.ref l) (upd H l (.tup ys))) ∨ (SqT K H p ys ∧ Q (.ref p) H))) (on1 oTuple) := fun {ρ σ H F vs xs z Q} r d e q => by
  obtain ⟨x, rfl, e⟩ := on1_some e
  obtain ⟨v, rfl, d0⟩ := dpa_1 d
  cases d0 with
  | lst hs ha => cases e; exact ⟨_, _, rfl, .inl ⟨rd_seq r.sub hs, fun l hl => q _ _ _ (Go.data r hl _) (.tup (.inl (.inl upd_same)) (dpAll_mono (same_upd (r.free hl)) ha))⟩⟩
  | tup hs ha => cases e; exact ⟨_, _, rfl, .inr ⟨sqT_mono r.sub hs, q _ H F (Go.refl r) (.tup hs ha)⟩⟩
  | _ => cases e
/-! ### isinstance -/
def tyN : Ty → String
  | .int => "int" | .bool => "bool" | .str => "str" | .list => "list" | .tuple => "tuple"
def dTy : PyData → String
  | .none => "NoneType" | .bool _ => "bool" | .int _ => "int" | .str _ => "str" | .list _ => "list" | .tuple _ => "tuple" | .dict _ => "dict"
theorem tyX_of {K : Kx} {F : Hp} {v : V} {x : PyData} (h : Dp K F v x) : TyX K F v (.type (dTy x)) := by
  cases h with
  | non => exact .base .non
  | bl b => exact .base (.bl b)
  | int i => exact .base (.int i)
  | str x => exact .base (.str x)
  | lst hs ha =>
    rcases hs with h | ⟨o, h⟩
    · exact .base (.lst h)
    · exact .base (.frz h)
  | tup hs ha =>
    rcases hs with (h | ⟨o, h⟩) | ⟨o, its, n, h1, h2, _⟩
    · exact .base (.tup h)
    · exact .fTuple h
    · exact .kTuple h1 h2
theorem tyX_mono {K : Kx} {F H : Hp} (s : Same F H) {v : V} {x : PyData} (h : Dp K F v x) : TyX K H v (.type (dTy x)) := tyX_of (dp_mono s h)
theorem kitB_ty (t : Ty) (x : PyData) (h : ∀ kvs, x ≠ .dict kvs) : kitB (dTy x) (tyN t) = some (isTy t x) := by
  cases x with
  | dict kvs => exact absurd rfl (h kvs)
  | none => cases t <;> (show kitB _ _ = _; decide +kernel)
  | bool b => cases t <;> (show kitB "bool" _ = some _; first | (show _ = some true; decide +kernel) | (show _ = some false; decide +kernel))
  | int b => cases t <;> (show kitB "int" _ = some _; first | (show _ = some true; decide +kernel) | (show _ = some false; decide +kernel))
  | str b => cases t <;> (show kitB "str" _ = some _; first | (show _ = some true; decide +kernel) | (show _ = some false; decide +kernel))
  | list b => cases t <;> (show kitB "list" _ = some _; first | (show _ = some true; decide +kernel) | (show _ = some false; decide +kernel))
  | tuple b => cases t <;> (show kitB "tuple" _ = some _; first | (show _ = some true; decide +kernel) | (show _ = some false; decide +kernel))
theorem oIsi_some {t : Ty} {x z : PyData} (h : oIsi t x = some z) : (∀ kvs, x ≠ .dict kvs) ∧ z = .bool (isTy t x) := by
  cases x with
  | dict kvs => cases h
  | _ => exact ⟨fun _ e => (by cases e), (Option.some.inj h).symm⟩
/-- isinstance(e, T) -/
theorem de_isi {t : Ty} {y : Str} {p1 p2 : Pos} (hg : Gl X "isinstance") (hm : X.mg "isinstance" = none) (gy : Gl X y) (my : X.mg y = none) (vy : bootBuiltins y = some (.type (tyN t))) (ha : DE X c a m1)
    (hv : bootBuiltins "isinstance" = some (.builtin "isinstance") := by decide +kernel) (ny : y ≠ "__name__" := by decide) (dy : (y == ("__debug__" : Str)) = false := by decide)
    (he : starEach [a, .Name y p1] X.env = (false, eval a X.env) :: starEach [.Name y p1] X.env := by rfl) (he2 : starEach [.Name y p1] X.env = (false, eval (.Name y p1) X.env) :: starEach [] X.env := by rfl) (hpl : (backTo pos (starEach [.Name y p1] X.env)).any (·.1) = false := by rfl) :
    DE X c (.Call (.Name "isinstance" p2) [a, .Name y p1] [] pos) (lift1 (oIsi t) m1) :=
  pe_imp (pe_callB call_isi hg hm hv (pa_cons ha (pa_cons (pe_bltn (v := .ty (tyN t)) gy my vy rfl ny dy) pa_nil he2) he) (by decide) (by decide) he hpl) fun σ H Q ⟨F, ρ, r, q⟩ =>
    ⟨F, ρ, r, Out.mono (Out.bind q) (fun x ρ1 q1 v H1 F1 g1 d1 => by
      obtain ⟨z, e, q2⟩ := Out.of q1
      obtain ⟨nd, rfl⟩ := oIsi_some e
      exact ⟨v, .ty (tyN t), _, _, isTy t x, rfl, .ty _, tyX_mono g1.rp.sub d1, kit_ty (kitB_ty t x nd), q2 _ H1 F1 g1 (.bl _)⟩) fun e ρ1 q => q⟩
/-- isinstance(e, (T, U)) -/
theorem de_isi2 {t u : Ty} {y w : Str} {p1 p2 p3 p4 : Pos} {k : Nat} (hg : Gl X "isinstance") (hm : X.mg "isinstance" = none) (gy : Gl X y) (my : X.mg y = none) (vy : bootBuiltins y = some (.type (tyN t))) (gw : Gl X w) (mw : X.mg w = none) (vw : bootBuiltins w = some (.type (tyN u))) (ha : DE X c a m1)
    (hv : bootBuiltins "isinstance" = some (.builtin "isinstance") := by decide +kernel) (ny : y ≠ "__name__" := by decide) (dy : (y == ("__debug__" : Str)) = false := by decide) (nw : w ≠ "__name__" := by decide) (dw : (w == ("__debug__" : Str)) = false := by decide)
    (he : starEach [a, .Tuple [.Name y p1, .Name w p3] k p4] X.env = (false, eval a X.env) :: starEach [.Tuple [.Name y p1, .Name w p3] k p4] X.env := by rfl) (he2 : starEach [.Tuple [.Name y p1, .Name w p3] k p4] X.env = (false, eval (.Tuple [.Name y p1, .Name w p3] k p4) X.env) :: starEach [] X.env := by rfl)
    (he3 : starEach [.Name y p1, .Name w p3] X.env = (false, eval (.Name y p1) X.env) :: starEach [.Name w p3] X.env := by rfl) (he4 : starEach [.Name w p3] X.env = (false, eval (.Name w p3) X.env) :: starEach [] X.env := by rfl)
    (hpl : (backTo pos (starEach [.Tuple [.Name y p1, .Name w p3] k p4] X.env)).any (·.1) = false := by rfl) :
    DE X c (.Call (.Name "isinstance" p2) [a, .Tuple [.Name y p1, .Name w p3] k p4] [] pos) (lift1 (oIsi2 t u) m1) :=
  pe_imp (pe_callB call_isiT hg hm hv (pa_cons ha (pa_cons (pe_tup (pa_cons (pe_bltn (v := .ty (tyN t)) gy my vy rfl ny dy) (pa_cons (pe_bltn (v := .ty (tyN u)) gw mw vw rfl nw dw) pa_nil he4) he3)) pa_nil he2) he) (by decide) (by decide) he hpl) fun σ H Q ⟨F, ρ, r, q⟩ =>
    ⟨F, ρ, r, Out.mono (Out.bind q) (fun x ρ1 q1 v H1 F1 g1 d1 => by
      obtain ⟨z, e, q2⟩ := Out.of q1
      have nd : (∀ kvs, x ≠ .dict kvs) ∧ z = .bool (isTy t x || isTy u x) := by
        cases x with
        | dict kvs => cases e
        | _ => exact ⟨fun _ e => (by cases e), (Option.some.inj e).symm⟩
      obtain ⟨nd, rfl⟩ := nd
      refine ⟨by show 2 ≤ sizeLine; decide, fun tp hp => ?_⟩
      refine ⟨v, tp, [.ty (tyN t), .ty (tyN u)], .type (dTy x), [.type (tyN t), .type (tyN u)], isTy t x || isTy u x, rfl, upd_same, .cons (.ty _) (.cons (.ty _) .nil), tyX_mono (g1.rp.sub.trans (same_upd hp)) d1, ?_, q2 _ _ _ (g1.trans (Go.data g1.rp hp _)) (.bl _)⟩
      refine kitAny_cons (kit_ty (kitB_ty t x nd)) (fun hb => ?_) (fun hb => by rw [hb] <;> rfl)
      rw [hb, Bool.false_or]
      exact kitAny_cons (kit_ty (kitB_ty u x nd)) (fun hb => by rw [hb]; rfl) (fun hb => hb)) fun e ρ1 q => q⟩
/-! ### items -/
theorem atI_dpa {K : Kx} {F : Hp} {vs : List V} {ds : List PyData} {i : Int} {d : PyData} (h : DpAll K F vs ds) (e : atI ds i = some d) : ∃ v, atI vs i = some v ∧ Dp K F v d := by
  unfold atI at e ⊢
  rw [dpa_len h]
  cases z : ixN ds.length i with
  | none => rw [z] at e; cases e
  | some j =>
    rw [z] at e
    obtain ⟨v, h1, h2⟩ := dpa_at h (show ds[j]? = some d from e)
    exact ⟨v, h1, h2⟩
theorem os_ix {K : Kx} {P : Pn} : OpD K P (rIx K) oIx := fun {ρ σ H F v u x y z Q} r hx hy e q => by
  cases y with
  | int i =>
    cases hy
    cases hx with
    | lst hs ha =>
      obtain ⟨w, h1, h2⟩ := atI_dpa ha (show atI _ i = some z from e)
      exact .inl ⟨_, _, i, w, rfl, rfl, rd_seq r.sub hs, h1, q w H F (Go.refl r) h2⟩
    | tup hs ha =>
      obtain ⟨w, h1, h2⟩ := atI_dpa ha (show atI _ i = some z from e)
      exact .inr (.inl ⟨_, _, i, w, rfl, rfl, sqT_mono r.sub hs, h1, q w H F (Go.refl r) h2⟩)
    | str s =>
      have e' : (if s.length ≤ sizeLine then (atI s.cps.toList i).map (fun c => PyData.str ⟨#[c]⟩) else none) = some z := e
      by_cases hz : s.length ≤ sizeLine
      · rw [if_pos hz] at e'
        obtain ⟨c, e1, rfl⟩ := Option.map_eq_some_iff.mp e'
        exact .inr (.inr ⟨s, i, c, rfl, rfl, hz, e1, q _ H F (Go.refl r) (.str _)⟩)
      · rw [if_neg hz] at e'; cases e'
    | _ => cases e
  | _ => cases x <;> cases e
theorem de_ix (ha : DE X c a m1) (hb : DE X c b m2) (hs : PlainIx b) : DE X c (.Subscript a b pos) (lift2 oIx m1 m2) :=
  pe_imp (pe_ix ix_seq ha hb hs) fun σ H Q ⟨F, ρ, r, h⟩ => ⟨F, ρ, r, Out.mono (Out.bind h) (fun x ρ1 h1 v H1 F1 g1 d1 => ⟨F1, ρ1, g1.rp, Out.mono (Out.bind h1) (fun y ρ2 h2 u H2 F2 g2 d2 => by
    obtain ⟨z, e, q⟩ := Out.of h2
    exact os_ix (P := c.P) g2.rp (dp_mono g2.fr d1) d2 e fun w H' F' g3 d3 => q w H' F' ((g1.trans g2).trans g3) d3) fun e ρ2 q cv dd H2 F2 g2 er => q cv dd H2 F2 (g1.trans g2) er⟩) fun e ρ1 q => q⟩
end
end DL

set_option Elab.async false
set_option linter.all false
set_option maxRecDepth 100000
set_option maxHeartbeats 2000000
namespace DL
open PySem PySem.Spec PyProof.Rows L2

/-! ### arguments -/
def RA1 (K : Kx) (σ : St) (F' : Hp) : Av → V → Prop
  | .d x, v => Dp K F' v x
  | .f x, v => ∃ a, K.mg x = some (.ref a) ∧ v = .ref a
  | .v i, v => σ[i]? = some (some v)
inductive RAs (K : Kx) (σ : St) (F' : Hp) : List Av → List V → Prop where
  | nil : RAs K σ F' [] []
  | cons {a v as vs} (h : RA1 K σ F' a v) (t : RAs K σ F' as vs) : RAs K σ F' (a :: as) (v :: vs)
theorem ra1_mono {K : Kx} {σ : St} {F F' : Hp} (e : Same F F') {a : Av} {v : V} (h : RA1 K σ F a v) : RA1 K σ F' a v := by
  cases a with
  | d x => exact dp_mono e h
  | f x => exact h
  | v i => exact h
theorem ras_mono {K : Kx} {σ : St} {F F' : Hp} (e : Same F F') {as : List Av} {vs : List V} (h : RAs K σ F as vs) : RAs K σ F' as vs := by
  induction h with
  | nil => exact .nil
  | cons h t ih => exact .cons (ra1_mono e h) ih
theorem ras_len {K : Kx} {σ : St} {F : Hp} {as : List Av} {vs : List V} (h : RAs K σ F as vs) : as.length = vs.length := by
  induction h with
  | nil => rfl
  | cons h t ih => rw [List.length_cons, List.length_cons, ih]
theorem ras_at {K : Kx} {σ : St} {F : Hp} {as : List Av} {vs : List V} (h : RAs K σ F as vs) : ∀ {j : Nat} {a : Av}, as[j]? = some a → ∃ v, vs[j]? = some v ∧ RA1 K σ F a v := by
  induction h with
  | nil => intro j a e; simp at e
  | cons h t ih =>
    intro j a e
    cases j with
    | zero => simp at e; subst e; exact ⟨_, rfl, h⟩
    | succ j =>
      obtain ⟨v, h1, h2⟩ := ih (j := j) (a := a) (by simpa using e)
      exact ⟨v, by simpa using h1, h2⟩
def RA (K : Kx) : FR → Sl → St → Hp → Hp → List Av → List V → Prop := fun _ _ σ _ F' as vs => RAs K σ F' as vs
def RA0 (K : Kx) : FR → Sl → St → Hp → Hp → Av → V → Prop := fun _ _ σ _ F' a v => RA1 K σ F' a v
abbrev DAr (X : Cx) (c : Ct) (es : List Expr) (m : M (List Av)) : Prop := PA X es (Tr X.kx c (RA X.kx) m)
abbrev D1 (X : Cx) (c : Ct) (e : Expr) (m : M Av) : Prop := PE X e (Tr X.kx c (RA0 X.kx) m)
section
variable {X : Cx} {c : Ct} {e : Expr} {es : List Expr} {m1 : M PyData} {n1 : M C} {a1 : M Av} {ms : List (M Av)}
theorem ag_d (h : DE X c e m1) : D1 X c e (agD m1) := pe_imp h fun σ H Q ⟨F, ρ, r, q⟩ => ⟨F, ρ, r, Out.mono (Out.bind q) (fun x ρ1 q1 v H1 F1 g1 d1 => q1 v H1 F1 g1 d1) fun e ρ1 q => q⟩
theorem ag_f (h : DO X c e n1) : D1 X c e (agF n1) := pe_imp h fun σ H Q ⟨F, ρ, r, q⟩ => ⟨F, ρ, r, Out.mono (Out.bind q) (fun x ρ1 q1 v H1 F1 g1 d1 => by
  cases x with
  | d x => exact q1 v H1 F1 g1 d1
  | f x => exact q1 v H1 F1 g1 d1
  | _ => exact q1.elim) fun e ρ1 q => q⟩
theorem ag_v {i : Nat} (h : PE X e (L2.tVar i)) : D1 X c e (agV i) := pe_imp h fun σ H Q ⟨F, ρ, r, h⟩ => by
  unfold T1 agV at h
  cases z : ρ[i]? with
  | none => rw [z] at h; exact h.elim
  | some o =>
    cases o with
    | none => rw [z] at h; exact h.elim
    | some k =>
      have own : k.own = true → Out (Res.ok (Av.v i) ρ) (fun a ρ' => ∀ v H' F', Go X.kx c.P ρ σ H F ρ' σ H' F' → RA0 X.kx (Fr ρ σ H) ρ' σ H' F' a v → Q v H') (fun e ρ' => ∀ cv dd H' F', Go X.kx c.P ρ σ H F ρ' σ H' F' → c.ER e cv dd H' → c.W cv dd σ H') → tVar i σ H Q := fun hk q => by
        obtain ⟨a, o, h1, _⟩ := r.own i k z hk
        exact ⟨_, h1, q (.ref a) H F (Go.refl r) h1⟩
      cases k with
      | d x =>
        rw [z] at h
        obtain ⟨v, h1, h2⟩ := r.dat i x z
        exact ⟨v, h1, h v H F (Go.refl r) h2⟩
      | f x =>
        rw [z] at h
        obtain ⟨a, h1, h2⟩ := r.fn i x z
        exact ⟨_, h2, h (.ref a) H F (Go.refl r) ⟨a, h1, rfl⟩⟩
      | l x => rw [z] at h; exact own rfl h
      | k x => rw [z] at h; exact own rfl h
      | t x => rw [z] at h; exact own rfl h
theorem dr_nil : DAr X c [] (mSeqA []) := pa_imp pa_nil fun σ H Q ⟨F, ρ, r, h⟩ => h _ H F (Go.refl r) .nil
theorem dr_cons (ha : D1 X c e a1) (hr : DAr X c es (mSeqA ms)) (hs : starEach (e :: es) X.env = (false, eval e X.env) :: starEach es X.env := by rfl) : DAr X c (e :: es) (mSeqA (a1 :: ms)) :=
  pa_imp (pa_cons ha hr hs) fun σ H Q ⟨F, ρ, r, h⟩ => ⟨F, ρ, r, Out.mono (Out.bind h) (fun x ρ1 h1 v H1 F1 g1 d1 => ⟨F1, ρ1, g1.rp, Out.mono (Out.bind h1) (fun ys ρ2 h2 vs H2 F2 g2 d2 =>
    h2 _ H2 F2 (g1.trans g2) (.cons (ra1_mono g2.fr d1) d2)) fun e ρ2 q cv dd H2 F2 g2 er => q cv dd H2 F2 (g1.trans g2) er⟩) fun e ρ1 q => q⟩
end
/-! ### the slots of the arguments -/
theorem mem_slA {i : Nat} : ∀ {as : List Av}, i ∈ slA as ↔ ∃ j : Nat, as[j]? = some (Av.v i)
  | [] => by simp [slA]
  | a :: as => by
    have ih := mem_slA (i := i) (as := as)
    constructor
    · intro h
      cases a with
      | v k =>
        rcases List.mem_cons.mp (show i ∈ k :: slA as from h) with e | h
        · exact ⟨0, by rw [e]; rfl⟩
        · obtain ⟨j, q⟩ := ih.mp h; exact ⟨j + 1, by simpa using q⟩
      | d x => obtain ⟨j, q⟩ := ih.mp h; exact ⟨j + 1, by simpa using q⟩
      | f x => obtain ⟨j, q⟩ := ih.mp h; exact ⟨j + 1, by simpa using q⟩
    · rintro ⟨j, q⟩
      cases j with
      | zero =>
        simp at q
        subst q
        exact List.mem_cons_self
      | succ j =>
        have := ih.mpr ⟨j, by simpa using q⟩
        cases a with
        | v k => exact List.mem_cons_of_mem _ this
        | d x => exact this
        | f x => exact this
theorem slA_one {i : Nat} : ∀ {as : List Av} {j k : Nat}, (slA as).Nodup → as[j]? = some (Av.v i) → as[k]? = some (Av.v i) → j = k
  | [], j, k, _, h, _ => by simp at h
  | a :: as, 0, 0, _, _, _ => rfl
  | a :: as, 0, k + 1, nd, h1, h2 => by
    simp at h1; subst h1
    exact absurd (mem_slA.mpr ⟨k, by simpa using h2⟩) (List.nodup_cons.mp (show (i :: slA as).Nodup from nd)).1
  | a :: as, j + 1, 0, nd, h1, h2 => by
    simp at h2; subst h2
    exact absurd (mem_slA.mpr ⟨j, by simpa using h1⟩) (List.nodup_cons.mp (show (i :: slA as).Nodup from nd)).1
  | a :: as, j + 1, k + 1, nd, h1, h2 => by
    have nd' : (slA as).Nodup := by
      cases a with
      | v k => exact (List.nodup_cons.mp (show (k :: slA as).Nodup from nd)).2
      | d x => exact nd
      | f x => exact nd
    exact congrArg Nat.succ (slA_one (i := i) (as := as) nd' (by simpa using h1) (by simpa using h2))
theorem wrA_len : ∀ (as : List Av) (cs ρ : Sl), (wrA as cs ρ).length = ρ.length
  | [], _, _ => rfl
  | .v i :: as, [], ρ => rfl
  | .d i :: as, [], ρ => rfl
  | .f i :: as, [], ρ => rfl
  | .v i :: as, c :: cs, ρ => by show (wrA as cs (ρ.set i c)).length = _; rw [wrA_len, List.length_set]
  | .d i :: as, c :: cs, ρ => wrA_len as cs ρ
  | .f i :: as, c :: cs, ρ => wrA_len as cs ρ
theorem wrA_out {i : Nat} : ∀ {as : List Av} {cs ρ : Sl}, i ∉ slA as → (wrA as cs ρ)[i]? = ρ[i]?
  | [], _, _, _ => rfl
  | .v k :: as, [], ρ, _ => rfl
  | .d k :: as, [], ρ, _ => rfl
  | .f k :: as, [], ρ, _ => rfl
  | .v k :: as, c :: cs, ρ, h => by
    have h' : i ∉ k :: slA as := h
    rw [List.mem_cons, not_or] at h'
    show (wrA as cs (ρ.set k c))[i]? = _
    rw [wrA_out h'.2, List.getElem?_set_ne (Ne.symm h'.1)]
  | .d k :: as, c :: cs, ρ, h => wrA_out (as := as) h
  | .f k :: as, c :: cs, ρ, h => wrA_out (as := as) h
theorem wrA_in {i : Nat} : ∀ {as : List Av} {cs ρ : Sl} {j : Nat} {c : Option C}, (slA as).Nodup → as[j]? = some (Av.v i) → cs[j]? = some c → i < ρ.length → (wrA as cs ρ)[i]? = some c
  | [], _, _, j, _, _, h, _, _ => by simp at h
  | _ :: _, [], _, j, _, _, _, h, _ => by simp at h
  | a :: as, c0 :: cs, ρ, 0, c, nd, h1, h2, hi => by
    simp at h1 h2
    subst h1
    subst h2
    show (wrA as cs (ρ.set i c0))[i]? = _
    rw [wrA_out (List.nodup_cons.mp (show (i :: slA as).Nodup from nd)).1, List.getElem?_set_self hi]
  | a :: as, c0 :: cs, ρ, j + 1, c, nd, h1, h2, hi => by
    cases a with
    | v k => exact wrA_in (as := as) (ρ := ρ.set k c0) (j := j) (List.nodup_cons.mp (show (k :: slA as).Nodup from nd)).2 (by simpa using h1) (by simpa using h2) (by rw [List.length_set]; exact hi)
    | d x => exact wrA_in (as := as) (ρ := ρ) (j := j) nd (by simpa using h1) (by simpa using h2) hi
    | f x => exact wrA_in (as := as) (ρ := ρ) (j := j) nd (by simpa using h1) (by simpa using h2) hi
section
variable {K : Kx} {P : Pn} {F F' H H' : Hp} {ρ cs' : Sl} {σ : St} {as : List Av} {vs : List V}
theorem join_some {o : Option (Option C)} {c : C} (h : o.join = some c) : o = some (some c) := by
  cases o with
  | none => cases h
  | some o => cases o with
    | none => cases h
    | some x => cases h; rfl
theorem rd_at {i : Nat} {o : Option C} (h : (as.map (rdA ρ))[i]? = some o) : ∃ a, as[i]? = some a ∧ rdA ρ a = o := by
  rw [List.getElem?_map] at h
  cases e : as[i]? with
  | none => rw [e] at h; cases h
  | some a => rw [e] at h; exact ⟨a, rfl, Option.some.inj h⟩
theorem vs_at {i : Nat} {v : V} (h : vs[i]? = some v) : (vs.map some)[i]? = some (some v) := by rw [List.getElem?_map, h]; rfl
theorem vs_at' {i : Nat} {v : V} (h : (vs.map some)[i]? = some (some v)) : vs[i]? = some v := by
  rw [List.getElem?_map] at h
  cases e : vs[i]? with
  | none => rw [e] at h; cases h
  | some a => rw [e] at h; cases h; rfl
/-- what is own among the arguments stands in a slot -/
theorem own_arg (r : RAs K σ F as vs) {i : Nat} (h : ownAt (as.map (rdA ρ)) i) : ∃ k v c, as[i]? = some (Av.v k) ∧ ρ[k]? = some (some c) ∧ c.own = true ∧ vs[i]? = some v ∧ σ[k]? = some (some v) := by
  obtain ⟨c, h1, h2⟩ := h
  obtain ⟨a, h3, h4⟩ := rd_at h1
  obtain ⟨v, h5, h6⟩ := ras_at r h3
  cases a with
  | d x => cases h4; cases h2
  | f x => cases h4; cases h2
  | v k => exact ⟨k, v, c, h3, join_some h4, h2, h5, h6⟩
theorem rp_args (r : Rp K F ρ σ H) (h : RAs K σ F as vs) (nd : (slA as).Nodup) : Rp K F (as.map (rdA ρ)) (vs.map some) H where
  sub := r.sub
  len := by rw [List.length_map, List.length_map, ras_len h]
  dat := fun i x e => by
    obtain ⟨a, h3, h4⟩ := rd_at e
    obtain ⟨v, h5, h6⟩ := ras_at h h3
    cases a with
    | d y => cases h4; exact ⟨v, vs_at h5, h6⟩
    | f y => cases h4
    | v k =>
      obtain ⟨v', q1, q2⟩ := r.dat k x (join_some h4)
      rw [show σ[k]? = some (some v) from h6] at q1
      cases q1
      exact ⟨v, vs_at h5, q2⟩
  fn := fun i x e => by
    obtain ⟨a, h3, h4⟩ := rd_at e
    obtain ⟨v, h5, h6⟩ := ras_at h h3
    cases a with
    | d y => cases h4
    | f y =>
      cases h4
      obtain ⟨a, q1, rfl⟩ := h6
      exact ⟨a, q1, vs_at h5⟩
    | v k =>
      obtain ⟨a, q1, q2⟩ := r.fn k x (join_some h4)
      rw [show σ[k]? = some (some v) from h6] at q2
      cases q2
      exact ⟨a, q1, vs_at h5⟩
  own := fun i c e hc => by
    obtain ⟨k, v, c', h1, h2, h3, h4, h5⟩ := own_arg h ⟨c, e, hc⟩
    obtain ⟨a, h6, h7⟩ := rd_at e
    rw [h1] at h6
    cases h6
    have e2 : ρ[k]? = some (some c) := join_some h7
    obtain ⟨b, o, q1, q2⟩ := r.own k c e2 hc
    rw [h5] at q1
    cases q1
    exact ⟨b, o, vs_at h4, q2⟩
  apart := fun i j a o1 o2 e1 e2 => by
    obtain ⟨k, v, c, h1, h2, h3, h4, h5⟩ := own_arg h o1
    obtain ⟨k', v', c', h1', h2', h3', h4', h5'⟩ := own_arg h o2
    rw [vs_at h4] at e1; cases e1
    rw [vs_at h4'] at e2; cases e2
    have := r.apart k k' a ⟨c, h2, h3⟩ ⟨c', h2', h3'⟩ h5 h5'
    subst this
    exact slA_one nd h1 h1'
/-- an own argument is an own slot of the caller -/
theorem own_up (h : RAs K σ F as vs) {b : Addr} (o : Own (as.map (rdA ρ)) (vs.map some) b) : ∃ k, k ∈ slA as ∧ ownAt ρ k ∧ σ[k]? = some (some (.ref b)) := by
  obtain ⟨i, o1, e⟩ := o
  obtain ⟨k, v, c, h1, h2, h3, h4, h5⟩ := own_arg h o1
  rw [vs_at h4] at e; cases e
  exact ⟨k, mem_slA.mpr ⟨i, h1⟩, ⟨c, h2, h3⟩, h5⟩
theorem Go.call (r : Rp K F ρ σ H) (h : RAs K σ F as vs) (nd : (slA as).Nodup) (g : Go K (allP vs.length) (as.map (rdA ρ)) (vs.map some) H F cs' (vs.map some) H' F') :
    Go K P ρ σ H F (wrA as cs' ρ) σ H' F' ∧ ∀ p, Own (wrA as cs' ρ) σ p → Own cs' (vs.map some) p ∨ Own ρ σ p := by
  have hlen : cs'.length = vs.length := by rw [g.rp.len, List.length_map]
  have kw : ∀ i, (∃ j v, as[j]? = some (Av.v i) ∧ vs[j]? = some v ∧ σ[i]? = some (some v) ∧ (wrA as cs' ρ)[i]? = cs'[j]?) ∨ (i ∉ slA as ∧ (wrA as cs' ρ)[i]? = ρ[i]?) := fun i => by
    by_cases hi : i ∈ slA as
    · obtain ⟨j, hj⟩ := mem_slA.mp hi
      obtain ⟨v, h1, h2⟩ := ras_at h hj
      have h2' : σ[i]? = some (some v) := h2
      have l1 : i < ρ.length := by rw [r.len]; exact (List.getElem?_eq_some_iff.mp h2').1
      have l2 : j < cs'.length := by rw [hlen]; exact (List.getElem?_eq_some_iff.mp h1).1
      exact .inl ⟨j, v, hj, h1, h2', by rw [wrA_in nd hj (List.getElem?_eq_getElem l2) l1, List.getElem?_eq_getElem l2]⟩
    · exact .inr ⟨hi, wrA_out hi⟩
  have up : ∀ b, Own (as.map (rdA ρ)) (vs.map some) b → Own ρ σ b := fun b o => by
    obtain ⟨k, _, h1, h2⟩ := own_up h o
    exact ⟨k, h1, h2⟩
  have no : ∀ i b, i ∉ slA as → ownAt ρ i → σ[i]? = some (some (.ref b)) → ¬ Own (as.map (rdA ρ)) (vs.map some) b := fun i b hi o e z => by
    obtain ⟨k, h0, h1, h2⟩ := own_up h z
    exact hi (r.apart i k b o h1 e h2 ▸ h0)
  have ownT : ∀ i, ownAt (wrA as cs' ρ) i → (∃ j v, as[j]? = some (Av.v i) ∧ vs[j]? = some v ∧ σ[i]? = some (some v) ∧ ownAt cs' j) ∨ (i ∉ slA as ∧ ownAt ρ i) := fun i ⟨c, e, hc⟩ => by
    rcases kw i with ⟨j, v, q1, q2, q3, q4⟩ | ⟨q1, q2⟩
    · rw [q4] at e; exact .inl ⟨j, v, q1, q2, q3, c, e, hc⟩
    · rw [q2] at e; exact .inr ⟨q1, c, e, hc⟩
  have ownB : ∀ p, Own (wrA as cs' ρ) σ p → Own cs' (vs.map some) p ∨ Own ρ σ p := fun p ⟨i, o, e⟩ => by
    rcases ownT i o with ⟨j, v, q1, q2, q3, q4⟩ | ⟨q1, q2⟩
    · rw [q3] at e; cases e
      exact .inl ⟨j, q4, vs_at q2⟩
    · exact .inr ⟨i, q2, e⟩
  refine ⟨⟨⟨g.rp.sub, by rw [wrA_len]; exact r.len, fun i x e => ?_, fun i x e => ?_, fun i c e hc => ?_, fun i j a o1 o2 e1 e2 => ?_⟩, g.fr, fun b o n e => g.hp b o (fun z => n (up b z)) e, g.th, fun b o e => ?_, fun b o => ?_, fun i hi => rfl, fun i hi ⟨c, e, hc⟩ => ?_, rfl⟩, ownB⟩
  · rcases kw i with ⟨j, v, q1, q2, q3, q4⟩ | ⟨q1, q2⟩
    · rw [q4] at e
      obtain ⟨v', z1, z2⟩ := g.rp.dat j x e
      rw [vs_at q2] at z1; cases z1
      exact ⟨v, q3, z2⟩
    · rw [q2] at e
      obtain ⟨v, z1, z2⟩ := r.dat i x e
      exact ⟨v, z1, dp_mono g.fr z2⟩
  · rcases kw i with ⟨j, v, q1, q2, q3, q4⟩ | ⟨q1, q2⟩
    · rw [q4] at e
      obtain ⟨a, z1, z2⟩ := g.rp.fn j x e
      rw [vs_at q2] at z2; cases z2
      exact ⟨a, z1, q3⟩
    · rw [q2] at e; exact r.fn i x e
  · rcases kw i with ⟨j, v, q1, q2, q3, q4⟩ | ⟨q1, q2⟩
    · rw [q4] at e
      obtain ⟨a, o, z1, z2⟩ := g.rp.own j c e hc
      rw [vs_at q2] at z1; cases z1
      exact ⟨a, o, q3, z2⟩
    · rw [q2] at e
      obtain ⟨a, o, z1, z2, z3, z4⟩ := r.own i c e hc
      have n := no i a q1 ⟨c, e, hc⟩ z1
      refine ⟨a, o, z1, ?_, g.hp a o n z3, isO_mono g.fr z4⟩
      cases y : F' a with
      | none => rfl
      | some u =>
        rcases g.nw a u y with w | w | w
        · rw [z2] at w; cases w
        · rw [z3] at w; cases w
        · exact (n w).elim
  · have mix : ∀ i i', (∃ j v, as[j]? = some (Av.v i) ∧ vs[j]? = some v ∧ σ[i]? = some (some v) ∧ ownAt cs' j) → (i' ∉ slA as ∧ ownAt ρ i') → σ[i]? = some (some (.ref a)) → σ[i']? = some (some (.ref a)) → False := fun i i' ⟨j, v, q1, q2, q3, q4⟩ ⟨w1, w2⟩ y1 y2 => by
      rw [q3] at y1; cases y1
      rcases g.ow a ⟨j, q4, vs_at q2⟩ with z | z
      · exact no i' a w1 w2 y2 z
      · obtain ⟨_, o, y⟩ := r.notOwn ⟨i', w2, y2⟩
        rw [z] at y; cases y
    rcases ownT i o1 with m1 | m1
    · rcases ownT j o2 with m2 | m2
      · obtain ⟨j1, v1, q1, q2, q3, q4⟩ := m1
        obtain ⟨j2, v2, w1, w2, w3, w4⟩ := m2
        rw [q3] at e1; cases e1
        rw [w3] at e2; cases e2
        have := g.rp.apart j1 j2 a q4 w4 (vs_at q2) (vs_at w2)
        subst this
        rw [q1] at w1; cases w1; rfl
      · exact (mix i j m1 m2 e1 e2).elim
    · rcases ownT j o2 with m2 | m2
      · exact (mix j i m2 m1 e2 e1).elim
      · exact r.apart i j a m1.2 m2.2 e1 e2
  · rcases g.nw b o e with w | w | w
    · exact .inl w
    · exact .inr (.inl w)
    · exact .inr (.inr (up b w))
  · rcases ownB b o with w | w
    · rcases g.ow b w with z | z
      · exact .inl (up b z)
      · exact .inr z
    · exact .inl w
  · rcases kw i with ⟨j, v, q1, q2, q3, q4⟩ | ⟨q1, q2⟩
    · have oc : ownAt (as.map (rdA ρ)) j := ⟨c, by rw [List.getElem?_map, q1]; show some ((ρ[i]?).join) = _; rw [e]; rfl, hc⟩
      obtain ⟨c', y1, y2⟩ := g.po j (decide_eq_true (List.getElem?_eq_some_iff.mp q2).1) oc
      exact ⟨c', by rw [q4]; exact y1, y2⟩
    · exact ⟨c, by rw [q2]; exact e, hc⟩
theorem rc_own {fr fr' : FR} {σ' : St} {ρ' : Sl} {r : C} {v : V} (h : RC K fr ρ' σ' H' F' r v) {ρ'' : Sl} {σ'' : St} (n : ∀ p, fr p → ¬ Own ρ' σ' p → fr' p ∧ ¬ Own ρ'' σ'' p) : RC K fr' ρ'' σ'' H' F' r v := by
  cases r with
  | d x => exact h
  | f x => exact h
  | l x => obtain ⟨p, o, h1, h2, h3, h4, h5, h6⟩ := h; exact ⟨p, o, h1, (n p h2 h6).1, h3, h4, h5, (n p h2 h6).2⟩
  | k x => obtain ⟨p, o, h1, h2, h3, h4, h5, h6⟩ := h; exact ⟨p, o, h1, (n p h2 h6).1, h3, h4, h5, (n p h2 h6).2⟩
  | t x => obtain ⟨p, o, h1, h2, h3, h4, h5, h6⟩ := h; exact ⟨p, o, h1, (n p h2 h6).1, h3, h4, h5, (n p h2 h6).2⟩
end
/-! ### what a def promises -/
abbrev ERx := Exc → Value → Option Addr → Hp → Prop
def spF (K : Kx) (ER : ERx) (n : Nat) (φ : Sl → Res C) : Sp := fun vs H Q E => vs.length = n ∧ ∃ F cs, Rp K F cs (vs.map some) H ∧
  Out (φ cs) (fun r cs' => ∀ v H' F', Go K (allP n) cs (vs.map some) H F cs' (vs.map some) H' F' → RC K (Fr cs (vs.map some) H) cs' (vs.map some) H' F' r v → Q v H')
    (fun e cs' => ∀ cv dd H' F', Go K (allP n) cs (vs.map some) H F cs' (vs.map some) H' F' → ER e cv dd H' → E cv dd H')
structure Kn (P : Program) (w : World) (K : Kx) (base : Heap) (k : Nat) (ER : ERx) (x : Str) (ps : List Str) (φ : Sl → Res C) : Prop where
  ex : ∃ (f : Addr) (fd : FuncData), FnOk P w K.fr K.mg base (L2.CX P w) k f fd ps (spF K ER ps.length φ) ∧ K.mg x = some (.ref f) ∧ PySem.W.keepIn K.fr (.ref f) = true ∧ Binds K.fr fd ps []
/-- every parameter by its name, in order -/
def KB0 (K : PySem.W.Frag) (fd : FuncData) (ps : List Str) : Prop := ∀ (s : Shared) (ws : List Value), K.In s.heap → ws.length = ps.length → BindsTo s fd ⟨[], ps.zip ws⟩ (ps.zip ws)
/-- .. that may be called by keywords -/
structure KnK (P : Program) (w : World) (K : Kx) (base : Heap) (k : Nat) (ER : ERx) (x : Str) (ps : List Str) (φ : Sl → Res C) : Prop where
  ex : ∃ (f : Addr) (fd : FuncData), FnOk P w K.fr K.mg base (L2.CX P w) k f fd ps (spF K ER ps.length φ) ∧ K.mg x = some (.ref f) ∧ PySem.W.keepIn K.fr (.ref f) = true ∧ Binds K.fr fd ps [] ∧
    KB0 K.fr fd ps
theorem KnK.kn {P : Program} {w : World} {K : Kx} {base : Heap} {k : Nat} {ER : ERx} {x : Str} {ps : List Str} {φ : Sl → Res C} (h : KnK P w K base k ER x ps φ) : Kn P w K base k ER x ps φ := by
  obtain ⟨f, fd, h1, h2, h3, h4, _⟩ := h.ex
  exact ⟨f, fd, h1, h2, h3, h4⟩
theorem Kn.mono {P : Program} {w : World} {K : Kx} {base : Heap} {j k : Nat} {ER : ERx} {x : Str} {ps : List Str} {φ : Sl → Res C} (h : Kn P w K base j ER x ps φ) (l : j ≤ k) : Kn P w K base k ER x ps φ := by
  obtain ⟨f, fd, h1, h2⟩ := h.ex
  exact ⟨f, fd, h1.mono l, h2⟩
theorem call_use {X : Cx} {c : Ct} {φ : Sl → Res C} {n : Nat} {m : M (List Av)} {σ : St} {H : Hp} {Q : VK} (h : Tr X.kx c (RC X.kx) (mCall φ m) σ H Q) (hn : ∀ ρ P E, Out (m ρ) P E → Out (m ρ) (fun as ρ' => as.length = n ∧ P as ρ') E) :
    Tr X.kx c (RA X.kx) m σ H fun vs H1 => spF X.kx c.ER n φ vs H1 Q (WE c.W σ) := by
  obtain ⟨F, ρ, r, q⟩ := h
  refine ⟨F, ρ, r, Out.mono (hn _ _ _ (Out.bind q)) (fun as ρ1 ⟨l, q1⟩ vs H1 F1 g1 d1 => ?_) fun e ρ1 q => q⟩
  have hl : vs.length = n := by rw [← ras_len d1]; exact l
  by_cases nd : (slA as).Nodup
  · rw [if_pos nd] at q1
    refine ⟨hl, F1, as.map (rdA ρ1), rp_args g1.rp d1 nd, ?_⟩
    cases z : φ (as.map (rdA ρ1)) with
    | ok rr cs =>
      rw [z] at q1
      intro v H' F' g2 r2
      rw [← hl] at g2
      obtain ⟨g3, ob⟩ := Go.call (P := c.P) g1.rp d1 nd g2
      refine q1 v H' F' (g1.trans g3) (rc_base g1 (rc_own r2 fun p hp np => ?_))
      have hp0 : H1 p = none := by
        rcases hp with z | ⟨j, z, z2⟩
        · exact z
        · exact (np ⟨j, g2.po j (decide_eq_true (List.getElem?_eq_some_iff.mp (vs_at' z2)).1) z, z2⟩).elim
      refine ⟨.inl hp0, fun o => ?_⟩
      rcases ob p o with w | w
      · exact np w
      · obtain ⟨_, o, y⟩ := g1.rp.notOwn w
        rw [hp0] at y; cases y
    | err e cs =>
      rw [z] at q1
      intro cv dd H' F' g2 er
      rw [← hl] at g2
      obtain ⟨g3, ob⟩ := Go.call (P := c.P) g1.rp d1 nd g2
      exact q1 cv dd H' F' (g1.trans g3) er
    | stuck => rw [z] at q1; exact q1
  · rw [if_neg nd] at q1; exact q1.elim
theorem mseqA_len : ∀ (ms : List (M Av)) (ρ : Sl) (P : List Av → Sl → Prop) (E : Exc → Sl → Prop), Out (mSeqA ms ρ) P E → Out (mSeqA ms ρ) (fun xs ρ' => xs.length = ms.length ∧ P xs ρ') E
  | [], ρ, P, E, h => ⟨rfl, h⟩
  | m :: r, ρ, P, E, h => by
    refine Out.bind' (Out.mono (Out.bind h) (fun a ρ1 h1 => ?_) fun e ρ1 q => q)
    refine Out.bind' (Out.mono (mseqA_len r ρ1 _ _ (Out.bind h1)) (fun b ρ2 h2 => ?_) fun e ρ1 q => q)
    exact ⟨by rw [List.length_cons, List.length_cons, h2.1], h2.2⟩
end DL

set_option Elab.async false
set_option linter.all false
set_option maxRecDepth 100000
set_option maxHeartbeats 2000000
namespace DL
open PySem PySem.Spec PyProof.Rows L2

/-! ### calls of a def -/
section
variable {X : Cx} {c : Ct} {e : Expr} {es : List Expr} {x : Str} {p pos : Pos} {ms : List (M Av)} {k : Nat} {ps : List Str} {φ : Sl → Res C} {kws : List Keyword}
theorem do_call (Kf : Kn X.prog X.w X.kx X.base k c.ER x ps φ) (hr : Room k X.A) (hg : Gl X x) (tk : ∀ σ, PassesAt (L2.CX X.prog X.w) X σ (WE c.W σ)) (ha : DAr X c (e :: es) (mSeqA ms)) (hl : ms.length = ps.length := by rfl)
    (hdb : (x == ("__debug__" : Str)) = false := by decide) (he : starEach (e :: es) X.env = (false, eval e X.env) :: starEach es X.env := by rfl) (hpl : (backTo pos (starEach es X.env)).any (·.1) = false := by rfl) :
    DO X c (.Call (.Name x p) (e :: es) [] pos) (mCall φ (mSeqA ms)) := by
  obtain ⟨f, fd, hF, hm, hk, hb⟩ := Kf.ex
  exact pe_imp (pe_callS hF hr hg hm hk hb tk ha hdb he hpl) fun σ H Q q => call_use q fun ρ P E o => hl ▸ mseqA_len ms ρ P E o
theorem do_call0 (Kf : Kn X.prog X.w X.kx X.base k c.ER x ps φ) (hr : Room k X.A) (hg : Gl X x) (tk : ∀ σ, PassesAt (L2.CX X.prog X.w) X σ (WE c.W σ)) (hl : 0 = ps.length := by rfl)
    (hdb : (x == ("__debug__" : Str)) = false := by decide) : DO X c (.Call (.Name x p) [] [] pos) (mCall φ (mSeqA [])) := by
  obtain ⟨f, fd, hF, hm, hk, hb⟩ := Kf.ex
  refine pe_imp (t := fun σ H Q => spF X.kx c.ER ps.length φ [] H Q (WE c.W σ)) ⟨fun pins s σ H Q I h => ?_⟩ fun σ H Q q => ?_
  · refine wpAny_Call_Name_kw (ld_glob I hg hm ?_ hdb)
    exact PySem.W.callWith_K0 I.kIn hk (run_fnS (us := []) hF hr hb (tk σ) I .nil h)
  · obtain ⟨F, ρ, r, o⟩ := call_use (n := ps.length) q fun ρ P E o => ⟨hl, o⟩
    exact o [] H F (Go.refl r) .nil
abbrev DK (X : Cx) (c : Ct) (kws : List Keyword) (m : M (List Av)) : Prop := PK X kws (Tr X.kx c (RA X.kx) m)
theorem dk_nil : DK X c [] (mSeqA []) := ⟨fun pos pins s σ H Q I ⟨F, ρ, r, h⟩ => pk_nil.run pos pins s σ H Q I (h _ H F (Go.refl r) .nil)⟩
theorem dk_cons {a1 : M Av} {nm : Option Str} {kpos : Pos} (ha : D1 X c e a1) (hr : DK X c kws (mSeqA ms)) : DK X c (⟨nm, e, kpos⟩ :: kws) (mSeqA (a1 :: ms)) :=
  ⟨fun pos pins s σ H Q I ⟨F, ρ, r, h⟩ => (pk_cons ha hr).run pos pins s σ H Q I ⟨F, ρ, r, Out.mono (Out.bind h) (fun x ρ1 h1 v H1 F1 g1 d1 => ⟨F1, ρ1, g1.rp, Out.mono (Out.bind h1) (fun ys ρ2 h2 vs H2 F2 g2 d2 =>
    h2 _ H2 F2 (g1.trans g2) (.cons (ra1_mono g2.fr d1) d2)) fun e ρ2 q cv dd H2 F2 g2 er => q cv dd H2 F2 (g1.trans g2) er⟩) fun e ρ1 q => q⟩⟩
theorem run_fnSK {CX : CXT} {f : Addr} {fd : FuncData} {ps : List Str} {sp : Sp} {E : St → XK} {pins : List (Addr × Obj)} {σ : St} {H : Hp} {s : Shared} {Q : VK} {ws : List Value} {zs : List V}
    (F : FnOk X.prog X.w X.K X.mg X.base CX k f fd ps sp) (hr : Room k X.A) (hb : KB0 X.K fd ps) (hx : PassesAt CX X σ (E σ))
    (I : Inv X pins σ H s) (rz : Vals zs ws) (h : sp zs H Q (E σ)) : wpAny (model X.prog X.w) X.A (call (.ref f) [] (ps.zip ws)) (EP X pins σ Q) X.xe s := by
  have hl : ws.length = ps.length := by rw [← rz.length]; exact F.len _ _ _ _ h
  refine wpAny_call (codeAny_mono (F.run X.A X.stack s H ⟨[], ps.zip ws⟩ ws zs Q (E σ) hr I.env0 (hb s ws I.kIn hl) rz h) fun r s' hq => ?_)
  cases r with
  | error e => exact hx pins H s e s' I hq
  | ok fl =>
    cases fl with
    | ret u => exact I.after hq
    | next => exact False.elim hq
    | brk => exact False.elim hq
    | cont => exact False.elim hq
/-- f(k = e, ..), every parameter by its name, in the parameters' order -/
theorem do_callK (Kf : KnK X.prog X.w X.kx X.base k c.ER x ps φ) (hr : Room k X.A) (hg : Gl X x) (tk : ∀ σ, PassesAt (L2.CX X.prog X.w) X σ (WE c.W σ)) (ha : DK X c kws (mSeqA ms))
    (hks : (backToKw pos (keywordEach kws X.env)).filterMap (·.1) = ps := by rfl) (hl : ms.length = ps.length := by rfl)
    (hall : (backToKw pos (keywordEach kws X.env)).all (·.1.isSome) = true := by rfl)
    (hdb : (x == ("__debug__" : Str)) = false := by decide) (hpl : ((backTo pos (starEach [] X.env)).any (·.1) || (backToKw pos (keywordEach kws X.env)).any (·.1.isNone)) = false := by rfl) :
    DO X c (.Call (.Name x p) [] kws pos) (mCall φ (mSeqA ms)) := by
  obtain ⟨f, fd, hF, hm, hk, _, hkb⟩ := Kf.ex
  refine pe_imp (t := fun σ H Q => (Tr X.kx c (RA X.kx) (mSeqA ms)) σ H fun vs H1 => spF X.kx c.ER ps.length φ vs H1 Q (WE c.W σ)) ⟨fun pins s σ H Q I h => ?_⟩ fun σ H Q q => call_use q fun ρ P E o => hl ▸ mseqA_len ms ρ P E o
  refine wpAny_Call_Name_kw (ld_glob I hg hm ?_ hdb)
  refine PySem.W.callWith_KW0 (h₀ := X.base) I.ok.mod.kin hk hall (thn (ha.run pos pins s σ H _ I h) fun ws s1 ⟨zs, H1, I1, rz, q1⟩ => ⟨I1.kIn, ?_⟩) hpl
  rw [hks]
  exact run_fnSK hF hr hkb (tk σ) I1 rz q1
end
end DL

set_option Elab.async false
set_option linter.all false
set_option maxRecDepth 100000
set_option maxHeartbeats 2000000
namespace DL
open PySem PySem.Spec PyProof.Rows L2

/-! ### storing -/
section
variable {K : Kx} {P : Pn} {F F0 H H0 : Hp} {ρ ρ0 : Sl} {σ σ0 : St} {i : Nat}
theorem set_at {α : Type} {l : List α} {i j : Nat} {a : α} {o : α} (h : (l.set i a)[j]? = some o) : (j = i ∧ i < l.length ∧ o = a) ∨ (j ≠ i ∧ l[j]? = some o) := by
  by_cases e : i = j
  · subst e
    by_cases hl : i < l.length
    · rw [List.getElem?_set_self hl] at h; exact .inl ⟨rfl, hl, (Option.some.inj h).symm⟩
    · rw [List.getElem?_eq_none (by rw [List.length_set]; omega)] at h; cases h
  · rw [List.getElem?_set_ne e] at h; exact .inr ⟨Ne.symm e, h⟩
theorem own_at {c : Option C} {j : Nat} (h : ownAt (ρ.set i c) j) : (j = i ∧ i < ρ.length ∧ ∃ k, c = some k ∧ k.own = true) ∨ (j ≠ i ∧ ownAt ρ j) := by
  obtain ⟨k, e, hk⟩ := h
  rcases set_at e with ⟨a, b, d⟩ | ⟨a, b⟩
  · exact .inl ⟨a, b, k, d.symm, hk⟩
  · exact .inr ⟨a, k, b, hk⟩
theorem own_ne (hi : P.all i = false) {j : Nat} (hj : P.s j = true) : j ≠ i := fun e => by subst e; unfold Pn.all at hi; rw [hj, Bool.true_or] at hi; cases hi
theorem own_ne' (hi : P.all i = false) {j : Nat} (hj : P.o j = true) : j ≠ i := fun e => by subst e; unfold Pn.all at hi; rw [hj, Bool.or_true] at hi; cases hi
theorem own_keep {c : Option C} {j : Nat} (hj : j ≠ i) (h : ownAt ρ j) : ownAt (ρ.set i c) j := by
  obtain ⟨k, e, hk⟩ := h
  exact ⟨k, by rw [List.getElem?_set_ne (Ne.symm hj)]; exact e, hk⟩
/-- contents go into a slot -/
theorem Go.put (g : Go K P ρ0 σ0 H0 F0 ρ σ H F) {c : C} {v : V} (r : RC K (Fr ρ0 σ0 H0) ρ σ H F c v) (hi : P.all i = false) : Go K P ρ0 σ0 H0 F0 (ρ.set i (some c)) (σ.set i (some v)) H F := by
  have hlen : ρ.length = σ.length := g.rp.len
  have rOwn : c.own = true → ∃ p o, v = .ref p ∧ Fr ρ0 σ0 H0 p ∧ F p = none ∧ H p = some o ∧ IsO K F c o ∧ ¬ Own ρ σ p := fun hc => by
    cases c with
    | d x => cases hc
    | f x => cases hc
    | l x => exact r
    | k x => exact r
    | t x => exact r
  have stp : ∀ {j : Nat} {a : Addr}, j ≠ i → (σ.set i (some v))[j]? = some (some (.ref a)) → σ[j]? = some (some (.ref a)) := fun {j a} hj e => by
    rw [List.getElem?_set_ne (Ne.symm hj)] at e; exact e
  refine ⟨⟨g.rp.sub, by rw [List.length_set, List.length_set]; exact hlen, fun j x e => ?_, fun j x e => ?_, fun j k e hk => ?_, fun j k a h1 h2 e1 e2 => ?_⟩, g.fr, g.hp, g.th, g.nw, fun b ⟨j, o, e⟩ => ?_, fun j hj => ?_, fun j hj h => own_keep (own_ne' hi hj) (g.po j hj h), by rw [List.length_set]; exact g.ln⟩
  · rcases set_at e with ⟨rfl, hl, d⟩ | ⟨hj, e⟩
    · cases d
      exact ⟨v, List.getElem?_set_self (by rw [← hlen]; exact hl), r⟩
    · obtain ⟨u, h1, h2⟩ := g.rp.dat j x e
      exact ⟨u, by rw [List.getElem?_set_ne (Ne.symm hj)]; exact h1, h2⟩
  · rcases set_at e with ⟨rfl, hl, d⟩ | ⟨hj, e⟩
    · cases d
      obtain ⟨a, h1, rfl⟩ := r
      exact ⟨a, h1, List.getElem?_set_self (by rw [← hlen]; exact hl)⟩
    · obtain ⟨a, h1, h2⟩ := g.rp.fn j x e
      exact ⟨a, h1, by rw [List.getElem?_set_ne (Ne.symm hj)]; exact h2⟩
  · rcases set_at e with ⟨rfl, hl, d⟩ | ⟨hj, e⟩
    · cases d
      obtain ⟨p, o, rfl, h1, h2, h3, h4, h5⟩ := rOwn hk
      exact ⟨p, o, List.getElem?_set_self (by rw [← hlen]; exact hl), h2, h3, h4⟩
    · obtain ⟨a, o, h1, h2⟩ := g.rp.own j k e hk
      exact ⟨a, o, by rw [List.getElem?_set_ne (Ne.symm hj)]; exact h1, h2⟩
  · have mix : ∀ {j k}, (j = i ∧ i < ρ.length ∧ ∃ k, some c = some k ∧ k.own = true) → (k ≠ i ∧ ownAt ρ k) → (σ.set i (some v))[j]? = some (some (.ref a)) → (σ.set i (some v))[k]? = some (some (.ref a)) → False := fun {j k} ⟨rfl, hl, k', q1, q2⟩ ⟨hk, ok⟩ e1 e2 => by
      cases q1
      obtain ⟨p, o, rfl, _, _, _, _, h5⟩ := rOwn q2
      rw [List.getElem?_set_self (by rw [← hlen]; exact hl)] at e1
      cases e1
      exact h5 ⟨k, ok, stp hk e2⟩
    rcases own_at h1 with m1 | m1
    · rcases own_at h2 with m2 | m2
      · exact m1.1.trans m2.1.symm
      · exact (mix m1 m2 e1 e2).elim
    · rcases own_at h2 with m2 | m2
      · exact (mix m2 m1 e2 e1).elim
      · exact g.rp.apart j k a m1.2 m2.2 (stp m1.1 e1) (stp m2.1 e2)
  · rcases own_at o with ⟨rfl, hl, k, q1, q2⟩ | ⟨hj, oj⟩
    · cases q1
      obtain ⟨p, o, rfl, h1, _⟩ := rOwn q2
      rw [List.getElem?_set_self (by rw [← hlen]; exact hl)] at e
      cases e
      rcases h1 with z | z
      · exact .inr z
      · exact .inl z
    · exact g.ow b ⟨j, oj, stp hj e⟩
  · rw [List.getElem?_set_ne (Ne.symm (own_ne hi hj))]
    exact g.pn j hj
/-- a slot is forgotten -/
theorem Go.forget (g : Go K P ρ0 σ0 H0 F0 ρ σ H F) (hi : P.all i = false) (u : Option V) : Go K P ρ0 σ0 H0 F0 (ρ.set i none) (σ.set i u) H F := by
  have hlen : ρ.length = σ.length := g.rp.len
  have stp : ∀ {j : Nat} {a : Addr}, j ≠ i → (σ.set i u)[j]? = some (some (.ref a)) → σ[j]? = some (some (.ref a)) := fun {j a} hj e => by
    rw [List.getElem?_set_ne (Ne.symm hj)] at e; exact e
  have ow : ∀ {j}, ownAt (ρ.set i none) j → j ≠ i ∧ ownAt ρ j := fun {j} h => by
    rcases own_at h with ⟨_, _, k, q, _⟩ | m
    · cases q
    · exact m
  refine ⟨⟨g.rp.sub, by rw [List.length_set, List.length_set]; exact hlen, fun j x e => ?_, fun j x e => ?_, fun j k e hk => ?_, fun j k a h1 h2 e1 e2 => g.rp.apart j k a (ow h1).2 (ow h2).2 (stp (ow h1).1 e1) (stp (ow h2).1 e2)⟩, g.fr, g.hp, g.th, g.nw, fun b ⟨j, o, e⟩ => g.ow b ⟨j, (ow o).2, stp (ow o).1 e⟩, fun j hj => ?_, fun j hj h => own_keep (own_ne' hi hj) (g.po j hj h), by rw [List.length_set]; exact g.ln⟩
  · rcases set_at e with ⟨_, _, d⟩ | ⟨hj, e⟩
    · cases d
    · obtain ⟨v, h1, h2⟩ := g.rp.dat j x e
      exact ⟨v, by rw [List.getElem?_set_ne (Ne.symm hj)]; exact h1, h2⟩
  · rcases set_at e with ⟨_, _, d⟩ | ⟨hj, e⟩
    · cases d
    · obtain ⟨v, h1, h2⟩ := g.rp.fn j x e
      exact ⟨v, h1, by rw [List.getElem?_set_ne (Ne.symm hj)]; exact h2⟩
  · rcases set_at e with ⟨_, _, d⟩ | ⟨hj, e⟩
    · cases d
    · obtain ⟨a, o, h1, h2⟩ := g.rp.own j k e hk
      exact ⟨a, o, by rw [List.getElem?_set_ne (Ne.symm hj)]; exact h1, h2⟩
  · rw [List.getElem?_set_ne (Ne.symm (own_ne hi hj))]
    exact g.pn j hj
/-- the same, the value stays where it is -/
theorem Go.forget' (g : Go K P ρ0 σ0 H0 F0 ρ σ H F) (hi : P.o i = false) : Go K P ρ0 σ0 H0 F0 (ρ.set i none) σ H F := by
  have ow : ∀ {j}, ownAt (ρ.set i none) j → j ≠ i ∧ ownAt ρ j := fun {j} h => by
    rcases own_at h with ⟨_, _, k, q, _⟩ | m
    · cases q
    · exact m
  refine ⟨⟨g.rp.sub, by rw [List.length_set]; exact g.rp.len, fun j x e => ?_, fun j x e => ?_, fun j k e hk => ?_, fun j k a h1 h2 e1 e2 => g.rp.apart j k a (ow h1).2 (ow h2).2 e1 e2⟩, g.fr, g.hp, g.th, g.nw, fun b ⟨j, o, e⟩ => g.ow b ⟨j, (ow o).2, e⟩, g.pn, fun j hj h => own_keep (ne_o hi hj) (g.po j hj h), g.ln⟩
  · rcases set_at e with ⟨_, _, d⟩ | ⟨hj, e⟩
    · cases d
    · exact g.rp.dat j x e
  · rcases set_at e with ⟨_, _, d⟩ | ⟨hj, e⟩
    · cases d
    · exact g.rp.fn j x e
  · rcases set_at e with ⟨_, _, d⟩ | ⟨hj, e⟩
    · cases d
    · exact g.rp.own j k e hk
/-- an own thing is rewritten -/
theorem Go.upd (r : Rp K F ρ σ H) {c c' : C} {a : Addr} {o' : HO} (z : ρ[i]? = some (some c)) (hc : c.own = true) (hc' : c'.own = true) (ha : σ[i]? = some (some (.ref a))) (ho : IsO K F c' o') : Go K P ρ σ H F (ρ.set i (some c')) σ (upd H a o') F := by
  have hlt : i < ρ.length := (List.getElem?_eq_some_iff.mp z).1
  obtain ⟨a0, o0, q1, q2, q3, q4⟩ := r.own i c z hc
  rw [ha] at q1; cases q1
  have oi : ownAt ρ i := ⟨c, z, hc⟩
  have ow : ∀ {j}, ownAt (ρ.set i (some c')) j → ownAt ρ j := fun {j} h => by
    rcases own_at h with ⟨rfl, _⟩ | m
    · exact oi
    · exact m.2
  refine ⟨⟨fun b x e => ?_, by rw [List.length_set]; exact r.len, fun j x e => ?_, fun j x e => ?_, fun j k e hk => ?_, fun j k b h1 h2 => r.apart j k b (ow h1) (ow h2)⟩, Same.refl F, fun b x n e => ?_, fun b x e => ?_, fun b x e => .inl e, fun b ⟨j, h, e⟩ => .inl ⟨j, ow h, e⟩, fun j hj => rfl, fun j hj h => ?_, rfl⟩
  · have ne : b ≠ a := fun z => by rw [z, q2] at e; cases e
    rw [upd_ne ne]; exact r.sub b x e
  · rcases set_at e with ⟨_, _, d⟩ | ⟨hj, e⟩
    · cases d; cases hc'
    · exact r.dat j x e
  · rcases set_at e with ⟨_, _, d⟩ | ⟨hj, e⟩
    · cases d; cases hc'
    · exact r.fn j x e
  · rcases set_at e with ⟨rfl, _, d⟩ | ⟨hj, e⟩
    · cases d; exact ⟨a, o', ha, q2, upd_same, ho⟩
    · obtain ⟨b, u, h1, h2, h3, h4⟩ := r.own j k e hk
      have ne : b ≠ a := fun z => hj (r.apart j i a ⟨k, e, hk⟩ oi (z ▸ h1) ha)
      exact ⟨b, u, h1, h2, by rw [upd_ne ne]; exact h3, h4⟩
  · have ne : b ≠ a := fun z => n (z ▸ ⟨i, oi, ha⟩)
    rw [upd_ne ne]; exact e
  · by_cases hb : b = a
    · subst hb; exact ⟨o', upd_same⟩
    · exact ⟨x, by rw [upd_ne hb]; exact e⟩
  · by_cases hj : j = i
    · subst hj; exact ⟨c', List.getElem?_set_self hlt, hc'⟩
    · exact own_keep hj h
end
/-! ### a slot's own thing goes out of it -/
section
variable {X : Cx} {c : Ct} {e : Expr}
theorem do_varMP {i : Nat} (hi : c.P.o i = false) (h : PE X e (L2.tVar i)) : DO X c e (mVarM i) := pe_imp h fun σ H Q ⟨F, ρ, r, h⟩ => by
  unfold T1 mVarM at h
  cases z : ρ[i]? with
  | none => rw [z] at h; exact h.elim
  | some o =>
    cases o with
    | none => rw [z] at h; exact h.elim
    | some k =>
      have own : k.own = true → Out (Res.ok k (ρ.set i none)) (fun a ρ' => ∀ v H' F', Go X.kx c.P ρ σ H F ρ' σ H' F' → RC X.kx (Fr ρ σ H) ρ' σ H' F' a v → Q v H') (fun e ρ' => ∀ cv dd H' F', Go X.kx c.P ρ σ H F ρ' σ H' F' → c.ER e cv dd H' → c.W cv dd σ H') → tVar i σ H Q := fun hk q => by
        obtain ⟨a, o, h1, h2, h3, h4⟩ := r.own i k z hk
        have oi : ownAt ρ i := ⟨k, z, hk⟩
        have rc : ∃ p o, V.ref a = .ref p ∧ Fr ρ σ H p ∧ F p = none ∧ H p = some o ∧ IsO X.kx F k o ∧ ¬ Own (ρ.set i none) σ p := ⟨a, o, rfl, .inr ⟨i, oi, h1⟩, h2, h3, h4, fun ⟨j, oj, ej⟩ => by
          rcases own_at oj with ⟨_, _, _, q, _⟩ | ⟨hj, oj⟩
          · cases q
          · exact hj (r.apart j i a oj oi ej h1)⟩
        refine ⟨_, h1, q (.ref a) H F ((Go.refl r).forget' hi) ?_⟩
        cases k with
        | d x => cases hk
        | f x => cases hk
        | l x => exact rc
        | k x => exact rc
        | t x => exact rc
      cases k with
      | d x =>
        rw [z] at h
        obtain ⟨v, h1, h2⟩ := r.dat i x z
        exact ⟨v, h1, h v H F (Go.refl r) h2⟩
      | f x =>
        rw [z] at h
        obtain ⟨a, h1, h2⟩ := r.fn i x z
        exact ⟨_, h2, h (.ref a) H F (Go.refl r) ⟨a, h1, rfl⟩⟩
      | l x => rw [z] at h; exact own rfl h
      | k x => rw [z] at h; exact own rfl h
      | t x => rw [z] at h; exact own rfl h
end
end DL

set_option Elab.async false
set_option linter.all false
set_option maxRecDepth 100000
set_option maxHeartbeats 2000000
namespace DL
open PySem PySem.Spec PyProof.Rows L2

/-! ### statements -/
def SK (K : Kx) (c : Ct) (D : Ends) (ρ : Sl) (σ : St) (H F : Hp) : Fl → Sl → Prop := fun fl ρ' => ∀ σ' H' F', Go K c.P ρ σ H F ρ' σ' H' F' → match fl with
  | .nx => D.nx σ' H'
  | .bk => D.bk σ' H'
  | .ct => D.ct σ' H'
  | .rt r => ∀ v, RC K (Fr ρ σ H) ρ' σ' H' F' r v → D.rt v H'
def SE (K : Kx) (c : Ct) (ρ : Sl) (σ : St) (H F : Hp) : Exc → Sl → Prop := fun e ρ' => ∀ cv dd σ' H' F', Go K c.P ρ σ H F ρ' σ' H' F' → c.ER e cv dd H' → c.W cv dd σ' H'
def tS (K : Kx) (c : Ct) (m : M Fl) : TS := fun D σ H => ∃ F ρ, Rp K F ρ σ H ∧ Out (m ρ) (SK K c D ρ σ H F) (SE K c ρ σ H F)
abbrev DS (X : Cx) (c : Ct) (s : Stmt) (m : M Fl) : Prop := PS X s (tS X.kx c m)
abbrev DSs (X : Cx) (c : Ct) (ss : List Stmt) (m : M Fl) : Prop := PSs X ss (tS X.kx c m)
section
variable {K : Kx} {c : Ct} {D : Ends} {ρ ρ1 : Sl} {σ σ1 : St} {H H1 F F1 : Hp}
theorem SK.base (g : Go K c.P ρ σ H F ρ1 σ1 H1 F1) {fl : Fl} {ρ' : Sl} (h : SK K c D ρ σ H F fl ρ') : SK K c D ρ1 σ1 H1 F1 fl ρ' := fun σ' H' F' g' => by
  have q := h σ' H' F' (g.trans g')
  cases fl with
  | nx => exact q
  | bk => exact q
  | ct => exact q
  | rt r => exact fun v rc => q v (rc_base g rc)
theorem SE.base (g : Go K c.P ρ σ H F ρ1 σ1 H1 F1) {e : Exc} {ρ' : Sl} (h : SE K c ρ σ H F e ρ') : SE K c ρ1 σ1 H1 F1 e ρ' := fun cv dd σ' H' F' g' er => h cv dd σ' H' F' (g.trans g') er
theorem SE.ex {e : Exc} {ρ' : Sl} (h : SE K c ρ σ H F e ρ') : ∀ cv dd H' F', Go K c.P ρ σ H F ρ' σ H' F' → c.ER e cv dd H' → c.W cv dd σ H' := fun cv dd H' F' g er => h cv dd σ H' F' g er
theorem tS.at (g : Go K c.P ρ σ H F ρ1 σ1 H1 F1) {m : M Fl} (h : Out (m ρ1) (SK K c D ρ σ H F) (SE K c ρ σ H F)) : tS K c m D σ1 H1 := ⟨F1, ρ1, g.rp, Out.mono h (fun _ _ q => q.base g) fun _ _ q => q.base g⟩
/-- an expression first -/
theorem tE.at {α β : Type} {R : FR → Sl → St → Hp → Hp → α → β → Prop} {m : M α} {f : α → M Fl} {Q : β → Hp → Prop} (h : tS K c (M.bind m f) D σ H)
    (hq : ∀ {F ρ a ρ' v H' F'}, Go K c.P ρ σ H F ρ' σ H' F' → R (Fr ρ σ H) ρ' σ H' F' a v → Out (f a ρ') (SK K c D ρ σ H F) (SE K c ρ σ H F) → Q v H') : Tr K c R m σ H Q := by
  obtain ⟨F, ρ, r, h⟩ := h
  exact ⟨F, ρ, r, Out.mono (Out.bind h) (fun a ρ' q v H' F' g rr => hq g rr q) fun e ρ' q => q.ex⟩
end
section
variable {X : Cx} {c : Ct} {s : Stmt} {ss : List Stmt} {e a b d : Expr} {es : List Expr} {pos : Pos} {m1 m2 : M Fl} {x y z : Str} {i j l : Nat}
theorem dss_nil : DSs X c [] sSkip := pss_imp pss_nil fun D σ H ⟨F, ρ, r, h⟩ => h σ H F (Go.refl r)
theorem dss_cons (h1 : DS X c s m1) (h2 : DSs X c ss m2) : DSs X c (s :: ss) (sSeq m1 m2) := pss_imp (pss_cons h1 h2) fun D σ H ⟨F, ρ, r, h⟩ => by
  refine ⟨F, ρ, r, Out.mono (Out.bind h) (fun fl ρ1 q => ?_) fun e ρ1 q => q⟩
  intro σ1 H1 F1 g
  cases fl with
  | nx => exact tS.at g q
  | bk => exact q σ1 H1 F1 g
  | ct => exact q σ1 H1 F1 g
  | rt r => exact q σ1 H1 F1 g
theorem dss_one (h1 : DS X c s m1) : DSs X c [s] m1 := pss_one h1
theorem ds_pass : DS X c (.Pass pos) sSkip := ps_imp ps_pass fun D σ H ⟨F, ρ, r, h⟩ => h σ H F (Go.refl r)
theorem ds_break : DS X c (.Break pos) sBk := ps_imp ps_break fun D σ H ⟨F, ρ, r, h⟩ => h σ H F (Go.refl r)
theorem ds_cont : DS X c (.Continue pos) sCt := ps_imp ps_continue fun D σ H ⟨F, ρ, r, h⟩ => h σ H F (Go.refl r)
theorem ds_expr {m : M PyData} (he : DE X c e m) (hs : swapsWith e none pos.line X.env = pure false := by rfl) : DS X c (.Expr e pos) (sDo m) := ps_imp (ps_expr he hs) fun D σ H q =>
  tE.at q fun g _ o => o σ _ _ g
theorem ds_exprO {m : M C} (he : DO X c e m) (hs : swapsWith e none pos.line X.env = pure false := by rfl) : DS X c (.Expr e pos) (sDo m) := ps_imp (ps_expr he hs) fun D σ H q =>
  tE.at q fun g _ o => o σ _ _ g
theorem ds_ret {m : M C} (he : DO X c e m) : DS X c (.Return (some e) pos) (sRet m) := ps_imp (ps_ret he) fun D σ H q =>
  tE.at q fun g r o => o σ _ _ g _ r
theorem ds_retN : DS X c (.Return none pos) (sRet (M.pure (.d .none))) := ps_imp ps_retN fun D σ H ⟨F, ρ, r, h⟩ => h σ H F (Go.refl r) .non .non
theorem ds_if {t : M Bool} {as bs : List Stmt} (hc : DT X c e t) (ha : DSs X c as m1) (hb : DSs X c bs m2) : DS X c (.If e as bs pos) (sIf t m1 m2) := ps_imp (ps_if hc ha hb) fun D σ H q =>
  tE.at (R := RB) q fun {F ρ a ρ' v H' F'} g r o => by
    cases r
    cases a with
    | true => exact tS.at g o
    | false => exact tS.at g o
theorem ds_set {m : M C} {pos' : Pos} (hN : X.N.Nodup) (hi : X.N[i]? = some x) (hx : Loc X.env.scope x) (hP : c.P.all i = false) (he : DO X c e m) (hs : swapsWith e (some (.Name x pos')) pos.line X.env = pure false := by rfl) (hf : X.fn x = true ∨ X.env.scope.names.lookup x = some .local := by first | exact .inl rfl | exact .inr rfl | assumption) :
    DS X c (.Assign [.Name x pos'] e pos) (sSet i m) := ps_imp (ps_set hN hi hx he hs hf) fun D σ H q =>
  tE.at q fun {F ρ a ρ' v H' F'} g r o => o _ _ _ (g.put r hP)
theorem ds_setR {K : Kx} {m : M C} {D : Ends} {σ : St} {H : Hp} (hP : c.P.all i = false) (q : tS K c (sSet i m) D σ H) : Tr K c (RC K) m σ H fun v H' => D.nx (σ.set i (some v)) H' :=
  tE.at q fun {F ρ a ρ' v H' F'} g r o => o _ _ _ (g.put r hP)
/-! ### targets -/
def TGd (K : Kx) (c : Ct) (g : PyData → M Unit) : TG := fun v σ H Q => ∃ F ρ x, Rp K F ρ σ H ∧ Dp K F v x ∧ Out (g x ρ) (fun _ ρ' => ∀ σ' H' F', Go K c.P ρ σ H F ρ' σ' H' F' → Q σ' H') fun _ _ => True
def TGsd (K : Kx) (c : Ct) (g : List PyData → M Unit) : TGs := fun vs σ H Q => ∃ F ρ xs, Rp K F ρ σ H ∧ DpAll K F vs xs ∧ Out (g xs ρ) (fun _ ρ' => ∀ σ' H' F', Go K c.P ρ σ H F ρ' σ' H' F' → Q σ' H') fun _ _ => True
structure DG (X : Cx) (c : Ct) (tg : Expr) (g : PyData → M Unit) : Prop where
  pg : PG X tg (TGd X.kx c g)
  ne : ∀ x ρ e ρ', g x ρ ≠ .err e ρ'
structure DGs (X : Cx) (c : Ct) (tgs : List Expr) (gs : List (PyData → M Unit)) : Prop where
  pg : PGs X tgs (TGsd X.kx c (gsL gs))
  ne : ∀ xs ρ e ρ', gsL gs xs ρ ≠ .err e ρ'
theorem pg_imp {tg : Expr} {t t' : TG} (h : PG X tg t) (i : ∀ v σ H Q, t' v σ H Q → t v σ H Q) : PG X tg t' := ⟨fun pins s σ H v u Q I r q => h.run pins s σ H v u Q I r (i v σ H Q q)⟩
theorem pgs_imp {tg : List Expr} {t t' : TGs} (h : PGs X tg t) (i : ∀ v σ H Q, t' v σ H Q → t v σ H Q) : PGs X tg t' := ⟨fun pins s σ H v u Q I r q => h.run pins s σ H v u Q I r (i v σ H Q q)⟩
theorem dg_n (hN : X.N.Nodup) (hi : X.N[i]? = some x) (hx : Loc X.env.scope x) (hP : c.P.all i = false) (hf : X.fn x = true ∨ X.env.scope.names.lookup x = some .local := by first | exact .inl rfl | exact .inr rfl | assumption) : DG X c (.Name x pos) (gN i) :=
  ⟨pg_imp (pg_name hN hi hx hf) fun v σ H Q ⟨F, ρ, x, r, d, o⟩ => o _ _ _ ((Go.refl r).put (c := .d x) d hP), fun _ _ _ _ q => by cases q⟩
theorem dgs_nil : DGs X c [] [] := ⟨pgs_imp pgs_nil fun v σ H Q ⟨F, ρ, xs, r, d, o⟩ => by
  cases d with
  | nil => exact ⟨rfl, o σ H F (Go.refl r)⟩
  | cons _ _ => exact o.elim, fun xs ρ e ρ' q => by
    cases xs with
    | nil => cases q
    | cons _ _ => cases q⟩
theorem dgs_cons {g : PyData → M Unit} {gs : List (PyData → M Unit)} (h1 : DG X c e g) (h2 : DGs X c es gs) (hs : (assignEach (e :: es) X.env).map (·.2) = assign e X.env :: (assignEach es X.env).map (·.2) := by rfl) : DGs X c (e :: es) (g :: gs) :=
  ⟨pgs_imp (pgs_cons h1.pg h2.pg hs) fun v σ H Q ⟨F, ρ, xs, r, d, o⟩ => by
    cases d with
    | nil => exact o.elim
    | cons d t =>
      refine ⟨_, _, rfl, F, ρ, _, r, d, Out.mono (Out.bind o) (fun _ ρ1 q σ1 H1 F1 g1 => ?_) fun _ _ q => q⟩
      exact ⟨F1, ρ1, _, g1.rp, dpAll_mono g1.fr t, Out.mono q (fun _ ρ2 q2 σ2 H2 F2 g2 => q2 σ2 H2 F2 (g1.trans g2)) fun _ _ q => q⟩,
   fun xs ρ e ρ' q => by
    cases xs with
    | nil => cases q
    | cons x xs =>
      have q' : M.bind (g x) (fun _ => gsL gs xs) ρ = .err e ρ' := q
      unfold M.bind at q'
      cases z : g x ρ with
      | ok u ρ1 => rw [z] at q'; exact h2.ne _ _ _ _ q'
      | err e1 ρ1 => exact h1.ne _ _ _ _ z
      | stuck => rw [z] at q'; cases q'⟩
theorem dg_t {k n : Nat} {gs : List (PyData → M Unit)} (hc : X.calm = true) (h : DGs X c es gs) (hl : gs.length = n := by rfl) (hn : (assignEach es X.env).length = n := by rfl) (hst : (assignEach es X.env).findIdx? (·.1) = none := by rfl) : DG X c (.Tuple es k pos) (gT gs) :=
  ⟨pg_imp (pg_tup hc h.pg hn hst) fun v σ H Q ⟨F, ρ, x, r, d, o⟩ => by
    cases d with
    | tup hs ha =>
      rename_i a vs xs o0
      have o' : Out ((if xs.length = gs.length then gsL gs xs else M.stuck) ρ) (fun _ ρ' => ∀ σ' H' F', Go X.kx c.P ρ σ H F ρ' σ' H' F' → Q σ' H') (fun _ _ => True) := o
      by_cases hl2 : xs.length = gs.length
      · rw [if_pos hl2] at o'
        exact ⟨a, vs, rfl, sqT_mono r.sub hs, by rw [dpa_len ha, hl2, hl], F, ρ, xs, r, ha, o'⟩
      · rw [if_neg hl2] at o'; exact o'.elim
    | _ => exact o.elim,
   fun x ρ e ρ' q => by
    cases x with
    | tuple xs =>
      have q' : (if xs.length = gs.length then gsL gs xs else M.stuck) ρ = .err e ρ' := q
      by_cases hl2 : xs.length = gs.length
      · rw [if_pos hl2] at q'; exact h.ne _ _ _ _ q'
      · rw [if_neg hl2] at q'; cases q'
    | _ => cases q⟩
theorem Out.noerr {α : Type} {r : Res α} {P : α → Sl → Prop} {E : Exc → Sl → Prop} (h : Out r P E) (n : ∀ e ρ', r ≠ .err e ρ') : Out r P fun _ _ => True := by
  cases r with
  | ok a ρ => exact h
  | err e ρ => exact (n e ρ rfl).elim
  | stuck => exact h
theorem ds_asg {tg : Expr} {m : M PyData} {g : PyData → M Unit} (he : DE X c e m) (hg : DG X c tg g) (hs : swapsWithSole [tg] e pos.line X.env = pure false := by rfl) (hw : swappedStores [tg] e X.env = pure none := by rfl)
    (h1 : (assignEach [tg] X.env).map (·.2) = [assign tg X.env] := by rfl) : DS X c (.Assign [tg] e pos) (sAsg m g) := ps_imp (ps_asg he hg.pg hs hw h1) fun D σ H q =>
  tE.at q fun {F ρ a ρ' v H' F'} g1 r o => ⟨F', ρ', a, g1.rp, r, Out.mono (Out.noerr (Out.bind o) fun e ρ2 => hg.ne _ _ _ _) (fun _ ρ2 q2 σ2 H2 F2 g2 => q2 σ2 H2 F2 (g1.trans g2)) fun _ _ q => q⟩
theorem ds_asg2 {t1 t2 : Expr} {m : M PyData} {g g' : PyData → M Unit} (he : DE X c e m) (h1 : DG X c t1 g) (h2 : DG X c t2 g') (ha : (assignEach [t1, t2] X.env).map (·.2) = [assign t1 X.env, assign t2 X.env] := by rfl) (hw : swappedStores [t1, t2] e X.env = pure none := by rfl) :
    DS X c (.Assign [t1, t2] e pos) (sAsg2 m g g') := ps_imp (ps_asg2 he h1.pg h2.pg ha hw) fun D σ H q =>
  tE.at q fun {F ρ a ρ' v H' F'} g1 r o => ⟨F', ρ', a, g1.rp, r, Out.mono (Out.noerr (Out.bind o) fun e ρ2 => h1.ne _ _ _ _) (fun _ ρ2 q2 σ2 H2 F2 g2 => ⟨F2, ρ2, a, g2.rp, dp_mono g2.fr r,
    Out.mono (Out.noerr (Out.bind q2) fun e ρ2 => h2.ne _ _ _ _) (fun _ ρ3 q3 σ3 H3 F3 g3 => q3 σ3 H3 F3 ((g1.trans g2).trans g3)) fun _ _ q => q⟩) fun _ _ q => q⟩
/-! ### a, b = e, f with plain locals -/
theorem rc_go {K : Kx} {P : Pn} {F F1 H H1 : Hp} {ρ ρ1 : Sl} {σ : St} {fr : FR} {k : C} {v : V} (g : Go K P ρ σ H F ρ1 σ H1 F1) (r : RC K fr ρ σ H F k v) : RC K fr ρ1 σ H1 F1 k v := by
  have own : (∃ p o, v = .ref p ∧ fr p ∧ F p = none ∧ H p = some o ∧ IsO K F k o ∧ ¬ Own ρ σ p) → ∃ p o, v = .ref p ∧ fr p ∧ F1 p = none ∧ H1 p = some o ∧ IsO K F1 k o ∧ ¬ Own ρ1 σ p := fun ⟨p, o, h1, h2, h3, h4, h5, h6⟩ => by
    refine ⟨p, o, h1, h2, ?_, g.hp p o h6 h4, isO_mono g.fr h5, fun z => ?_⟩
    · cases y : F1 p with
      | none => rfl
      | some u =>
        rcases g.nw p u y with w | w | w
        · rw [h3] at w; cases w
        · rw [h4] at w; cases w
        · exact (h6 w).elim
    · rcases g.ow p z with w | w
      · exact h6 w
      · rw [h4] at w; cases w
  cases k with
  | d x => exact dp_mono g.fr r
  | f x => exact r
  | l x => exact own r
  | k x => exact own r
  | t x => exact own r
/-- the first one's slot filled, the other one's thing is still nobody's -/
theorem rc_put {K : Kx} {F H : Hp} {ρ : Sl} {σ : St} {fr' : FR} {k k' : C} {v v' : V} (i : Nat) (r' : RC K fr' ρ σ H F k' v') (hne : ∀ p, v = .ref p → k.own = true → ¬ fr' p) (hl : ρ.length = σ.length) :
    RC K fr' (ρ.set i (some k)) (σ.set i (some v)) H F k' v' := by
  have own : (∃ p o, v' = .ref p ∧ fr' p ∧ F p = none ∧ H p = some o ∧ IsO K F k' o ∧ ¬ Own ρ σ p) → ∃ p o, v' = .ref p ∧ fr' p ∧ F p = none ∧ H p = some o ∧ IsO K F k' o ∧ ¬ Own (ρ.set i (some k)) (σ.set i (some v)) p := fun ⟨p, o, h1, h2, h3, h4, h5, h6⟩ => by
    refine ⟨p, o, h1, h2, h3, h4, h5, fun ⟨j, oj, ej⟩ => ?_⟩
    rcases own_at oj with ⟨rfl, hlt, k0, q1, q2⟩ | ⟨hj, oj⟩
    · cases q1
      rw [List.getElem?_set_self (by rw [← hl]; exact hlt)] at ej
      cases ej
      exact hne p rfl q2 h2
    · rw [List.getElem?_set_ne (Ne.symm hj)] at ej
      exact h6 ⟨j, oj, ej⟩
  cases k' with
  | d x => exact r'
  | f x => exact r'
  | l x => exact own r'
  | k x => exact own r'
  | t x => exact own r'
theorem rc_there {K : Kx} {F H : Hp} {ρ : Sl} {σ : St} {fr : FR} {k : C} {v : V} (r : RC K fr ρ σ H F k v) : ∀ p, v = .ref p → k.own = true → ¬ Fr ρ σ H p := fun p e hk z => by
  have own : (∃ p o, v = .ref p ∧ fr p ∧ F p = none ∧ H p = some o ∧ IsO K F k o ∧ ¬ Own ρ σ p) → False := fun ⟨q, o, h1, _, _, h4, _, h6⟩ => by
    rw [h1] at e; cases e
    rcases z with z | z
    · rw [h4] at z; cases z
    · exact h6 z
  cases k with
  | d x => cases hk
  | f x => cases hk
  | l x => exact own r
  | k x => exact own r
  | t x => exact own r
theorem ds_set2 {ma mb : M C} {px py pt : Pos} {kt k2 pt2} (hc : X.calm = true) (hN : X.N.Nodup) (hi : X.N[i]? = some x) (hj : X.N[j]? = some y) (hij : i ≠ j) (hPi : c.P.all i = false) (hPj : c.P.all j = false)
    (hx : X.env.scope.names.lookup x = some .local) (hy : X.env.scope.names.lookup y = some .local) (ha : DO X c a ma) (hb : DO X c b mb)
    (hw : swappedStores [.Tuple [.Name x px, .Name y py] kt pt] (.Tuple [a, b] k2 pt2) X.env = pure (some [x, y]))
    (hs : swapsWithSole [.Tuple [.Name x px, .Name y py] kt pt] (.Tuple [a, b] k2 pt2) pos.line X.env = pure false := by rfl) (he : starEach [a, b] X.env = (false, eval a X.env) :: starEach [b] X.env := by rfl) (he2 : starEach [b] X.env = (false, eval b X.env) :: starEach [] X.env := by rfl) :
    DS X c (.Assign [.Tuple [.Name x px, .Name y py] kt pt] (.Tuple [a, b] k2 pt2) pos) (sSet2 i j ma mb) :=
  ps_imp (ps_par hc hN hi hj hij hx hy (pa_cons ha (pa_cons hb pa_nil he2) he) hw hs) fun D σ H q =>
    tE.at q fun {F ρ ka ρ1 va H1 F1} g1 r1 o => ⟨F1, ρ1, g1.rp, Out.mono (Out.bind o) (fun kb ρ2 q2 vb H2 F2 g2 r2 => by
      refine ⟨va, vb, rfl, ?_⟩
      have r1' := rc_go g2 r1
      have g12 := g1.trans g2
      have gp := g12.put r1' hPi
      have r2' := rc_base g1 (rc_put i r2 (rc_there r1) g2.rp.len)
      exact q2 _ _ _ (gp.put r2' hPj)) fun e ρ2 q cv dd H2 F2 g2 er => q cv dd σ H2 F2 (g1.trans g2) er⟩
end
end DL

set_option Elab.async false
set_option linter.all false
set_option maxRecDepth 100000
set_option maxHeartbeats 2000000
namespace DL
open PySem PySem.Spec PyProof.Rows L2
/-! ### a, b, c = e, f, g with plain locals -/
section
variable {X : Cx} {c : Ct} {s : Stmt} {ss : List Stmt} {e a b d : Expr} {es : List Expr} {pos : Pos} {m1 m2 : M Fl} {x y z : Str} {i j l : Nat}
theorem ds_set3 {ma mb mc : M C} {px py pz pt : Pos} {kt k2 pt2} (hc : X.calm = true) (hN : X.N.Nodup) (hi : X.N[i]? = some x) (hj : X.N[j]? = some y) (hl : X.N[l]? = some z) (hij : i ≠ j) (hil : i ≠ l) (hjl : j ≠ l) (hPi : c.P.all i = false) (hPj : c.P.all j = false) (hPl : c.P.all l = false)
    (hx : X.env.scope.names.lookup x = some .local) (hy : X.env.scope.names.lookup y = some .local) (hz : X.env.scope.names.lookup z = some .local) (ha : DO X c a ma) (hb : DO X c b mb) (hd : DO X c d mc)
    (hw : swappedStores [.Tuple [.Name x px, .Name y py, .Name z pz] kt pt] (.Tuple [a, b, d] k2 pt2) X.env = pure (some [x, y, z]))
    (hs : swapsWithSole [.Tuple [.Name x px, .Name y py, .Name z pz] kt pt] (.Tuple [a, b, d] k2 pt2) pos.line X.env = pure false := by rfl) (he : starEach [a, b, d] X.env = (false, eval a X.env) :: starEach [b, d] X.env := by rfl) (he2 : starEach [b, d] X.env = (false, eval b X.env) :: starEach [d] X.env := by rfl)
    (he3 : starEach [d] X.env = (false, eval d X.env) :: starEach [] X.env := by rfl) :
    DS X c (.Assign [.Tuple [.Name x px, .Name y py, .Name z pz] kt pt] (.Tuple [a, b, d] k2 pt2) pos) (sSet3 i j l ma mb mc) :=
  ps_imp (ps_par3 hc hN hi hj hl hij hil hjl hx hy hz (pa_cons ha (pa_cons hb (pa_cons hd pa_nil he3) he2) he) hw hs) fun D σ H q =>
    tE.at q fun {F ρ ka ρ1 va H1 F1} g1 r1 o => ⟨F1, ρ1, g1.rp, Out.mono (Out.bind o) (fun kb ρ2 q2 vb H2 F2 g2 r2 => ⟨F2, ρ2, g2.rp, Out.mono (Out.bind q2) (fun kc ρ3 q3 vc H3 F3 g3 r3 => by
      refine ⟨va, vb, vc, rfl, ?_⟩
      have ra := rc_go g3 (rc_go g2 r1)
      have rb := rc_go g3 r2
      have g123 := (g1.trans g2).trans g3
      have l3 := g3.rp.len
      have gp := g123.put ra hPi
      have gq := gp.put (rc_base g1 (rc_put i rb (rc_there r1) l3)) hPj
      have rc1 := rc_put i r3 (rc_there (rc_go g2 r1)) l3
      have rc3 := rc_base (g1.trans g2) (rc_put j rc1 (rc_there r2) (by rw [List.length_set, List.length_set]; exact l3))
      exact q3 _ _ _ (gq.put rc3 hPl)) fun e ρ3 q cv dd H3 F3 g3 er => q cv dd σ H3 F3 ((g1.trans g2).trans g3) er⟩) fun e ρ2 q cv dd H2 F2 g2 er => q cv dd σ H2 F2 (g1.trans g2) er⟩
/-! ### raise X() -/
theorem pmk_own0 {C : Addr} {bmB : List Value} {B newId initId : String} {p : Pos} (F : ExcBaseFacts B newId initId bmB) (q : PySem.W.excIn X.K C bmB newId = true) (gC : X.mg x = some (.ref C)) (kC : PySem.W.keepIn X.K (.ref C) = true) (r : Raises X (.ref C)) (hg : Gl X x)
    (hdb : (x == ("__debug__" : Str)) = false := by decide) : PMk X (.Call (.Name x p) [] [] pos) (fun _ H Q => Q (.ref C) none H) := by
  intro pins s σ H Q I h
  refine wpAny_Call_Name_kw (ld_glob I hg gC ?_ hdb)
  refine PySem.W.callWith_K0 I.kIn kC ?_
  obtain ⟨bm, N, nm, qn, bs, hdct, sn, sub, ab, col, dd, k0, k1, k2, k3, k5, mN, hC, hN, hni, T⟩ := exc_obj I.kIn q
  refine wpAny_call_exc_subT F T hC hN hni (fun h' e hm => ?_) (by show 0 ≤ sizeLine; exact Nat.zero_le _)
  exact mk_of I hm r h (I.hok.gone hm.new)
/-- an own exception class, as the head leaves it -/
structure ExF (K : Kx) (x : Str) (C : Addr) : Prop where
  gl : K.mg x = some (.ref C)
  ex : PySem.W.excIn K.fr C He.veBase "ValueError.__new__" = true
  kp : PySem.W.keepIn K.fr (.ref C) = true
  sb : PySem.W.subIn K.fr (.ref C) (.type "BaseException") = some true
  ty : PySem.W.typeIn K.fr (.ref C) = some (.type "type")
theorem ds_raise {C : Addr} {p p2 : Pos} {ex : Exc} (hc : X.calm = true) (tk : Takes X c.W) (hx : ExF X.kx x C) (hg : Gl X x) (he : ∀ H, c.ER ex (.ref C) none H) (hdb : (x == ("__debug__" : Str)) = false := by decide) :
    DS X c (.Raise (some (.Call (.Name x p) [] [] p2)) none pos) (sErr ex) := ps_imp (L2.ps_raise hc tk (pmk_own0 PySem.F.excBase_ValueError hx.ex hx.gl hx.kp (raises_own hx.sb hx.ty) hg hdb)) fun D σ H ⟨F, ρ, r, o⟩ => o _ _ σ H F (Go.refl r) (he H)
/-! ### lists of a slot's own -/
theorem lsAt_own {K : Kx} {F H : Hp} {ρ : Sl} {σ : St} {xs : List PyData} (r : Rp K F ρ σ H) (h : lsAt i ρ = some xs) : ∃ a vs, ρ[i]? = some (some (.l xs)) ∧ σ[i]? = some (some (.ref a)) ∧ H a = some (.lst vs) ∧ DpAll K F vs xs := by
  unfold lsAt at h
  cases z : ρ[i]? with
  | none => rw [z] at h; cases h
  | some o =>
    cases o with
    | none => rw [z] at h; cases h
    | some k =>
      rw [z] at h
      cases k with
      | l ys =>
        cases h
        obtain ⟨a, o, h1, h2, h3, h4⟩ := r.own i _ z rfl
        obtain ⟨vs, rfl, h5⟩ := isO_l h4
        exact ⟨a, vs, rfl, h1, h3, h5⟩
      | _ => cases h
theorem sOn_out {K : Kx} {D : Ends} {ρ : Sl} {m : M Fl} {P : Fl → Sl → Prop} {E : Exc → Sl → Prop} (h : Out (sOn i m ρ) P E) : ∃ xs, lsAt i ρ = some xs ∧ Out (m ρ) P E := by
  unfold sOn at h
  cases z : lsAt i ρ with
  | none => rw [z] at h; exact h.elim
  | some xs => rw [z] at h; exact ⟨xs, rfl, h⟩
theorem ds_app {m : M PyData} {p1 p2 p3 : Pos} (ho : PE X a (L2.tVar i)) (he : DE X c e m) (hbase : attributeBase a "append" X.env (eval a X.env) = eval a X.env := by rfl)
    (hfew : ((backTo p2 (starEach [e] X.env)).all (fun x => !x.1) && (backToKw p2 (keywordEach [] X.env)).all (fun x => x.1.isSome)
      && decide ([e].length + ([] : List Keyword).length + (if ([] : List Keyword).isEmpty then 0 else 1) < 30)) = true := by rfl)
    (hline : (p1.endLine == p2.line) = true := by rfl) (hs : starEach [e] X.env = (false, eval e X.env) :: starEach [] X.env := by rfl) (hplain : (backTo p2 (starEach [] X.env)).any (·.1) = false := by rfl)
    (hsw : swapsWith (.Call (.Attribute a "append" p1) [e] [] p2) none p3.line X.env = pure false := by rfl) :
    DS X c (.Expr (.Call (.Attribute a "append" p1) [e] [] p2) p3) (sApp i m) :=
  ps_imp (ps_expr (pe_bm PySem.F.plainAttrs_list PySem.F.slot_list_append (by rfl) mt_append ho (pa_cons he pa_nil hs) hbase hfew hline hs hplain) hsw) fun D σ H ⟨F, ρ, r, o⟩ => by
    obtain ⟨xs, hl, o⟩ := sOn_out (K := X.kx) (D := D) o
    obtain ⟨a, vs, z, h1, h2, h3⟩ := lsAt_own r hl
    refine ⟨.ref a, h1, .inl ⟨rfl, vs, .of h2⟩, F, ρ, r, Out.mono (Out.bind o) (fun y ρ1 q v H1 F1 g1 d1 => ?_) fun e ρ1 q => q.ex⟩
    cases hl1 : lsAt i ρ1 with
    | none => rw [hl1] at q; exact q.elim
    | some xs1 =>
      rw [hl1] at q
      have q' : Out ((if xs1.length < sizeLine then .ok .nx (ρ1.set i (some (.l (xs1 ++ [y])))) else .stuck : Res Fl)) (SK X.kx c D ρ σ H F) (SE X.kx c ρ σ H F) := q
      by_cases hz : xs1.length < sizeLine
      · rw [if_pos hz] at q'
        obtain ⟨a1, vs1, z1, k1, k2, k3⟩ := lsAt_own g1.rp hl1
        rw [h1] at k1; cases k1
        exact ⟨a, vs1, v, rfl, rfl, k2, by rw [dpa_len k3]; exact hz, q' σ _ _ (g1.trans (Go.upd g1.rp z1 rfl rfl h1 (dpa_app k3 (dpa_one d1))))⟩
      · rw [if_neg hz] at q'; exact q'.elim
/-- xs[k] = v -/
theorem ds_setIx {mi mv : M PyData} {p1 : Pos} (ho : PE X a (L2.tVar i)) (hi : DE X c b mi) (he : DE X c e mv) (hs : swapsWithSole [.Subscript a b p1] e pos.line X.env = pure false := by rfl) (hw : swappedStores [.Subscript a b p1] e X.env = pure none := by rfl)
    (h1 : (assignEach [.Subscript a b p1] X.env).map (·.2) = [assign (.Subscript a b p1) X.env] := by rfl)
    (ha : ∀ v, assign (.Subscript a b p1) X.env v = (do
      let ov ← holding [v] (eval a X.env)
      let iv ← holding [v, ov] (eval b X.env)
      standAt p1
      holding [v, ov, iv] (setItem ov iv v)
      release [v, ov, iv] []) := by intro _; rfl) : DS X c (.Assign [.Subscript a b p1] e pos) (sSetIx i mi mv) :=
  ps_imp (ps_asg he (pg_sub ho hi set_list ha) hs hw h1) fun D σ H q => by
    refine tE.at (R := RD X.kx) q fun {F ρ d ρ1 v H1 F1} g1 d1 o => ?_
    obtain ⟨xs, hl, o⟩ := sOn_out (K := X.kx) (D := D) o
    obtain ⟨a, vs, z, h1, h2, h3⟩ := lsAt_own g1.rp hl
    refine ⟨.ref a, h1, F1, ρ1, g1.rp, Out.mono (Out.bind o) (fun y ρ2 q u H2 F2 g2 d2 => ?_) fun e ρ2 q cv dd H2 F2 g2 er => q cv dd σ H2 F2 (g1.trans g2) er⟩
    cases hl1 : lsAt i ρ2 with
    | none => rw [hl1] at q; exact q.elim
    | some xs1 =>
      rw [hl1] at q
      have q' : Out (match ixOf xs1.length y with
        | some k => .ok .nx (ρ2.set i (some (.l (xs1.set k d))))
        | none => .stuck) (SK X.kx c D ρ σ H F) (SE X.kx c ρ σ H F) := q
      cases hk : ixOf xs1.length y with
      | none => rw [hk] at q'; exact q'.elim
      | some k =>
        rw [hk] at q'
        cases y with
        | int jj =>
          cases d2
          obtain ⟨a1, vs1, z1, k1, k2, k3⟩ := lsAt_own g2.rp hl1
          rw [h1] at k1; cases k1
          exact ⟨a, vs1, jj, k, rfl, rfl, k2, by rw [dpa_len k3]; exact hk, q' σ _ _ ((g1.trans g2).trans (Go.upd g2.rp z1 rfl rfl h1 (dpa_set (dp_mono g2.fr d1) k k3)))⟩
        | _ => cases hk
end
end DL

set_option Elab.async false
set_option linter.all false
set_option maxRecDepth 100000
set_option maxHeartbeats 2000000
namespace DL
open PySem PySem.Spec PyProof.Rows L2 RZ
section
variable {X : Cx} {c : Ct} {s : Stmt} {ss : List Stmt} {e a b d tg iter : Expr} {es body : List Expr} {pos : Pos} {m1 m2 : M Fl} {x y z : Str} {i j l : Nat}
/-! ### while -/
theorem sWhile_out {K : Kx} {t : M Bool} {b : M Fl} {ρ : Sl} {P : Fl → Sl → Prop} {E : Exc → Sl → Prop} (h : Out (sWhile t b ρ) P E) : ∃ n, Out (sWhileN t b n ρ) P E := by
  unfold sWhile at h
  by_cases hn : ∃ n, ¬ (sWhileN t b n ρ).bad
  · rw [dif_pos hn] at h
    exact ⟨_, h⟩
  · rw [dif_neg hn] at h
    exact h.elim
theorem ds_while {t : M Bool} {b : M Fl} {bs : List Stmt} (hp : PassesOwn (model X.prog X.w) X.A X.env X.xe) (hc : DT X c e t) (hb : DSs X c bs b) : DS X c (.While e bs [] pos) (sWhile t b) :=
  ps_imp (ps_while hp hc hb) fun D σ0 H0 ⟨F0, ρ0, r0, o0⟩ => by
    obtain ⟨n0, o0⟩ := sWhile_out (K := X.kx) o0
    refine ⟨fun n σ H => ∃ F ρ, Go X.kx c.P ρ0 σ0 H0 F0 ρ σ H F ∧ Out (sWhileN t b n ρ) (SK X.kx c D ρ0 σ0 H0 F0) (SE X.kx c ρ0 σ0 H0 F0), ⟨n0, F0, ρ0, Go.refl r0, o0⟩, ?_⟩
    rintro n σ H ⟨F, ρ, g, o⟩
    cases n with
    | zero => exact o.elim
    | succ n =>
      have o1 := Out.bind o
      refine ⟨F, ρ, g.rp, Out.mono o1 (fun k ρ1 q kb H1 F1 g1 hk => ?_) fun e ρ1 q => (q.base g).ex⟩
      cases hk
      cases k with
      | false => exact q σ H1 F1 (g.trans g1)
      | true =>
        refine ⟨fun σ' H' => ∃ F ρ, Go X.kx c.P ρ0 σ0 H0 F0 ρ σ' H' F ∧ Out (sWhileN t b n ρ) (SK X.kx c D ρ0 σ0 H0 F0) (SE X.kx c ρ0 σ0 H0 F0), fun σ' H' ⟨F2, ρ2, g2, o2⟩ => ⟨n, Nat.lt_succ_self n, F2, ρ2, g2, o2⟩, ?_⟩
        have q1 := Out.bind q
        refine ⟨F1, ρ1, g1.rp, Out.mono q1 (fun fl ρ2 q2 σ2 H2 F2 g2 => ?_) fun e ρ2 q2 => (q2.base g).base g1⟩
        have g3 := (g.trans g1).trans g2
        cases fl with
        | nx => exact ⟨F2, ρ2, g3, q2⟩
        | ct => exact ⟨F2, ρ2, g3, q2⟩
        | bk => exact q2 σ2 H2 F2 g3
        | rt r => exact fun v rr => q2 σ2 H2 F2 g3 v (rc_base (g.trans g1) rr)
/-! ### for -/
/-- the items that an iterator gives -/
def ItD (K : Kx) (J : It) (xs : List PyData) (F : Hp) : Prop := ∀ (F1 : Hp) (P : Pn) (ρ : Sl) (σ : St) (H : Hp), Same F F1 → Rp K F1 ρ σ H →
  J.stop xs.length H ∧ ∀ i d, xs[i]? = some d → J.go i H ∧ ∀ x H', J.yld i H x H' → ∃ F2, Go K P ρ σ H F1 ρ σ H' F2 ∧ Dp K F2 x d
def tI (K : Kx) (c : Ct) (mi : M (List PyData)) : TI := fun σ H R => ∃ F ρ, Rp K F ρ σ H ∧ Out (mi ρ) (fun xs ρ' => ∀ J H' F', Go K c.P ρ σ H F ρ' σ H' F' → ItD K J xs F' → R J H')
  fun e ρ' => ∀ cv dd H' F', Go K c.P ρ σ H F ρ' σ H' F' → c.ER e cv dd H' → c.W cv dd σ H'
abbrev DI (X : Cx) (c : Ct) (tg iter : Expr) (mi : M (List PyData)) : Prop := PI X tg iter (tI X.kx c mi)
theorem pi_imp {t t' : TI} (h : PI X tg iter t) (i : ∀ σ H R, t' σ H R → t σ H R) : PI X tg iter t' := ⟨fun pins s σ H R I q => h.run pins s σ H R I (i σ H R q)⟩
theorem pi_or {t t' : TI} (h : PI X tg iter t) (h' : PI X tg iter t') : PI X tg iter (fun σ H R => t σ H R ∨ t' σ H R) := ⟨fun pins s σ H R I q => by
  rcases q with q | q
  · exact h.run pins s σ H R I q
  · exact h'.run pins s σ H R I q⟩
theorem ds_for {mi : M (List PyData)} {g : PyData → M Unit} {b : M Fl} {bs : List Stmt} (hp : PassesOwn (model X.prog X.w) X.A X.env X.xe) (hc : X.calm = true) (hi : DI X c tg iter mi) (hg : DG X c tg g) (hb : DSs X c bs b)
    (hs : ∀ x, foldedSetIterable iter X.env x = pure x := by intro _; rfl) : DS X c (.For tg iter bs [] pos) (sFor mi g b) :=
  ps_imp (ps_for hp hc hi hg.pg hb hs) fun D σ0 H0 ⟨F0, ρ0, r0, o0⟩ => by
    refine ⟨F0, ρ0, r0, Out.mono (Out.bind o0) (fun xs ρ1 o1 J H1 F1 g1 hJ => ?_) fun e ρ1 q => q.ex⟩
    let Wv : Nat → St → Hp → Prop := fun i σ H => i ≤ xs.length ∧ ∃ F ρ, Go X.kx c.P ρ0 σ0 H0 F0 ρ σ H F ∧ Same F1 F ∧ Out (sForL g b (xs.drop i) ρ) (SK X.kx c D ρ0 σ0 H0 F0) (SE X.kx c ρ0 σ0 H0 F0)
    refine ⟨fun i m σ H => m = xs.length - i ∧ Wv i σ H, ⟨_, rfl, Nat.zero_le _, F1, ρ1, g1, Same.refl F1, o1⟩, ?_⟩
    rintro i m σ H ⟨rfl, hi, F, ρ, gg, sm, o⟩
    obtain ⟨hstop, hgo⟩ := hJ F c.P ρ σ H sm gg.rp
    by_cases hlt : i < xs.length
    · obtain ⟨h1, h2⟩ := hgo i _ (List.getElem?_eq_getElem hlt)
      refine .inr ⟨h1, Wv (i + 1), fun σ' H' w => ⟨xs.length - (i + 1), by omega, rfl, w⟩, fun v H' y => ?_⟩
      obtain ⟨F2, g2, d2⟩ := h2 v H' y
      rw [List.drop_eq_getElem_cons hlt] at o
      have o2 := Out.bind o
      refine ⟨F2, ρ, _, g2.rp, d2, Out.mono (Out.noerr o2 fun e ρ2 => hg.ne _ _ _ _) (fun _ ρ3 o3 σ3 H3 F3 g3 => ?_) fun _ _ q => q⟩
      refine ⟨F3, ρ3, g3.rp, Out.mono (Out.bind o3) (fun fl ρ4 q4 σ4 H4 F4 g4 => ?_) fun e ρ4 q => ((q.base gg).base g2).base g3⟩
      have g5 := ((gg.trans g2).trans g3).trans g4
      have s5 : Same F1 F4 := ((sm.trans g2.fr).trans g3.fr).trans g4.fr
      cases fl with
      | nx => exact ⟨hlt, F4, ρ4, g5, s5, q4⟩
      | ct => exact ⟨hlt, F4, ρ4, g5, s5, q4⟩
      | bk => exact q4 σ4 H4 F4 g5
      | rt r => exact fun v rr => q4 σ4 H4 F4 g5 v (rc_base ((gg.trans g2).trans g3) rr)
    · have e : i = xs.length := by omega
      subst e
      rw [List.drop_eq_nil_of_le (Nat.le_refl _)] at o
      exact .inl ⟨hstop, o σ H F gg⟩
/-! ### what is walked -/
theorem itl_d {K : Kx} {F : Hp} {a : Addr} {vs : List V} {xs : List PyData} (hs : Rd F a (.lst vs)) (ha : DpAll K F vs xs) : ItD K (Itl K a) xs F := fun F1 P ρ σ H sm r => by
  have s1 : SqL K H a vs := rd_seq (sm.trans r.sub) hs
  refine ⟨⟨vs, s1, by rw [dpa_len ha]; exact Nat.le_refl _⟩, fun i d e => ?_⟩
  obtain ⟨v, h1, h2⟩ := dpa_at ha e
  refine ⟨⟨vs, v, s1, h1⟩, fun x H' ⟨e1, e2⟩ => ?_⟩
  subst e1
  have := e2 vs s1
  rw [h1] at this; cases this
  exact ⟨F1, Go.refl r, dp_mono sm h2⟩
theorem itt_d {K : Kx} {F : Hp} {a : Addr} {vs : List V} {xs : List PyData} (hs : SqT K F a vs) (ha : DpAll K F vs xs) : ItD K (Itt K a) xs F := fun F1 P ρ σ H sm r => by
  have s1 : SqT K H a vs := sqT_mono (sm.trans r.sub) hs
  refine ⟨⟨vs, s1, by rw [dpa_len ha]; exact Nat.le_refl _⟩, fun i d e => ?_⟩
  obtain ⟨v, h1, h2⟩ := dpa_at ha e
  refine ⟨⟨vs, v, s1, h1⟩, fun x H' ⟨e1, e2⟩ => ?_⟩
  subst e1
  have := e2 vs s1
  rw [h1] at this; cases this
  exact ⟨F1, Go.refl r, dp_mono sm h2⟩
theorem di_seq {m : M PyData} (h : DE X c iter m) : DI X c tg iter (mItems m) := pi_imp (pi_or (pi_list (tg := tg) h) (pi_tup (tg := tg) h)) fun σ H R ⟨F, ρ, r, o⟩ => by
  have o1 := Out.bind o
  cases z : m ρ with
  | ok d ρ1 =>
    rw [z] at o1
    obtain ⟨xs, e, q⟩ := Out.of o1
    cases d with
    | list ys =>
      cases e
      refine .inl ⟨F, ρ, r, ?_⟩
      unfold T1
      rw [z]
      intro v H1 F1 g1 d1
      cases d1 with
      | lst hs ha => exact ⟨_, rfl, ⟨_, rd_seq g1.rp.sub hs⟩, q _ H1 F1 g1 (itl_d hs ha)⟩
    | tuple ys =>
      cases e
      refine .inr ⟨F, ρ, r, ?_⟩
      unfold T1
      rw [z]
      intro v H1 F1 g1 d1
      cases d1 with
      | tup hs ha => exact ⟨_, rfl, ⟨_, sqT_mono g1.rp.sub hs⟩, q _ H1 F1 g1 (itt_d hs ha)⟩
    | _ => cases e
  | err e ρ1 =>
    rw [z] at o1
    refine .inl ⟨F, ρ, r, ?_⟩
    unfold T1
    rw [z]
    exact o1
  | stuck => rw [z] at o1; exact o1.elim
theorem itr_d {K : Kx} {F : Hp} {lo : Int} {n : Nat} : ItD K (Itr lo n) (intsL lo n) F := fun F1 P ρ σ H sm r => by
  have hl : (intsL lo n).length = n := by unfold intsL; rw [List.length_map, List.length_range]
  refine ⟨by rw [hl]; exact Nat.le_refl n, fun i d e => ?_⟩
  have hi : i < n := by rw [← hl]; exact (List.getElem?_eq_some_iff.mp e).1
  have hd : d = .int (lo + i) := by
    unfold intsL at e
    rw [List.getElem?_map, List.getElem?_range hi] at e
    exact (Option.some.inj e).symm
  subst hd
  refine ⟨hi, fun x H' ⟨e1, e2⟩ => ?_⟩
  subst e1 e2
  exact ⟨F1, Go.refl r, .int _⟩
theorem di_range1 {m : M PyData} {p pos : Pos} (hg : Gl X "range") (hm : X.mg "range" = none) (ha : DE X c a m) (hs : starEach [a] X.env = [(false, eval a X.env)] := by rfl) : DI X c tg (.Call (.Name "range" p) [a] [] pos) (mRng1 m) :=
  pi_imp (pi_range1 hg hm (pa_cons ha pa_nil hs) hs) fun σ H R ⟨F, ρ, r, o⟩ => ⟨F, ρ, r, Out.mono (Out.bind o) (fun d ρ1 q v H1 F1 g1 d1 => by
    obtain ⟨xs, e, q⟩ := Out.of q
    cases d with
    | int j =>
      cases d1
      have e' : (if -(2 ^ 62) ≤ j ∧ j < 2 ^ 62 then some (intsL 0 j.toNat) else none) = some xs := e
      by_cases hj : -(2 ^ 62) ≤ j ∧ j < 2 ^ 62
      · rw [if_pos hj] at e'
        cases e'
        exact ⟨j, rfl, hj.1, hj.2, q _ H1 F1 g1 itr_d⟩
      · rw [if_neg hj] at e'; cases e'
    | _ => cases e) fun e ρ1 q => q⟩
theorem di_range2 {m m' : M PyData} {p pos : Pos} (hg : Gl X "range") (hm : X.mg "range" = none) (ha : DE X c a m) (hb : DE X c b m') (hs : starEach [a, b] X.env = [(false, eval a X.env), (false, eval b X.env)] := by rfl) (hs2 : starEach [b] X.env = [(false, eval b X.env)] := by rfl) : DI X c tg (.Call (.Name "range" p) [a, b] [] pos) (mRng2 m m') :=
  pi_imp (pi_range2 hg hm (pa_cons ha (pa_cons hb pa_nil hs2) (by rw [hs, hs2])) hs hs2) fun σ H R ⟨F, ρ, r, o⟩ => ⟨F, ρ, r, Out.mono (Out.bind o) (fun d ρ1 q v H1 F1 g1 d1 => ⟨F1, ρ1, g1.rp, Out.mono (Out.bind q) (fun d' ρ2 q u H2 F2 g2 d2 => by
    obtain ⟨xs, e, q⟩ := Out.of q
    cases d with
    | int i =>
      cases d' with
      | int j =>
        cases d1
        cases d2
        have e' : (if -(2 ^ 62) ≤ i ∧ i < 2 ^ 62 ∧ -(2 ^ 62) ≤ j ∧ j < 2 ^ 62 then some (intsL i (j - i).toNat) else none) = some xs := e
        by_cases hj : -(2 ^ 62) ≤ i ∧ i < 2 ^ 62 ∧ -(2 ^ 62) ≤ j ∧ j < 2 ^ 62
        · rw [if_pos hj] at e'
          cases e'
          exact ⟨i, j, rfl, hj, q _ H2 F2 (g1.trans g2) itr_d⟩
        · rw [if_neg hj] at e'; cases e'
      | _ => cases e
    | _ => cases e) fun e ρ2 q cv dd H2 F2 g2 er => q cv dd H2 F2 (g1.trans g2) er⟩) fun e ρ1 q => q⟩
/-- enumerate of a list -/
theorem enumL_at {xs : List PyData} {i : Nat} {d : PyData} (h : (enumL xs)[i]? = some d) : ∃ x, xs[i]? = some x ∧ d = .tuple [.int (i : Int), x] := by
  unfold enumL at h
  rw [List.getElem?_zipWith] at h
  cases e : xs[i]? with
  | none => rw [e] at h; cases h1 : (List.range xs.length)[i]? <;> (rw [h1] at h; cases h)
  | some x =>
    have hi := (List.getElem?_eq_some_iff.mp e).1
    rw [e, List.getElem?_range hi] at h
    exact ⟨x, rfl, (Option.some.inj h).symm⟩
theorem enumL_len {xs : List PyData} : (enumL xs).length = xs.length := by unfold enumL; rw [List.length_zipWith, List.length_range, Nat.min_self]
theorem ite_d {K : Kx} {F : Hp} {a : Addr} {vs : List V} {xs : List PyData} (hs : Rd F a (.lst vs)) (ha : DpAll K F vs xs) : ItD K (Ite K a) (enumL xs) F := fun F1 P ρ σ H sm r => by
  have s1 : SqL K H a vs := rd_seq (sm.trans r.sub) hs
  refine ⟨⟨vs, s1, by rw [dpa_len ha, enumL_len]; exact Nat.le_refl _⟩, fun i d e => ?_⟩
  obtain ⟨x, e1, rfl⟩ := enumL_at e
  obtain ⟨v, h1, h2⟩ := dpa_at ha e1
  refine ⟨⟨vs, v, s1, h1⟩, fun w H' ⟨T, x', e2, e3, e4, e5⟩ => ?_⟩
  have := e5 vs s1
  rw [h1] at this; cases this
  subst e2 e4
  have g := Go.data (P := P) r e3 (.tup [.int (i : Nat), v])
  exact ⟨_, g, .tup (.inl (.inl upd_same)) (.cons (.int _) (dpa_one (dp_mono g.fr (dp_mono sm h2))))⟩
theorem di_enum {m : M PyData} {p pos tpos : Pos} {elts : List Expr} {kk : Nat} (hg : Gl X "enumerate") (hm : X.mg "enumerate" = none) (ha : DE X c a m) (hs : starEach [a] X.env = [(false, eval a X.env)] := by rfl) : DI X c (.Tuple elts kk tpos) (.Call (.Name "enumerate" p) [a] [] pos) (mEnum m) :=
  pi_imp (pi_enum hg hm (pa_cons ha pa_nil hs) hs) fun σ H R ⟨F, ρ, r, o⟩ => ⟨F, ρ, r, Out.mono (Out.bind o) (fun d ρ1 q v H1 F1 g1 d1 => by
    obtain ⟨xs, e, q⟩ := Out.of q
    cases d with
    | list ys =>
      cases e
      cases d1 with
      | lst hs ha => exact ⟨_, _, rfl, rd_seq g1.rp.sub hs, q _ H1 F1 g1 (ite_d hs ha)⟩
    | _ => cases e) fun e ρ1 q => q⟩
/-- zip of two lists, of two tuples -/
theorem zipL_at {xs ys : List PyData} {i : Nat} {d : PyData} (h : (zipL xs ys)[i]? = some d) : ∃ x y, xs[i]? = some x ∧ ys[i]? = some y ∧ d = .tuple [x, y] := by
  unfold zipL at h
  rw [List.getElem?_zipWith] at h
  cases e : xs[i]? with
  | none => rw [e] at h; cases h
  | some x =>
    cases e' : ys[i]? with
    | none => rw [e, e'] at h; cases h
    | some y => rw [e, e'] at h; exact ⟨x, y, rfl, rfl, (Option.some.inj h).symm⟩
theorem zipL_len {xs ys : List PyData} : (zipL xs ys).length = min xs.length ys.length := by unfold zipL; rw [List.length_zipWith]
theorem itz_d {K : Kx} {F : Hp} {a b : Addr} {vs ws : List V} {xs ys : List PyData} (hs : Rd F a (.lst vs)) (ha : DpAll K F vs xs) (hs' : Rd F b (.lst ws)) (hb : DpAll K F ws ys) : ItD K (Itz K a b) (zipL xs ys) F := fun F1 P ρ σ H sm r => by
  have s1 : SqL K H a vs := rd_seq (sm.trans r.sub) hs
  have s2 : SqL K H b ws := rd_seq (sm.trans r.sub) hs'
  refine ⟨⟨vs, ws, s1, s2, by rw [dpa_len ha, dpa_len hb, zipL_len]; omega⟩, fun i d e => ?_⟩
  obtain ⟨x, y, e1, e2, rfl⟩ := zipL_at e
  obtain ⟨v, h1, h2⟩ := dpa_at ha e1
  obtain ⟨w, k1, k2⟩ := dpa_at hb e2
  refine ⟨⟨vs, ws, v, w, s1, s2, h1, k1⟩, fun u H' ⟨T, x', y', e2, e3, e4, e5, e6⟩ => ?_⟩
  have := e5 vs s1
  rw [h1] at this; cases this
  have := e6 ws s2
  rw [k1] at this; cases this
  subst e2 e4
  have g := Go.data (P := P) r e3 (.tup [v, w])
  exact ⟨_, g, .tup (.inl (.inl upd_same)) (.cons (dp_mono g.fr (dp_mono sm h2)) (dpa_one (dp_mono g.fr (dp_mono sm k2))))⟩
theorem itzt_d {K : Kx} {F : Hp} {a b : Addr} {vs ws : List V} {xs ys : List PyData} (hs : SqT K F a vs) (ha : DpAll K F vs xs) (hs' : SqT K F b ws) (hb : DpAll K F ws ys) : ItD K (ItzT K a b) (zipL xs ys) F := fun F1 P ρ σ H sm r => by
  have s1 : SqT K H a vs := sqT_mono (sm.trans r.sub) hs
  have s2 : SqT K H b ws := sqT_mono (sm.trans r.sub) hs'
  refine ⟨⟨vs, ws, s1, s2, by rw [dpa_len ha, dpa_len hb, zipL_len]; omega⟩, fun i d e => ?_⟩
  obtain ⟨x, y, e1, e2, rfl⟩ := zipL_at e
  obtain ⟨v, h1, h2⟩ := dpa_at ha e1
  obtain ⟨w, k1, k2⟩ := dpa_at hb e2
  refine ⟨⟨vs, ws, v, w, s1, s2, h1, k1⟩, fun u H' ⟨T, x', y', e2, e3, e4, e5, e6⟩ => ?_⟩
  have := e5 vs s1
  rw [h1] at this; cases this
  have := e6 ws s2
  rw [k1] at this; cases this
  subst e2 e4
  have g := Go.data (P := P) r e3 (.tup [v, w])
  exact ⟨_, g, .tup (.inl (.inl upd_same)) (.cons (dp_mono g.fr (dp_mono sm h2)) (dpa_one (dp_mono g.fr (dp_mono sm k2))))⟩
theorem di_zip {m m' : M PyData} {p pos tpos : Pos} {elts : List Expr} {kk : Nat} (hg : Gl X "zip") (hm : X.mg "zip" = none) (ha : DE X c a m) (hb : DE X c b m') (hs : starEach [a, b] X.env = (false, eval a X.env) :: starEach [b] X.env := by rfl) (hs2 : starEach [b] X.env = (false, eval b X.env) :: starEach [] X.env := by rfl)
    (hpl : (backTo pos (starEach [b] X.env)).any (·.1) = false := by rfl) : DI X c (.Tuple elts kk tpos) (.Call (.Name "zip" p) [a, b] [] pos) (mZip m m') :=
  pi_imp (pi_zipA hg hm (pa_cons ha (pa_cons hb pa_nil hs2) hs) hs hpl) fun σ H R ⟨F, ρ, r, o⟩ => ⟨F, ρ, r, Out.mono (Out.bind o) (fun d ρ1 q v H1 F1 g1 d1 => ⟨F1, ρ1, g1.rp, Out.mono (Out.bind q) (fun d' ρ2 q u H2 F2 g2 d2 => by
    obtain ⟨xs, e, q⟩ := Out.of q
    have d1' := dp_mono g2.fr d1
    cases d with
    | list i =>
      cases d' with
      | list j =>
        cases e
        cases d1' with
        | lst hs ha => cases d2 with
          | lst hs2 hb => exact ⟨_, _, _, _, rfl, .inl ⟨rd_seq g2.rp.sub hs, rd_seq g2.rp.sub hs2, q _ H2 F2 (g1.trans g2) (itz_d hs ha hs2 hb)⟩⟩
      | _ => cases e
    | tuple i =>
      cases d' with
      | tuple j =>
        cases e
        cases d1' with
        | tup hs ha => cases d2 with
          | tup hs2 hb => exact ⟨_, _, _, _, rfl, .inr ⟨sqT_mono g2.rp.sub hs, sqT_mono g2.rp.sub hs2, q _ H2 F2 (g1.trans g2) (itzt_d hs ha hs2 hb)⟩⟩
      | _ => cases e
    | _ => cases e) fun e ρ2 q cv dd H2 F2 g2 er => q cv dd H2 F2 (g1.trans g2) er⟩) fun e ρ1 q => q⟩
end
end DL

set_option Elab.async false
set_option linter.all false
set_option maxRecDepth 100000
set_option maxHeartbeats 2000000
namespace DL
open PySem PySem.Spec PyProof.Rows L2
section
variable {K : Kx} {F F' H H' : Hp} {cs ρ' : Sl} {vs : List V} {N : List Str} {pm : List Nat} {σ' : St}
theorem app_at {k i : Nat} {c : C} (h : (cs ++ List.replicate k none)[i]? = some (some c)) : cs[i]? = some (some c) := by
  by_cases hi : i < cs.length
  · rw [List.getElem?_append_left hi] at h; exact h
  · rw [List.getElem?_append_right (by omega), List.getElem?_replicate] at h
    split at h <;> cases h
theorem app_at' {k i : Nat} {c : Option C} (h : cs[i]? = some c) : (cs ++ List.replicate k none)[i]? = some c := by
  rw [List.getElem?_append_left (List.getElem?_eq_some_iff.mp h).1]; exact h
theorem start_at {i : Nat} {v : V} (h : (start N vs)[i]? = some (some v)) : (vs.map some)[i]? = some (some v) := by
  unfold L2.start at h
  by_cases hi : i < (vs.map some).length
  · rw [List.getElem?_append_left hi] at h; exact h
  · rw [List.getElem?_append_right (by omega), List.getElem?_replicate] at h
    split at h <;> cases h
theorem start_lt {i : Nat} (h : i < vs.length) : (start N vs)[i]? = (vs.map some)[i]? := by
  unfold L2.start
  rw [List.getElem?_append_left (by rw [List.length_map]; exact h)]
theorem start_at' {i : Nat} {v : Option V} (h : (vs.map some)[i]? = some v) : (start N vs)[i]? = some v := by
  rw [start_lt (by have := (List.getElem?_eq_some_iff.mp h).1; rwa [List.length_map] at this)]; exact h
theorem rp_start (r : Rp K F cs (vs.map some) H) : Rp K F (cs ++ List.replicate (N.length - vs.length) none) (start N vs) H := by
  have hl : cs.length = vs.length := by rw [r.len, List.length_map]
  refine ⟨r.sub, ?_, fun i x e => ?_, fun i x e => ?_, fun i k e hk => ?_, fun i j a ⟨k, e, hk⟩ ⟨k', e', hk'⟩ h1 h2 => r.apart i j a ⟨k, app_at e, hk⟩ ⟨k', app_at e', hk'⟩ (start_at h1) (start_at h2)⟩
  · unfold L2.start
    rw [List.length_append, List.length_append, hl, List.length_map, List.length_replicate, List.length_replicate]
  · obtain ⟨v, h1, h2⟩ := r.dat i x (app_at e)
    exact ⟨v, start_at' h1, h2⟩
  · obtain ⟨v, h1, h2⟩ := r.fn i x (app_at e)
    exact ⟨v, h1, start_at' h2⟩
  · obtain ⟨a, o, h1, h2⟩ := r.own i k (app_at e) hk
    exact ⟨a, o, start_at' h1, h2⟩
theorem own_start {k : Nat} {b : Addr} (h : Own (cs ++ List.replicate k none) (start N vs) b) : Own cs (vs.map some) b := by
  obtain ⟨i, ⟨c, e, hc⟩, h1⟩ := h
  exact ⟨i, ⟨c, app_at e, hc⟩, start_at h1⟩
theorem own_start' {k : Nat} {b : Addr} (h : Own cs (vs.map some) b) : Own (cs ++ List.replicate k none) (start N vs) b := by
  obtain ⟨i, ⟨c, e, hc⟩, h1⟩ := h
  exact ⟨i, ⟨c, app_at' e, hc⟩, start_at' h1⟩
theorem fin_at {n i : Nat} {o : Option C} (h : (finSl n pm cs ρ')[i]? = some o) : i < n ∧ o = if i ∈ pm then (ρ'[i]?).join else (cs[i]?).join := by
  unfold finSl at h
  have hi : i < n := by
    have := (List.getElem?_eq_some_iff.mp h).1
    rwa [List.length_map, List.length_range] at this
  rw [List.getElem?_map, List.getElem?_range hi] at h
  exact ⟨hi, (Option.some.inj h).symm⟩
theorem fin_get {n i : Nat} (hi : i < n) : (finSl n pm cs ρ')[i]? = some (if i ∈ pm then (ρ'[i]?).join else (cs[i]?).join) := by
  unfold finSl
  rw [List.getElem?_map, List.getElem?_range hi]; rfl
theorem ok_sl {n i : Nat} (h : okSl n pm cs = true) (o : ownAt cs i) : i ∈ pm := by
  unfold okSl at h
  rw [Bool.and_eq_true] at h
  obtain ⟨c, e, hc⟩ := o
  have hl : cs.length = n := of_decide_eq_true h.1
  have hi : i < n := by rw [← hl]; exact (List.getElem?_eq_some_iff.mp e).1
  have q := List.all_eq_true.mp h.2 i (List.mem_range.mpr hi)
  rw [e] at q
  have q' : (pm.contains i || !c.own) = true := q
  rw [hc, Bool.not_true, Bool.or_false] at q'
  exact List.contains_iff_mem.mp q'
theorem go_fin (r : Rp K F cs (vs.map some) H) (ok : okSl vs.length pm cs = true) (g : Go K (ofP pm) (cs ++ List.replicate (N.length - vs.length) none) (start N vs) H F ρ' σ' H' F') :
    Go K (allP vs.length) cs (vs.map some) H F (finSl vs.length pm cs ρ') (vs.map some) H' F' ∧ ∀ p, Own (finSl vs.length pm cs ρ') (vs.map some) p → Own ρ' σ' p := by
  have sm : ∀ i, i ∈ pm → i < vs.length → σ'[i]? = (vs.map some)[i]? := fun i h1 h2 => by rw [g.pn i (List.contains_iff_mem.mpr h1), start_lt h2]
  have ownF : ∀ i, ownAt (finSl vs.length pm cs ρ') i → i < vs.length ∧ i ∈ pm ∧ ownAt ρ' i := fun i ⟨c, e, hc⟩ => by
    obtain ⟨h1, h2⟩ := fin_at e
    by_cases hp : i ∈ pm
    · rw [if_pos hp] at h2
      exact ⟨h1, hp, c, join_some h2.symm, hc⟩
    · rw [if_neg hp] at h2
      exact (hp (ok_sl ok ⟨c, join_some h2.symm, hc⟩)).elim
  have up : ∀ p, Own (finSl vs.length pm cs ρ') (vs.map some) p → Own ρ' σ' p := fun p ⟨i, o, e⟩ => by
    obtain ⟨h1, h2, h3⟩ := ownF i o
    exact ⟨i, h3, by rw [sm i h2 h1]; exact e⟩
  refine ⟨⟨⟨g.rp.sub, by unfold finSl; rw [List.length_map, List.length_range, List.length_map], fun i x e => ?_, fun i x e => ?_, fun i c e hc => ?_, fun i j a o1 o2 e1 e2 => ?_⟩, g.fr, fun b o n e => g.hp b o (fun z => n (own_start z)) e, g.th, fun b o e => ?_, fun b o => ?_, fun i hi => rfl, fun i hi o => ?_, rfl⟩, up⟩
  · obtain ⟨h1, h2⟩ := fin_at e
    by_cases hp : i ∈ pm
    · rw [if_pos hp] at h2
      obtain ⟨v, q1, q2⟩ := g.rp.dat i x (join_some h2.symm)
      exact ⟨v, by rw [← sm i hp h1]; exact q1, q2⟩
    · rw [if_neg hp] at h2
      obtain ⟨v, q1, q2⟩ := r.dat i x (join_some h2.symm)
      exact ⟨v, q1, dp_mono g.fr q2⟩
  · obtain ⟨h1, h2⟩ := fin_at e
    by_cases hp : i ∈ pm
    · rw [if_pos hp] at h2
      obtain ⟨v, q1, q2⟩ := g.rp.fn i x (join_some h2.symm)
      exact ⟨v, q1, by rw [← sm i hp h1]; exact q2⟩
    · rw [if_neg hp] at h2
      exact r.fn i x (join_some h2.symm)
  · obtain ⟨h1, h2⟩ := fin_at e
    obtain ⟨_, hp, _⟩ := ownF i ⟨c, e, hc⟩
    rw [if_pos hp] at h2
    obtain ⟨a, o, q1, q2⟩ := g.rp.own i c (join_some h2.symm) hc
    exact ⟨a, o, by rw [← sm i hp h1]; exact q1, q2⟩
  · obtain ⟨h1, h2, h3⟩ := ownF i o1
    obtain ⟨k1, k2, k3⟩ := ownF j o2
    exact g.rp.apart i j a h3 k3 (by rw [sm i h2 h1]; exact e1) (by rw [sm j k2 k1]; exact e2)
  · rcases g.nw b o e with w | w | w
    · exact .inl w
    · exact .inr (.inl w)
    · exact .inr (.inr (own_start w))
  · rcases g.ow b (up b o) with w | w
    · exact .inl (own_start w)
    · exact .inr w
  · have hp := ok_sl ok o
    obtain ⟨c, e, hc⟩ := o
    obtain ⟨c', e', hc'⟩ := g.po i (List.contains_iff_mem.mpr hp) ⟨c, app_at' e, hc⟩
    exact ⟨c', by rw [fin_get (of_decide_eq_true hi), if_pos hp, e']; rfl, hc'⟩
end
section
variable {P : Program} {w : World} {K : Kx} {base : Heap} {x : Str} {params : Arguments} {body : List Stmt} {scope : Scope} {f : Addr} {fd : FuncData} {N ps : List Str} {k : Nat} {ER : ERx} {pm : List Nat} {m : M Fl}
/-- a def by its body -/
theorem fn_by (Fd : FunD K.fr x x params body scope [] [] f fd) (S : FnScope N ps scope)
    (hbody : ∀ (cdv : Value) (A : Around) (outer : List Env) (s : Shared) (H : Hp) (E : XK), Room k (A.deeper (envOfC x scope s.heap.objs.size f cdv)) →
      DSs (cxOf (L2.CX P w) P w K.fr K.mg base N x scope f cdv A outer s H E) ⟨ofP pm, ER, fun cls d _ H => E cls d H⟩ body m) :
    FnOk P w K.fr K.mg base (L2.CX P w) (k + 1) f fd ps (spF K ER ps.length (run ps.length N.length pm m)) := by
  refine FunD.ok Fd S (fun vs H Q E h => h.1) fun cdv A outer s H vs Q E hr h => ?_
  obtain ⟨hl, F, cs, r, o⟩ := h
  refine ⟨_, hbody cdv A outer s H E hr, ?_⟩
  unfold run at o
  by_cases ok : okSl ps.length pm cs = true
  · rw [if_pos ok] at o
    rw [← hl] at o ok
    refine ⟨F, _, rp_start r, ?_⟩
    cases z : m (cs ++ List.replicate (N.length - vs.length) none) with
    | stuck => rw [z] at o; exact o.elim
    | err e ρ' =>
      rw [z] at o
      intro cv dd σ' H' F' g er
      exact o cv dd H' F' (go_fin r ok g).1 er
    | ok fl ρ' =>
      rw [z] at o
      cases fl with
      | nx =>
        intro σ' H' F' g
        exact o .non H' F' (go_fin r ok g).1 .non
      | bk => exact o.elim
      | ct => exact o.elim
      | rt c =>
        intro σ' H' F' g v rc
        obtain ⟨g', up⟩ := go_fin r ok g
        refine o v H' F' g' (rc_own rc fun p fr no => ⟨?_, fun z => no (up p z)⟩)
        rcases fr with y | y
        · exact .inl y
        · exact .inr (own_start y)
  · rw [if_neg ok] at o; exact o.elim
/-- what the head says of a def -/
structure DefK (K : Kx) (x : Str) (params : Arguments) (body : List Stmt) (scope : Scope) : Prop where
  ex : ∃ f fd, FunD K.fr x x params body scope [] [] f fd ∧ K.mg x = some (.ref f)
theorem kn_of (Dk : DefK K x params body scope) (S : FnScope N ps scope)
    (hb : ∀ (kV doc pm : Value) (an : Option Addr) (cdv ct : Value) (us : List Value), us.length = ps.length → bindArgs (PySem.W.fnOf x x params body scope .none kV doc pm an cdv ct) ⟨us, []⟩ = pure (ps.zip us))
    (hbody : ∀ (f : Addr) (cdv : Value) (A : Around) (outer : List Env) (s : Shared) (H : Hp) (E : XK), Room k (A.deeper (envOfC x scope s.heap.objs.size f cdv)) →
      DSs (cxOf (L2.CX P w) P w K.fr K.mg base N x scope f cdv A outer s H E) ⟨ofP pm, ER, fun cls d _ H => E cls d H⟩ body m) :
    Kn P w K base (k + 1) ER x ps (run ps.length N.length pm m) := by
  obtain ⟨f, fd, Fd, hm⟩ := Dk.ex
  exact ⟨f, fd, fn_by Fd S (hbody f), hm, Fd.kp, Fd.bindsN hb⟩
theorem knK_of (Dk : DefK K x params body scope) (S : FnScope N ps scope)
    (hb : ∀ (kV doc pm : Value) (an : Option Addr) (cdv ct : Value) (us : List Value), us.length = ps.length → bindArgs (PySem.W.fnOf x x params body scope .none kV doc pm an cdv ct) ⟨us, []⟩ = pure (ps.zip us))
    (hk : ∀ (kV doc pm : Value) (an : Option Addr) (cdv ct : Value) (ws : List Value), ws.length = ps.length → bindArgs (PySem.W.fnOf x x params body scope .none kV doc pm an cdv ct) ⟨[], ps.zip ws⟩ = pure (ps.zip ws))
    (hbody : ∀ (f : Addr) (cdv : Value) (A : Around) (outer : List Env) (s : Shared) (H : Hp) (E : XK), Room k (A.deeper (envOfC x scope s.heap.objs.size f cdv)) →
      DSs (cxOf (L2.CX P w) P w K.fr K.mg base N x scope f cdv A outer s H E) ⟨ofP pm, ER, fun cls d _ H => E cls d H⟩ body m) :
    KnK P w K base (k + 1) ER x ps (run ps.length N.length pm m) := by
  obtain ⟨f, fd, Fd, hm⟩ := Dk.ex
  refine ⟨f, fd, fn_by Fd S (hbody f), hm, Fd.kp, Fd.bindsN hb, ?_⟩
  obtain ⟨oc, od, dV, kV, doc, pm, an, cdv, ct, osl, rfl, lk, hcd, hD, hK⟩ := Fd.ex
  rcases hD with ⟨_, rfl⟩ | ⟨e, _⟩
  · exact fun s ws _ hl => .of_eq (hk kV doc pm an cdv ct ws hl)
  · exact absurd rfl e
end
end DL

set_option Elab.async false
set_option linter.all false
set_option maxRecDepth 100000
set_option maxHeartbeats 2000000
namespace DL
open PySem PySem.Spec PyProof.Rows L2
/-! ### slots of a block -/
theorem wipeS_out {ρ : Sl} {i : Nat} : ∀ {vs : List Nat}, i ∉ vs → (wipeS ρ vs)[i]? = ρ[i]?
  | [], _ => rfl
  | v :: vs, h => by
    rw [List.mem_cons, not_or] at h
    unfold wipeS
    rw [List.getElem?_set_ne (Ne.symm h.1), wipeS_out h.2]
theorem wipeS_len {ρ : Sl} : ∀ {vs : List Nat}, (wipeS ρ vs).length = ρ.length
  | [] => rfl
  | v :: vs => by unfold wipeS; rw [List.length_set, wipeS_len]
theorem wipeS_some {ρ : Sl} {i : Nat} {c : C} : ∀ {vs : List Nat}, (wipeS ρ vs)[i]? = some (some c) → i ∉ vs ∧ ρ[i]? = some (some c)
  | [], h => ⟨by simp, h⟩
  | v :: vs, h => by
    unfold wipeS at h
    by_cases e : v = i
    · subst e
      by_cases hl : v < (wipeS ρ vs).length
      · rw [List.getElem?_set_self hl] at h; cases h
      · rw [List.getElem?_eq_none (by rw [List.length_set]; omega)] at h; cases h
    · rw [List.getElem?_set_ne e] at h
      obtain ⟨h1, h2⟩ := wipeS_some h
      exact ⟨by rw [List.mem_cons, not_or]; exact ⟨fun z => e z.symm, h1⟩, h2⟩
theorem wipe_ext {σ σ' : St} (hl : σ'.length = σ.length) : ∀ {vs : List Nat}, (∀ i, i ∉ vs → σ'[i]? = σ[i]?) → wipe σ' vs = wipe σ vs := fun {vs} he => by
  refine List.ext_getElem? fun i => ?_
  by_cases hi : i ∈ vs
  · have all : ∀ (τ : St) (vs : List Nat), i ∈ vs → (wipe τ vs)[i]? = if i < τ.length then some none else none := fun τ vs => by
      induction vs with
      | nil => intro h; cases h
      | cons v vs ih =>
        intro h
        unfold wipe
        by_cases e : v = i
        · subst e
          by_cases hlt : v < τ.length
          · rw [List.getElem?_set_self (by rw [wipe_length]; exact hlt), if_pos hlt]
          · rw [List.getElem?_eq_none (by rw [List.length_set, wipe_length]; omega), if_neg hlt]
        · rw [List.getElem?_set_ne e]
          rcases List.mem_cons.mp h with z | z
          · exact (e z.symm).elim
          · exact ih z
    rw [all _ _ hi, all _ _ hi, hl]
  · rw [wipe_out hi, wipe_out hi]
    exact he i hi
section
variable {K : Kx} {P : Pn} {F F0 F1 H H0 H1 : Hp} {ρ ρ0 ρ1 : Sl} {σ σ0 σ1 : St} {vs : List Nat}
theorem rp_wipe (r : Rp K F ρ σ H) (σ' : St) (hl : σ'.length = σ.length) (he : ∀ i, i ∉ vs → σ'[i]? = σ[i]?) : Rp K F (wipeS ρ vs) σ' H := by
  refine ⟨r.sub, by rw [wipeS_len, hl]; exact r.len, fun i x e => ?_, fun i x e => ?_, fun i c e hc => ?_, fun i j a ⟨c, e, hc⟩ ⟨c', e', hc'⟩ h1 h2 => ?_⟩
  · obtain ⟨h, e⟩ := wipeS_some e
    rw [he i h]; exact r.dat i x e
  · obtain ⟨h, e⟩ := wipeS_some e
    rw [he i h]; exact r.fn i x e
  · obtain ⟨h, e⟩ := wipeS_some e
    rw [he i h]; exact r.own i c e hc
  · obtain ⟨h, e⟩ := wipeS_some e
    obtain ⟨h', e'⟩ := wipeS_some e'
    rw [he i h] at h1
    rw [he j h'] at h2
    exact r.apart i j a ⟨c, e, hc⟩ ⟨c', e', hc'⟩ h1 h2
theorem own_wipe {σ' : St} (he : ∀ i, i ∉ vs → σ'[i]? = σ[i]?) {b : Addr} (h : Own (wipeS ρ vs) σ' b) : Own ρ σ b := by
  obtain ⟨i, ⟨c, e, hc⟩, h1⟩ := h
  obtain ⟨h, e⟩ := wipeS_some e
  exact ⟨i, ⟨c, e, hc⟩, by rw [← he i h]; exact h1⟩
theorem Go.reset (g : Go K P ρ0 σ0 H0 F0 ρ σ H F) (σ' : St) (hl : σ'.length = σ.length) (he : ∀ i, i ∉ vs → σ'[i]? = σ[i]?) (h1 : ∀ i ∈ vs, P.s i = false) (h2 : ∀ i ∈ vs, P.o i = false) : Go K P ρ0 σ0 H0 F0 (wipeS ρ vs) σ' H F := by
  refine ⟨rp_wipe g.rp σ' hl he, g.fr, g.hp, g.th, g.nw, fun b o => g.ow b (own_wipe he o), fun i hi => ?_, fun i hi o => ?_, hl.trans g.ln⟩
  · rw [he i (fun z => by rw [h1 i z] at hi; cases hi)]; exact g.pn i hi
  · obtain ⟨c, e, hc⟩ := g.po i hi o
    exact ⟨c, by rw [wipeS_out (fun z => by rw [h2 i z] at hi; cases hi)]; exact e, hc⟩
/-- the heap without D -/
def del (H : Hp) (D : Addr) : Hp := fun b => if b = D then none else H b
theorem del_self {D : Addr} : del H D D = none := if_pos rfl
theorem del_ne {D b : Addr} (h : b ≠ D) : del H D b = H b := if_neg h
theorem del_some {D b : Addr} {o : HO} (h : del H D b = some o) : b ≠ D ∧ H b = some o := by
  by_cases e : b = D
  · rw [e, del_self] at h; cases h
  · rw [del_ne e] at h; exact ⟨e, h⟩
theorem upd_del {D : Addr} {o : HO} (h : H D = some o) : L2.upd (del H D) D o = H := by
  funext b
  by_cases e : b = D
  · subst e; rw [upd_same, h]
  · rw [upd_ne e, del_ne e]
theorem del_upd {D : Addr} {o : HO} : del (L2.upd H D o) D = del H D := by
  funext b
  by_cases e : b = D
  · subst e; rw [del_self, del_self]
  · rw [del_ne e, del_ne e, upd_ne e]
theorem del_none {D : Addr} (h : H D = none) : del H D = H := by
  funext b
  by_cases e : b = D
  · subst e; rw [del_self, h]
  · rw [del_ne e]
theorem rp_undel {D : Addr} {o : HO} (r : Rp K F ρ σ (del H D)) (h : H D = some o) : Rp K F ρ σ H := by
  have q := (Go.temp (P := ⟨fun _ => false, fun _ => false⟩) r (del_self (H := H) (D := D)) o).rp
  rw [upd_del h] at q
  exact q
theorem Go.del {D : Addr} {o : HO} (r : Rp K F0 ρ0 σ0 (del H0 D)) (h : H0 D = some o) (g : Go K P ρ0 σ0 H0 F0 ρ σ H F) : Go K P ρ0 σ0 (del H0 D) F0 ρ σ (DL.del H D) F := by
  have f0 : F0 D = none := r.free del_self
  have n0 : ¬ Own ρ0 σ0 D := no_own r del_self
  have f1 : F D = none := by
    cases y : F D with
    | none => rfl
    | some u =>
      rcases g.nw D u y with w | w | w
      · rw [f0] at w; cases w
      · rw [h] at w; cases w
      · exact (n0 w).elim
  have n1 : ¬ Own ρ σ D := fun z => by
    rcases g.ow D z with w | w
    · exact n0 w
    · rw [h] at w; cases w
  have dn : ∀ b, H0 b = none → DL.del H0 D b = none := fun b e => by
    by_cases hb : b = D
    · rw [hb, del_self]
    · rw [del_ne hb]; exact e
  refine ⟨⟨fun b x e => ?_, g.rp.len, g.rp.dat, g.rp.fn, fun i c e hc => ?_, g.rp.apart⟩, g.fr, fun b x n e => ?_, fun b x e => ?_, fun b x e => ?_, fun b e => ?_, g.pn, g.po, g.ln⟩
  · rw [del_ne (fun z => by rw [z, f1] at e; cases e)]; exact g.rp.sub b x e
  · obtain ⟨a, u, h1, h2, h3, h4⟩ := g.rp.own i c e hc
    exact ⟨a, u, h1, h2, by rw [del_ne (fun z => n1 ⟨i, ⟨c, e, hc⟩, by rw [← z]; exact h1⟩)]; exact h3, h4⟩
  · obtain ⟨e1, e2⟩ := del_some e
    rw [del_ne e1]; exact g.hp b x n e2
  · obtain ⟨e1, e2⟩ := del_some e
    obtain ⟨y, e3⟩ := g.th b x e2
    exact ⟨y, by rw [del_ne e1]; exact e3⟩
  · rcases g.nw b x e with w | w | w
    · exact .inl w
    · exact .inr (.inl (dn b w))
    · exact .inr (.inr w)
  · rcases g.ow b e with w | w
    · exact .inl w
    · exact .inr (dn b w)
theorem noOwn_at (h : noOwn vs ρ = true) {i : Nat} (hi : i ∈ vs) : ¬ ownAt ρ i := fun ⟨c, e, hc⟩ => by
  have q := List.all_eq_true.mp h i hi
  rw [e] at q
  have q' : (!c.own) = true := q
  rw [hc] at q'; cases q'
theorem rest_at {ρ' : Sl} {i : Nat} {o : Option C} (h : (restS vs ρ ρ')[i]? = some o) : i < ρ.length ∧ o = if i ∈ vs then (ρ[i]?).join else (ρ'[i]?).join := by
  unfold restS at h
  have hi : i < ρ.length := by
    have := (List.getElem?_eq_some_iff.mp h).1
    rwa [List.length_map, List.length_range] at this
  rw [List.getElem?_map, List.getElem?_range hi] at h
  exact ⟨hi, (Option.some.inj h).symm⟩
theorem rest_len {ρ' : Sl} : (restS vs ρ ρ').length = ρ.length := by unfold restS; rw [List.length_map, List.length_range]
/-- the slots of the block's context -/
def blkP (P : Pn) (vs : List Nat) : Pn := ⟨fun i => !vs.contains i, fun i => P.o i && !vs.contains i⟩
theorem Go.unblk {ρ' : Sl} {H' F' : Hp} (r : Rp K F ρ σ H) (no : noOwn vs ρ = true) (g : Go K (blkP P vs) (wipeS ρ vs) (wipe σ vs) H F ρ' (wipe σ vs) H' F') :
    Go K P ρ σ H F (restS vs ρ ρ') σ H' F' ∧ ∀ p, Own (restS vs ρ ρ') σ p → Own ρ' (wipe σ vs) p := by
  have he : ∀ i, i ∉ vs → (wipe σ vs)[i]? = σ[i]? := fun i hi => wipe_out hi
  have ownR : ∀ i, ownAt (restS vs ρ ρ') i → i ∉ vs ∧ ownAt ρ' i := fun i ⟨c, e, hc⟩ => by
    obtain ⟨h1, h2⟩ := rest_at e
    by_cases hv : i ∈ vs
    · rw [if_pos hv] at h2
      exact (noOwn_at no hv ⟨c, join_some h2.symm, hc⟩).elim
    · rw [if_neg hv] at h2
      exact ⟨hv, c, join_some h2.symm, hc⟩
  have up : ∀ p, Own (restS vs ρ ρ') σ p → Own ρ' (wipe σ vs) p := fun p ⟨i, o, e⟩ => by
    obtain ⟨h1, h2⟩ := ownR i o
    exact ⟨i, h2, by rw [he i h1]; exact e⟩
  refine ⟨⟨⟨g.rp.sub, by rw [rest_len]; exact r.len, fun i x e => ?_, fun i x e => ?_, fun i c e hc => ?_, fun i j a o1 o2 e1 e2 => ?_⟩, g.fr, fun b o n e => g.hp b o (fun z => n (own_wipe he z)) e, g.th, fun b o e => ?_, fun b o => ?_, fun _ _ => rfl, fun i hi o => ?_, rfl⟩, up⟩
  · obtain ⟨h1, h2⟩ := rest_at e
    by_cases hv : i ∈ vs
    · rw [if_pos hv] at h2
      obtain ⟨v, q1, q2⟩ := r.dat i x (join_some h2.symm)
      exact ⟨v, q1, dp_mono g.fr q2⟩
    · rw [if_neg hv] at h2
      obtain ⟨v, q1, q2⟩ := g.rp.dat i x (join_some h2.symm)
      exact ⟨v, by rw [← he i hv]; exact q1, q2⟩
  · obtain ⟨h1, h2⟩ := rest_at e
    by_cases hv : i ∈ vs
    · rw [if_pos hv] at h2
      exact r.fn i x (join_some h2.symm)
    · rw [if_neg hv] at h2
      obtain ⟨v, q1, q2⟩ := g.rp.fn i x (join_some h2.symm)
      exact ⟨v, q1, by rw [← he i hv]; exact q2⟩
  · obtain ⟨h1, h2⟩ := rest_at e
    obtain ⟨hv, _⟩ := ownR i ⟨c, e, hc⟩
    rw [if_neg hv] at h2
    obtain ⟨a, o, q1, q2⟩ := g.rp.own i c (join_some h2.symm) hc
    exact ⟨a, o, by rw [← he i hv]; exact q1, q2⟩
  · obtain ⟨h1, h2⟩ := ownR i o1
    obtain ⟨k1, k2⟩ := ownR j o2
    exact g.rp.apart i j a h2 k2 (by rw [he i h1]; exact e1) (by rw [he j k1]; exact e2)
  · rcases g.nw b o e with w | w | w
    · exact .inl w
    · exact .inr (.inl w)
    · exact .inr (.inr (own_wipe he w))
  · rcases g.ow b (up b o) with w | w
    · exact .inl (own_wipe he w)
    · exact .inr w
  · have hv : i ∉ vs := fun z => noOwn_at no z o
    have hl : i < ρ.length := by obtain ⟨c, e, _⟩ := o; exact (List.getElem?_eq_some_iff.mp e).1
    obtain ⟨c, e, hc⟩ := o
    obtain ⟨c', e', hc'⟩ := g.po i (by show (P.o i && !vs.contains i) = true; rw [hi, Bool.true_and, Bool.not_eq_true']; exact (by simpa using hv)) ⟨c, by rw [wipeS_out hv]; exact e, hc⟩
    refine ⟨c', ?_, hc'⟩
    unfold restS
    rw [List.getElem?_map, List.getElem?_range hl]
    show some (if i ∈ vs then (ρ[i]?).join else (ρ'[i]?).join) = _
    rw [if_neg hv, e']; rfl
end
section
variable {X : Cx} {c : Ct} {elt tg iter : Expr} {ifs : List Expr} {scope : Scope} {own : List (Str × Nat)} {pos : Pos} {mi : M (List PyData)} {g : PyData → M Unit} {t : M Bool} {m : M PyData} {vs : List Nat}
/-- nothing is let out of a block -/
def noW : WX := fun _ _ _ _ => False
abbrev blkCt (c : Ct) (vs : List Nat) : Ct := ⟨blkP c.P vs, c.ER, noW⟩
theorem lc_use (h2 : ∀ xs ρ e ρ', g xs ρ ≠ .err e ρ') {σ : St} {H : Hp} {Q : VK} (q : Tr X.kx c (RC X.kx) (mLc vs mi g t m) σ H Q) :
    tLc (tI X.kx c mi) (TGd X.kx (blkCt c vs) g) (Tr X.kx (blkCt c vs) RB t) (Tr X.kx (blkCt c vs) (RD X.kx) m) vs σ H Q := by
  obtain ⟨F, ρ, r, o⟩ := q
  refine ⟨F, ρ, r, Out.mono (Out.bind o) (fun xs ρ1 o1 J H1 F1 g1 hJ => ?_) fun e ρ1 q => q⟩
  have o1' : Out (if noOwn vs ρ1 = true then (match mLcL vs g t m xs [] (wipeS ρ1 vs) with
    | .ok acc ρ' => .ok (.l acc) (restS vs ρ1 ρ')
    | .err _ _ => .stuck
    | .stuck => .stuck) else .stuck : Res C) (fun a ρ' => ∀ v H' F', Go X.kx c.P ρ σ H F ρ' σ H' F' → RC X.kx (Fr ρ σ H) ρ' σ H' F' a v → Q v H') (fun e ρ' => ∀ cv dd H' F', Go X.kx c.P ρ σ H F ρ' σ H' F' → c.ER e cv dd H' → c.W cv dd σ H') := o1
  by_cases no : noOwn vs ρ1 = true
  · rw [if_pos no] at o1'
    have o2 : Out (mLcL vs g t m xs [] (wipeS ρ1 vs)) (fun acc ρ' => ∀ v H' F', Go X.kx c.P ρ σ H F (restS vs ρ1 ρ') σ H' F' → RC X.kx (Fr ρ σ H) (restS vs ρ1 ρ') σ H' F' (.l acc) v → Q v H') (fun _ _ => False) := by
      cases z : mLcL vs g t m xs [] (wipeS ρ1 vs) with
      | ok acc ρ' => rw [z] at o1'; exact o1'
      | err e ρ' => rw [z] at o1'; exact o1'.elim
      | stuck => rw [z] at o1'; exact o1'.elim
    intro D hD
    let Wv : Nat → Hp → Prop := fun i H' => i ≤ xs.length ∧ ∃ F' ρ' acc av, Go X.kx (blkP c.P vs) (wipeS ρ1 vs) (wipe σ vs) H1 F1 ρ' (wipe σ vs) (del H' D) F' ∧ H' D = some (.lst av) ∧ DpAll X.kx F' av acc ∧
      Out (mLcL vs g t m (xs.drop i) acc ρ') (fun acc ρ' => ∀ v H' F', Go X.kx c.P ρ σ H F (restS vs ρ1 ρ') σ H' F' → RC X.kx (Fr ρ σ H) (restS vs ρ1 ρ') σ H' F' (.l acc) v → Q v H') (fun _ _ => False)
    have rw0 : Rp X.kx F1 (wipeS ρ1 vs) (wipe σ vs) H1 := rp_wipe g1.rp _ (wipe_length _ _) fun i hi => wipe_out hi
    refine ⟨fun i n H' => n = xs.length - i ∧ Wv i H', ⟨_, rfl, Nat.zero_le _, F1, wipeS ρ1 vs, [], [], ?_, upd_same, .nil, o2⟩, ?_⟩
    · rw [del_upd, del_none hD]
      exact Go.refl rw0
    rintro i n H2 ⟨rfl, hi, F2, ρ2, acc, av, g2, hD2, ha2, o3⟩
    have rp2 := rp_undel g2.rp hD2
    obtain ⟨hstop, hgo⟩ := hJ F2 (blkP c.P vs) ρ2 (wipe σ vs) H2 g2.fr rp2
    by_cases hlt : i < xs.length
    · obtain ⟨k1, k2⟩ := hgo i _ (List.getElem?_eq_getElem hlt)
      refine .inr ⟨k1, Wv (i + 1), fun H' w => ⟨xs.length - (i + 1), by omega, rfl, w⟩, fun x H3 y => ?_⟩
      obtain ⟨F3, g3, d3⟩ := k2 x H3 y
      rw [List.drop_eq_getElem_cons hlt] at o3
      refine ⟨F3, ρ2, _, g3.rp, d3, Out.mono (Out.noerr (Out.bind o3) fun e ρ2 => h2 _ _ _ _) (fun _ ρ4 o4 σ4 H4 F4 g4 => ?_) fun _ _ q => q⟩
      have hs4 : ∀ j, j ∉ vs → σ4[j]? = (wipe σ vs)[j]? := fun j hj => g4.pn j (by show (!vs.contains j) = true; rw [Bool.not_eq_true']; exact (by simpa using hj))
      refine ⟨(wipe_ext g4.ln hs4).trans (wipe_ext (wipe_length σ vs) fun j hj => wipe_out hj), ?_⟩
      have fin : ∀ {ρ' H' F' acc' av'}, Go X.kx (blkP c.P vs) ρ4 σ4 H4 F4 ρ' σ4 H' F' → DpAll X.kx F' av' acc' →
          Out (mLcL vs g t m (xs.drop (i + 1)) acc' (wipeS ρ' vs)) (fun acc ρ' => ∀ v H' F', Go X.kx c.P ρ σ H F (restS vs ρ1 ρ') σ H' F' → RC X.kx (Fr ρ σ H) (restS vs ρ1 ρ') σ H' F' (.l acc) v → Q v H') (fun _ _ => False) → ∀ H'' : Hp, del H'' D = del H' D → H'' D = some (.lst av') → Wv (i + 1) H'' := fun {ρ' H' F' acc' av'} g5 ha5 o5 H'' e1 e2 => by
        have gA := (g3.trans g4).trans g5
        have gB := Go.del g2.rp hD2 gA
        have gC := g2.trans gB
        have gD := gC.reset (vs := vs) (wipe σ vs) g4.ln.symm (fun j hj => (hs4 j hj).symm) (fun j hj => by show (!vs.contains j) = false; rw [Bool.not_eq_false']; exact (by simpa using hj)) (fun j hj => by show (c.P.o j && !vs.contains j) = false; rw [show vs.contains j = true from by simpa using hj, Bool.not_true, Bool.and_false])
        exact ⟨hlt, F', _, acc', av', by rw [e1]; exact gD, e2, ha5, o5⟩
      have keepD : ∀ {ρ' H' F'}, Go X.kx (blkP c.P vs) ρ4 σ4 H4 F4 ρ' σ4 H' F' → H' D = some (.lst av) := fun {ρ' H' F'} g5 => ((g3.trans g4).trans g5).hp D _ (no_own g2.rp del_self) hD2
      refine ⟨F4, ρ4, g4.rp, Out.mono (Out.bind o4) (fun k ρ5 o5 kb H5 F5 g5 hk => ?_) fun e ρ5 q => q.elim⟩
      cases hk
      cases k with
      | false => exact fin g5 (dpAll_mono ((g3.fr.trans g4.fr).trans g5.fr) ha2) o5 H5 rfl (keepD g5)
      | true =>
        refine ⟨F5, ρ5, g5.rp, Out.mono (Out.bind o5) (fun yd ρ6 o6 y H6 F6 g6 d6 => ?_) fun e ρ6 q => q.elim⟩
        have g56 := g5.trans g6
        have hD6 := keepD g56
        have o6' : Out (if acc.length < sizeLine then mLcL vs g t m (xs.drop (i + 1)) (acc ++ [yd]) (wipeS ρ6 vs) else .stuck) (fun acc ρ' => ∀ v H' F', Go X.kx c.P ρ σ H F (restS vs ρ1 ρ') σ H' F' → RC X.kx (Fr ρ σ H) (restS vs ρ1 ρ') σ H' F' (.l acc) v → Q v H') (fun _ _ => False) := o6
        by_cases hz : acc.length < sizeLine
        · rw [if_pos hz] at o6'
          refine ⟨av, hD6, by rw [dpa_len ha2]; exact hz, ?_⟩
          exact fin g56 (dpa_app (dpAll_mono ((g3.fr.trans g4.fr).trans g56.fr) ha2) (dpa_one d6)) o6' _ del_upd upd_same
        · rw [if_neg hz] at o6'; exact o6'.elim
    · have e : i = xs.length := by omega
      subst e
      rw [List.drop_eq_nil_of_le (Nat.le_refl _)] at o3
      refine .inl ⟨hstop, ?_⟩
      obtain ⟨g3, up⟩ := Go.unblk (P := c.P) g1.rp no g2
      have g4 := g1.trans g3
      have gT := Go.temp (P := c.P) g3.rp (del_self (H := H2) (D := D)) (.lst av)
      rw [upd_del hD2] at gT
      exact o3 (.ref D) H2 F2 (g4.trans gT) ⟨D, .lst av, rfl, .inl (g1.back hD), g2.rp.free del_self, hD2, ha2, no_own g3.rp del_self⟩
  · rw [if_neg no] at o1'; exact o1'.elim
/-- the conditions of a block -/
structure BIf (X : Cx) (c : Ct) (ifs : List Expr) (t : M Bool) : Prop where
  h : PTs X ifs (Tr X.kx c RB t)
theorem bif_nil : BIf X c [] mYes := ⟨⟨fun pins s σ H Q I ⟨F, ρ, r, o⟩ => pts_nil.run pins s σ H Q I (o _ H F (Go.refl r) rfl)⟩⟩
theorem bif_one {e : Expr} (h : DT X c e t) : BIf X c [e] t := ⟨pts_one h⟩
theorem do_lc (hc : X.calm = true) (hN : X.N.Nodup) (hi : DI X c tg iter mi) (ok : BlkOk X.N X.env.scope scope own) (hv : own.map (·.2) = vs := by rfl)
    (hg : ∀ (s : Shared) (H : Hp) (C : Addr) (cl : List (Str × Addr)) (fp : List Addr), DG (X.blk s H scope (compEnvC scope cl C X.env) fp) (blkCt c vs) tg g) (ht : ∀ (s : Shared) (H : Hp) (C : Addr) (cl : List (Str × Addr)) (fp : List Addr), BIf (X.blk s H scope (compEnvC scope cl C X.env) fp) (blkCt c vs) ifs t)
    (he : ∀ (s : Shared) (H : Hp) (C : Addr) (cl : List (Str × Addr)) (fp : List Addr), DE (X.blk s H scope (compEnvC scope cl C X.env) fp) (blkCt c vs) elt m) (hs : ∀ x, foldedSetIterable iter X.env x = pure x := by intro _; rfl) :
    DO X c (.ListComp elt [⟨tg, iter, ifs, 0⟩] scope pos) (mLc vs mi g t m) := by
  subst hv
  exact pe_imp (pe_lc hc hN hi ok (fun s H C cl fp => (hg s H C cl fp).pg) (fun s H C cl fp => (ht s H C cl fp).h) he hs) fun σ H Q q => lc_use (hg X.s_0 X.H_0 0 [] []).ne q
theorem ds_setLc {i : Nat} {y : Str} {py spos : Pos} (hc : X.calm = true) (hN : X.N.Nodup) (hy : X.N[i]? = some y) (hyl : X.env.scope.names.lookup y = some .local) (hP : c.P.all i = false)
    (hsw : swapsWith (.ListComp elt [⟨tg, iter, ifs, 0⟩] scope pos) (some (.Name y py)) spos.line X.env = pure true) (hi : DI X c tg iter mi) (ok : BlkOk X.N X.env.scope scope own) (hv : own.map (·.2) = vs := by rfl)
    (hg : ∀ (s : Shared) (H : Hp) (C : Addr) (cl : List (Str × Addr)) (fp : List Addr), DG (X.blk s H scope (compEnvC scope cl C X.env) fp) (blkCt c vs) tg g) (ht : ∀ (s : Shared) (H : Hp) (C : Addr) (cl : List (Str × Addr)) (fp : List Addr), BIf (X.blk s H scope (compEnvC scope cl C X.env) fp) (blkCt c vs) ifs t)
    (he : ∀ (s : Shared) (H : Hp) (C : Addr) (cl : List (Str × Addr)) (fp : List Addr), DE (X.blk s H scope (compEnvC scope cl C X.env) fp) (blkCt c vs) elt m) (hs : ∀ x, foldedSetIterable iter X.env x = pure x := by intro _; rfl) :
    DS X c (.Assign [.Name y py] (.ListComp elt [⟨tg, iter, ifs, 0⟩] scope pos) spos) (sSet i (mLc vs mi g t m)) := by
  subst hv
  exact ps_imp (ps_setLc hc hN hy hyl hsw hi ok (fun s H C cl fp => (hg s H C cl fp).pg) (fun s H C cl fp => (ht s H C cl fp).h) he hs) fun D σ H q => lc_use (hg X.s_0 X.H_0 0 [] []).ne (ds_setR hP q)
end
end DL

set_option Elab.async false
set_option linter.all false
set_option maxRecDepth 100000
set_option maxHeartbeats 2000000
namespace DL
open PySem PySem.Spec PyProof.Rows L2
section
variable {X : Cx} {c : Ct} {s : Stmt} {ss : List Stmt} {e a b d tg iter : Expr} {es : List Expr} {pos p2 : Pos} {m m1 m2 : M PyData} {n1 n2 : M C} {x y z : Str} {i j l : Nat}
/-! ### code that is never come to -/
theorem de_never : DE X c e M.stuck := ⟨fun _ _ _ _ _ _ ⟨_, _, _, h⟩ => h.elim⟩
theorem do_never : DO X c e M.stuck := ⟨fun _ _ _ _ _ _ ⟨_, _, _, h⟩ => h.elim⟩
theorem ds_never : DS X c s M.stuck := ⟨fun _ _ _ _ _ _ ⟨_, _, _, h⟩ => h.elim⟩
theorem dss_never : DSs X c ss M.stuck := ⟨fun _ _ _ _ _ _ ⟨_, _, _, h⟩ => h.elim⟩
/-! ### reading a slot's own list -/
theorem de_ixV (ho : PE X a (L2.tVar i)) (hb : DE X c b m) (hs : PlainIx b) : DE X c (.Subscript a b pos) (mIxV i m) :=
  pe_imp (pe_ix ix_seq ho hb hs) fun σ H Q ⟨F, ρ, r, h⟩ => by
    have h' : Out (if (lsAt i ρ).isSome = true then (M.bind m fun j => fun ρ' => match lsAt i ρ' with
      | some xs => M.of (oIx (.list xs) j) ρ'
      | none => .stuck) ρ else .stuck) (fun a ρ' => ∀ v H' F', Go X.kx c.P ρ σ H F ρ' σ H' F' → RD X.kx (Fr ρ σ H) ρ' σ H' F' a v → Q v H') (fun e ρ' => ∀ cv dd H' F', Go X.kx c.P ρ σ H F ρ' σ H' F' → c.ER e cv dd H' → c.W cv dd σ H') := h
    cases hl : lsAt i ρ with
    | none => rw [hl] at h'; exact h'.elim
    | some xs =>
      rw [hl] at h'
      rw [if_pos (show (some xs).isSome = true from rfl)] at h'
      obtain ⟨p, vs, z, h1, h2, h3⟩ := lsAt_own r hl
      refine ⟨.ref p, h1, F, ρ, r, Out.mono (Out.bind h') (fun jd ρ1 q u H1 F1 g1 d1 => ?_) fun e ρ1 q => q⟩
      cases hl1 : lsAt i ρ1 with
      | none => rw [hl1] at q; exact q.elim
      | some xs1 =>
        rw [hl1] at q
        obtain ⟨w, e1, q2⟩ := Out.of (show Out (M.of (oIx (.list xs1) jd) ρ1) _ _ from q)
        obtain ⟨p1, vs1, z1, k1, k2, k3⟩ := lsAt_own g1.rp hl1
        rw [h1] at k1; cases k1
        cases jd with
        | int jj =>
          cases d1
          obtain ⟨v, y1, y2⟩ := atI_dpa k3 (show atI xs1 jj = some w from e1)
          exact .inl ⟨p, vs1, jj, v, rfl, rfl, .of k2, y1, q2 v H1 F1 g1 y2⟩
        | _ => cases e1
theorem de_lenV {p : Pos} (hg : Gl X "len") (hm : X.mg "len" = none) (ho : PE X a (L2.tVar i)) (hv : bootBuiltins "len" = some (.builtin "len") := by decide +kernel)
    (he : starEach [a] X.env = (false, eval a X.env) :: starEach [] X.env := by rfl) (hpl : (backTo pos (starEach [] X.env)).any (·.1) = false := by rfl) : DE X c (.Call (.Name "len" p) [a] [] pos) (mLenV i) :=
  pe_imp (pe_callB (call_len_seq) hg hm hv (pa_cons ho pa_nil he) (by decide) (by decide) he hpl) fun σ H Q ⟨F, ρ, r, h⟩ => by
    unfold T1 mLenV at h
    cases hl : lsAt i ρ with
    | none => rw [hl] at h; exact h.elim
    | some xs =>
      rw [hl] at h
      obtain ⟨p, vs, z, h1, h2, h3⟩ := lsAt_own r hl
      exact ⟨.ref p, h1, p, vs, rfl, .inl (.of h2), by rw [dpa_len h3]; exact h _ H F (Go.refl r) (.int _)⟩
/-! ### or, by truth -/
theorem do_one {op} (h : DO X c a n1) : DO X c (.BoolOp op [a] pos) n1 := pe_one h
theorem do_orC {rest : List Expr} (ha : DO X c a n1) (hb : DO X c (.BoolOp .Or (b :: rest) pos) n2) : DO X c (.BoolOp .Or (a :: b :: rest) pos) (mOrC n1 n2) := pe_imp (pe_orT ha hb) fun σ H Q ⟨F, ρ, r, q⟩ =>
  ⟨F, ρ, r, Out.mono (Out.bind q) (fun k ρ1 q1 v H1 F1 g1 d1 => by
    have tv : ∀ t, truC k = some t → TruV X.K v H1 t := fun t e => by
      cases k with
      | d x => exact truV_of g1.rp.sub d1 e
      | l xs =>
        obtain ⟨p, o, rfl, _, _, h3, h4, _⟩ := d1
        obtain ⟨vs, rfl, h5⟩ := isO_l h4
        refine .inl ⟨vs, .of h3, ?_⟩
        have e' : (!xs.isEmpty) = t := Option.some.inj e
        rw [← e']
        cases h5 <;> rfl
      | _ => cases e
    cases e : truC k with
    | none => rw [e] at q1; exact q1.elim
    | some t =>
      rw [e] at q1
      refine ⟨t, tv t e, ?_⟩
      cases t with
      | true => exact q1 v H1 F1 g1 d1
      | false => exact ⟨F1, ρ1, g1.rp, T1.base g1 (fun _ _ _ _ _ _ z => rc_base g1 z) q1⟩) fun e ρ1 q => q⟩
/-! ### a + b of lists, of tuples -/
def rCatR : R2 := fun x y H Q => ∃ l b xs zs, x = .ref l ∧ y = .ref b ∧ Rd H l (.lst xs) ∧ Rd H b (.lst zs) ∧ xs.length + zs.length ≤ sizeLine ∧ ∀ p, H p = none → Q (.ref p) (L2.upd H p (.lst (xs ++ zs)))
theorem lst_rd {pins : List (Addr × Obj)} {σ : St} {H : Hp} {s : Shared} {p : Addr} {xs : List V} (I : Inv X pins σ H s) (h : Rd H p (.lst xs)) : ∃ (its : List Value) (n : Nat), Vals xs its ∧ xs.length = its.length ∧ s.heap.get? p = some { cls := .type "list", data := .seq its.toArray n } ∧ xs.length ≤ sizeLine := by
  obtain ⟨z, its, n, r, e⟩ := h.ok I.hok
  exact ⟨its, n, r, r.length, e, z⟩
theorem op_catR : OpR X (binaryOp .Add) rCatR := by
  intro pins s σ H x y v u Q I rx ry h
  obtain ⟨l, b, xs, zs, rfl, rfl, hH, hB, hz, q⟩ := h
  cases rx
  cases ry
  obtain ⟨its, n, r, hl, e, _⟩ := lst_rd I hH
  obtain ⟨its2, n2, r2, hl2, e2, _⟩ := lst_rd I hB
  refine PySem.P.add_list e e2 ?_ (by rw [List.size_toArray, List.size_toArray]; omega)
  have ea : its.toArray ++ its2.toArray = (its ++ its2).toArray := by simp
  rw [ea]
  exact ⟨.ref _, _, I.lnew (t' := s.toks) (r.append r2) (by rw [List.length_append]; omega), rfl, q _ I.fresh⟩
/-- a list's value, new or shared -/
theorem toL_rd {K : Kx} {F H : Hp} {ρ : Sl} {σ : St} {fr : FR} {k : C} {v : V} {xs : List PyData} (s : Same F H) (r : RC K fr ρ σ H F k v) (h : toL k = some xs) : ∃ p vs, v = .ref p ∧ Rd H p (.lst vs) ∧ DpAll K F vs xs := by
  cases k with
  | d x =>
    cases x with
    | list ys =>
      cases h
      cases r with
      | lst hs ha => exact ⟨_, _, rfl, rd_mono s hs, ha⟩
    | _ => cases h
  | l ys =>
    cases h
    obtain ⟨p, o, rfl, _, _, h3, h4, _⟩ := r
    obtain ⟨vs, rfl, h5⟩ := isO_l h4
    exact ⟨p, vs, rfl, .inl h3, h5⟩
  | _ => cases h
theorem do_cat (ha : DO X c a n1) (hb : DO X c b n2) : DO X c (.BinOp a .Add b pos) (mCat n1 n2) :=
  pe_imp (pe_op (OpR.or op_catR op_catA) ha hb) fun σ H Q ⟨F, ρ, r, h⟩ => ⟨F, ρ, r, Out.mono (Out.bind h) (fun k ρ1 h1 v H1 F1 g1 d1 => ⟨F1, ρ1, g1.rp, Out.mono (Out.bind h1) (fun k' ρ2 h2 u H2 F2 g2 d2 => by
    obtain ⟨w, e, q⟩ := Out.of h2
    have d1' := rc_go g2 d1
    have g12 := g1.trans g2
    unfold oCat at e
    cases e1 : toL k with
    | some xs =>
      rw [e1] at e
      cases e2 : toL k' with
      | some ys =>
        rw [e2] at e
        have e' : (if xs.length + ys.length ≤ sizeLine then some (C.l (xs ++ ys)) else none) = some w := e
        by_cases hz : xs.length + ys.length ≤ sizeLine
        · rw [if_pos hz] at e'
          cases e'
          obtain ⟨p, vs, rfl, k2, k3⟩ := toL_rd g2.rp.sub d1' e1
          obtain ⟨p', vs', rfl, k2', k3'⟩ := toL_rd g2.rp.sub d2 e2
          exact .inl ⟨p, p', vs, vs', rfl, rfl, k2, k2', by rw [dpa_len k3, dpa_len k3']; exact hz, fun t ht => q _ _ F2 (g12.trans (Go.temp g2.rp ht _)) ⟨t, _, rfl, .inl (g12.back ht), g2.rp.free ht, upd_same, dpa_app k3 k3', no_own g2.rp ht⟩⟩
        · rw [if_neg hz] at e'; cases e'
      | none =>
        rw [e2] at e
        cases k with
        | d x => cases x with
          | list ys => cases e
          | _ => cases e1
        | l ys => cases e
        | _ => cases e1
    | none =>
      rw [e1] at e
      cases k with
      | d x =>
        cases x with
        | tuple xs =>
          cases k' with
          | d y =>
            cases y with
            | tuple ys =>
              have e' : (if xs.length + ys.length ≤ sizeLine then some (C.d (.tuple (xs ++ ys))) else none) = some w := e
              by_cases hz : xs.length + ys.length ≤ sizeLine
              · rw [if_pos hz] at e'
                cases e'
                cases d1' with
                | tup hs ha => cases d2 with
                  | tup hs2 hb =>
                    rename_i pa va pb vb
                    refine .inr ⟨pa, pb, va, vb, rfl, rfl, sqT_mono g2.rp.sub hs, sqT_mono g2.rp.sub hs2, by rw [dpa_len ha, dpa_len hb]; exact hz, fun en => ?_, fun _ en => ?_, fun _ _ t ht => ?_⟩
                    · subst en
                      cases ha
                      exact q _ H2 F2 g12 (.tup hs2 hb)
                    · subst en
                      cases hb
                      rw [List.append_nil] at q
                      exact q _ H2 F2 g12 (.tup hs ha)
                    · exact q _ _ _ (g12.trans (Go.data g2.rp ht _)) (.tup (.inl (.inl upd_same)) (dpAll_mono (same_upd (g2.rp.free ht)) (dpa_app ha hb)))
              · rw [if_neg hz] at e'; cases e'
            | _ => cases e
          | _ => cases e
        | list xs => cases e1
        | _ => cases e
      | l xs => cases e1
      | _ => cases e) fun e ρ2 q cv dd H2 F2 g2 er => q cv dd H2 F2 (g1.trans g2) er⟩) fun e ρ1 q => q⟩
/-! ### slices -/
def ROp : FR → Sl → St → Hp → Hp → Option Int → Option Int → Prop := fun _ _ _ _ _ a b => a = b
abbrev DPo (X : Cx) (c : Ct) (e : Option Expr) (m : M (Option Int)) : Prop := PO X e (Tr X.kx c ROp m)
theorem dpo_none : DPo X c none pNo := ⟨fun pins s σ H Q I ⟨F, ρ, r, h⟩ => po_none.run pins s σ H Q I (h _ H F (Go.refl r) rfl)⟩
theorem dpo_some (h : DE X c e m) : DPo X c (some e) (pInt m) := ⟨fun pins s σ H Q I ⟨F, ρ, r, o⟩ => (po_some h).run pins s σ H Q I ⟨F, ρ, r, Out.mono (Out.bind o) (fun d ρ1 q v H1 F1 g1 d1 => by
  cases d with
  | int i => cases d1; exact ⟨i, rfl, q _ H1 F1 g1 rfl⟩
  | _ => exact q.elim) fun e ρ1 q => q⟩⟩
theorem dpa_cut {K : Kx} {F : Hp} {vs : List V} {ds : List PyData} (lo hi : Option Int) (h : DpAll K F vs ds) : DpAll K F (cutV vs lo hi) (cutL ds lo hi) := by
  unfold cutV cutL
  rw [dpa_len h]
  exact dpa_take _ (dpa_drop _ h)
theorem do_slice {lo hi : Option Expr} {ml mh : M (Option Int)} (he : DE X c e m) (hl : DPo X c lo ml) (hu : DPo X c hi mh) : DO X c (.Subscript e (.Slice lo hi none p2) pos) (mSl m ml mh) :=
  pe_imp (pe_slice (SlR.or sl_list sl_tupA) he hl hu) fun σ H Q ⟨F, ρ, r, o⟩ => ⟨F, ρ, r, Out.mono (Out.bind o) (fun d ρ1 q v H1 F1 g1 d1 => ⟨F1, ρ1, g1.rp, Out.mono (Out.bind q) (fun lo ρ2 q lo' H2 F2 g2 e2 => by
    cases e2
    refine ⟨F2, ρ2, g2.rp, Out.mono (Out.bind q) (fun hi ρ3 q hi' H3 F3 g3 e3 => ?_) fun e ρ2 q cv dd H3 F3 g3 er => q cv dd H3 F3 ((g1.trans g2).trans g3) er⟩
    cases e3
    obtain ⟨w, e, q⟩ := Out.of q
    have g := (g1.trans g2).trans g3
    have d3 := dp_mono (g2.fr.trans g3.fr) d1
    cases d with
    | list xs =>
      cases e
      cases d3 with
      | lst hs ha => exact .inl ⟨_, _, rfl, rd_seq g3.rp.sub hs, fun t ht => q _ _ F3 (g.trans (Go.temp g3.rp ht _)) ⟨t, _, rfl, .inl (g.back ht), g3.rp.free ht, upd_same, dpa_cut lo hi ha, no_own g3.rp ht⟩⟩
    | tuple xs =>
      cases e
      cases d3 with
      | tup hs ha =>
        refine .inr ⟨_, _, rfl, sqT_mono g3.rp.sub hs, fun ⟨w1, w2⟩ => ?_, fun _ t ht => q _ _ _ (g.trans (Go.data g3.rp ht _)) (.tup (.inl (.inl upd_same)) (dpAll_mono (same_upd (g3.rp.free ht)) (dpa_cut lo hi ha)))⟩
        refine q _ H3 F3 g ?_
        have ec : cutL xs lo hi = xs := by
          unfold cutL
          rw [← dpa_len ha, w1, w2, List.drop_zero, Nat.sub_zero, dpa_len ha, List.take_length]
        rw [ec]
        exact .tup hs ha
    | _ => cases e) fun e ρ2 q cv dd H2 F2 g2 er => q cv dd H2 F2 (g1.trans g2) er⟩) fun e ρ1 q => q⟩
/-! ### list(range(n)) -/
theorem rg_dpa {K : Kx} {F : Hp} (a b : Int) : DpAll K F (rgV a b) (rgL a b) := by
  unfold rgV rgL
  induction List.range (b - a).toNat with
  | nil => exact .nil
  | cons n r ih => exact .cons (.int _) ih
theorem rgOk_of {a b : Int} (h : rgOk a b = true) : RgOk a b := by
  unfold rgOk at h
  simp only [Bool.and_eq_true, decide_eq_true_eq] at h
  exact ⟨h.1.1.1.1, h.1.1.1.2, h.1.1.2, h.1.2, h.2⟩
theorem do_listRg {p p3 : Pos} (hc : X.calm = true) (hg : Gl X "list") (hm : X.mg "list" = none) (hg' : Gl X "range") (hm' : X.mg "range" = none) (ha : DE X c a m)
    (na : starEach [.Call (.Name "range" p3) [a] [] p2] X.env = (false, eval (.Call (.Name "range" p3) [a] [] p2) X.env) :: starEach [] X.env := by rfl) (nb : starEach [a] X.env = (false, eval a X.env) :: starEach [] X.env := by rfl) :
    DO X c (.Call (.Name "list" p) [.Call (.Name "range" p3) [a] [] p2] [] pos) (mLstRg1 m) :=
  pe_imp (pe_listRg hc hg hm (prg_1 hg' hm' ha nb) na) fun σ H Q ⟨F, ρ, r, o⟩ => ⟨F, ρ, r, Out.mono (Out.bind o) (fun d ρ1 q v H1 F1 g1 d1 => by
    obtain ⟨w, e, q⟩ := Out.of q
    cases d with
    | int j =>
      cases d1
      have e' : (if rgOk 0 j = true then some (C.l (rgL 0 j)) else none) = some w := e
      by_cases hj : rgOk 0 j = true
      · rw [if_pos hj] at e'
        cases e'
        exact ⟨j, rfl, rgOk_of hj, fun t ht => q _ _ F1 (g1.trans (Go.temp g1.rp ht _)) ⟨t, _, rfl, .inl (g1.back ht), g1.rp.free ht, upd_same, rg_dpa 0 j, no_own g1.rp ht⟩⟩
      · rw [if_neg hj] at e'; cases e'
    | _ => cases e) fun e ρ1 q => q⟩
/-! ### xs.extend(..) -/
def rExtR : V → List V → Hp → VK → Prop := fun x vs H Q => ∃ l b xs zs, x = .ref l ∧ vs = [.ref b] ∧ H l = some (.lst xs) ∧ Rd H b (.lst zs) ∧ xs.length + zs.length ≤ sizeLine ∧ Q .non (L2.upd H l (.lst (xs ++ zs)))
theorem mt_extR : MtM X "list.extend" rExtR := by
  intro pins s σ H x vs v us Q I rx rv h
  obtain ⟨l, b, xs, zs, rfl, rfl, hH, hB, hz, q⟩ := h
  cases rx
  obtain ⟨u, rfl, ru⟩ := rv.one
  cases ru
  obtain ⟨z, its, n, r, hl, e⟩ := I.lstM hH
  obtain ⟨its2, n2, r2, hl2, e2, _⟩ := lst_rd I hB
  have hsz : its.toArray.size + its2.toArray.size ≤ sizeLine := by rw [List.size_toArray, List.size_toArray]; omega
  have hlong : ¬ (!its.toArray.isEmpty && Builtin.List.listTooLong (its.toArray.size + its2.toArray.size)) = true := by
    rw [notLongL hsz, Bool.and_false]
    exact Bool.false_ne_true
  refine call_meets F.slot_list_extend ⟨_, e, rfl⟩ F.entry_list_extend (F.args_list_extend_2 _ _)
    (AutoSeq1.list_extend_list_list_0 l its.toArray n b its2.toArray n2 hlong (by rw [List.size_toArray]; omega) (by omega)) ⟨e, e2, ?_⟩
  refine ⟨.non, _, I.lset (its' := its ++ its2) hH e (by simp) (r.append r2) ?_, rfl, q⟩
  rw [List.length_append]
  omega
theorem ds_ext {p1 p2 p3 : Pos} (ho : PE X a (L2.tVar i)) (he : DO X c e n1) (hbase : attributeBase a "extend" X.env (eval a X.env) = eval a X.env := by rfl)
    (hfew : ((backTo p2 (starEach [e] X.env)).all (fun x => !x.1) && (backToKw p2 (keywordEach [] X.env)).all (fun x => x.1.isSome)
      && decide ([e].length + ([] : List Keyword).length + (if ([] : List Keyword).isEmpty then 0 else 1) < 30)) = true := by rfl)
    (hline : (p1.endLine == p2.line) = true := by rfl) (hs : starEach [e] X.env = (false, eval e X.env) :: starEach [] X.env := by rfl) (hplain : (backTo p2 (starEach [] X.env)).any (·.1) = false := by rfl)
    (hsw : swapsWith (.Call (.Attribute a "extend" p1) [e] [] p2) none p3.line X.env = pure false := by rfl) :
    DS X c (.Expr (.Call (.Attribute a "extend" p1) [e] [] p2) p3) (sExtC i n1) :=
  ps_imp (ps_expr (pe_bm PySem.F.plainAttrs_list PySem.F.slot_list_extend (by rfl) mt_extR ho (pa_cons he pa_nil hs) hbase hfew hline hs hplain) hsw) fun D σ H ⟨F, ρ, r, o⟩ => by
    obtain ⟨xs, hl, o⟩ := sOn_out (K := X.kx) (D := D) o
    obtain ⟨a, vs, z, h1, h2, h3⟩ := lsAt_own r hl
    refine ⟨.ref a, h1, .inl ⟨rfl, vs, .of h2⟩, F, ρ, r, Out.mono (Out.bind o) (fun y ρ1 q v H1 F1 g1 d1 => ?_) fun e ρ1 q => q.ex⟩
    cases hl1 : lsAt i ρ1 with
    | none => rw [hl1] at q; exact q.elim
    | some xs1 =>
      rw [hl1] at q
      cases hy : toL y with
      | none => rw [hy] at q; exact q.elim
      | some ys =>
        rw [hy] at q
        have q' : Out ((if xs1.length + ys.length ≤ sizeLine then .ok .nx (ρ1.set i (some (.l (xs1 ++ ys)))) else .stuck : Res Fl)) (SK X.kx c D ρ σ H F) (SE X.kx c ρ σ H F) := q
        by_cases hz : xs1.length + ys.length ≤ sizeLine
        · rw [if_pos hz] at q'
          obtain ⟨a1, vs1, z1, k1, k2, k3⟩ := lsAt_own g1.rp hl1
          rw [h1] at k1; cases k1
          obtain ⟨pb, wb, rfl, y2, y3⟩ := toL_rd g1.rp.sub d1 hy
          exact ⟨a, pb, vs1, wb, rfl, rfl, k2, y2, by rw [dpa_len k3, dpa_len y3]; exact hz, q' σ _ _ (g1.trans (Go.upd g1.rp z1 rfl rfl h1 (dpa_app k3 y3)))⟩
        · rw [if_neg hz] at q'; exact q'.elim
/-! ### a slot that holds a def, called -/
theorem do_door {T : Str → Option (Nat × (Sl → Res C))} {k n : Nat} {ms : List (M Av)} {p : Pos} (hT : ∀ x n φ, T x = some (n, φ) → ∃ ps : List Str, ps.length = n ∧ Kn X.prog X.w X.kx X.base k c.ER x ps φ) (hr : Room k X.A) (hN : X.N[i]? = some x) (hv : Vis X.env.scope x) (tk : ∀ σ, PassesAt (L2.CX X.prog X.w) X σ (WE c.W σ))
    (ha : DAr X c (e :: es) (mSeqA ms)) (hl : ms.length = n := by rfl) (hdb : (x == ("__debug__" : Str)) = false := by decide) (hcd : (x == ("__classdict__" : Str)) = false := by decide)
    (he : starEach (e :: es) X.env = (false, eval e X.env) :: starEach es X.env := by rfl) (hpl : (backTo pos (starEach es X.env)).any (·.1) = false := by rfl) : DO X c (.Call (.Name x p) (e :: es) [] pos) (mDoor T i n (mSeqA ms)) := by
  refine ⟨fun pins s σ H Q I ⟨F, ρ, r, h⟩ => ?_⟩
  unfold T1 mDoor at h
  cases z : ρ[i]? with
  | none => rw [z] at h; exact h.elim
  | some o =>
    cases o with
    | none => rw [z] at h; exact h.elim
    | some kk =>
      cases kk with
      | f y =>
        rw [z] at h
        obtain ⟨f, h1, h2⟩ := r.fn i y z
        have h0 : Out (match T y with
          | some (k, φ) => if k = n then mCall φ (mSeqA ms) ρ else .stuck
          | none => .stuck) (fun a ρ' => ∀ v H' F', Go X.kx c.P ρ σ H F ρ' σ H' F' → RC X.kx (Fr ρ σ H) ρ' σ H' F' a v → Q v H') (fun e ρ' => ∀ cv dd H' F', Go X.kx c.P ρ σ H F ρ' σ H' F' → c.ER e cv dd H' → c.W cv dd σ H') := h
        cases hTy : T y with
        | none => rw [hTy] at h0; exact h0.elim
        | some q =>
          obtain ⟨n', φ⟩ := q
          rw [hTy] at h0
          have h' : Out (if n' = n then mCall φ (mSeqA ms) ρ else .stuck) (fun a ρ' => ∀ v H' F', Go X.kx c.P ρ σ H F ρ' σ H' F' → RC X.kx (Fr ρ σ H) ρ' σ H' F' a v → Q v H') (fun e ρ' => ∀ cv dd H' F', Go X.kx c.P ρ σ H F ρ' σ H' F' → c.ER e cv dd H' → c.W cv dd σ H') := h0
          by_cases hn : n' = n
          · rw [if_pos hn] at h'
            subst hn
            obtain ⟨ps, hps, Kf⟩ := hT y n' φ hTy
            obtain ⟨f', fd, hF, hm, hk, hb⟩ := Kf.ex
            rw [h1] at hm
            cases hm
            have q := call_use (c := c) (n := ps.length) (X := X) (φ := φ) (m := mSeqA ms) (σ := σ) (H := H) (Q := Q) ⟨F, ρ, r, h'⟩ fun ρ P E o => by rw [hps, ← hl]; exact mseqA_len ms ρ P E o
            refine wpAny_Call_Name_kw (thn ((pe_var (pos := p) hN hv hdb hcd).run pins s σ H (fun v H1 => v = .ref f ∧ H1 = H) I ⟨.ref f, h2, rfl, rfl⟩) fun u s1 ⟨v, H1, I1, r1, q1⟩ => ?_)
            obtain ⟨rfl, rfl⟩ := q1
            cases r1
            refine PySem.W.callWith_K (h₀ := X.base) I.ok.mod.kin hk (thn (ha.run pos pins s1 σ _ _ I1 q) fun us s2 ⟨vs, H2, I2, r, q⟩ => ⟨I2.kIn, ?_⟩) he hpl
            exact run_fnS hF hr hb (tk σ) I2 r q
          · rw [if_neg hn] at h'; exact h'.elim
      | _ => rw [z] at h; exact h.elim
end
end DL

set_option Elab.async false
set_option linter.all false
set_option maxRecDepth 100000
set_option maxHeartbeats 2000000
namespace DL
open PySem PySem.Spec PyProof.Rows L2
theorem liftL1 {α : Type} (f : PyData → Option α) (m : M PyData) : liftL (on1 f) (mSeq [m]) = lift1 f m := by
  funext ρ
  show M.bind (M.bind m fun x => M.bind (M.pure []) fun xs => M.pure (x :: xs)) (fun xs => M.of (on1 f xs)) ρ = M.bind m (fun x => M.of (f x)) ρ
  unfold M.bind
  cases m ρ <;> rfl
theorem liftL2 {α : Type} (f : PyData → PyData → Option α) (m m' : M PyData) : liftL (on2 f) (mSeq [m, m']) = lift2 f m m' := by
  funext ρ
  show M.bind (M.bind m fun x => M.bind (M.bind m' fun y => M.bind (M.pure []) fun xs => M.pure (y :: xs)) fun xs => M.pure (x :: xs)) (fun xs => M.of (on2 f xs)) ρ = M.bind m (fun x => M.bind m' fun y => M.of (f x y)) ρ
  unfold M.bind
  cases m ρ with
  | ok x ρ1 => dsimp only; cases m' ρ1 <;> rfl
  | err e ρ1 => rfl
  | stuck => rfl
section
variable {X : Cx} {c : Ct} {a b : Expr} {p pos : Pos} {m m' : M PyData} {x : Str}
theorem bi_abs (hg : Gl X "abs") (hm : X.mg "abs" = none) (ha : DE X c a m) (h1 : starEach [a] X.env = (false, eval a X.env) :: starEach [] X.env := by rfl) : DE X c (.Call (.Name "abs" p) [a] [] pos) (lift1 oAbs m) := liftL1 oAbs m ▸ de_callB call_abs ca_abs hg hm boot_abs (da_cons ha da_nil h1) (by decide) (by decide) h1
theorem bi_int (hg : Gl X "int") (hm : X.mg "int" = none) (ha : DE X c a m) (h1 : starEach [a] X.env = (false, eval a X.env) :: starEach [] X.env := by rfl) : DE X c (.Call (.Name "int" p) [a] [] pos) (lift1 oInt m) := liftL1 oInt m ▸ de_callTy call_int1 ca_int hg hm boot_int (da_cons ha da_nil h1) (by decide) (by decide) h1
theorem bi_len (hg : Gl X "len") (hm : X.mg "len" = none) (ha : DE X c a m) (h1 : starEach [a] X.env = (false, eval a X.env) :: starEach [] X.env := by rfl) : DE X c (.Call (.Name "len" p) [a] [] pos) (lift1 oLen m) := liftL1 oLen m ▸ de_callB call_len ca_len hg hm boot_len (da_cons ha da_nil h1) (by decide) (by decide) h1
theorem bi_all (hc : X.calm = true) (hg : Gl X "all") (hm : X.mg "all" = none) (ha : DE X c a m) (h1 : starEach [a] X.env = (false, eval a X.env) :: starEach [] X.env := by rfl) : DE X c (.Call (.Name "all" p) [a] [] pos) (lift1 oAll m) := liftL1 oAll m ▸ de_callB (id := "all") (cr_all hc) ca_all hg hm (by decide +kernel) (da_cons ha da_nil h1) (by decide) (by decide) h1
theorem bi_any (hc : X.calm = true) (hg : Gl X "any") (hm : X.mg "any" = none) (ha : DE X c a m) (h1 : starEach [a] X.env = (false, eval a X.env) :: starEach [] X.env := by rfl) : DE X c (.Call (.Name "any" p) [a] [] pos) (lift1 oAny m) := liftL1 oAny m ▸ de_callB (id := "any") (cr_any hc) ca_any hg hm (by decide +kernel) (da_cons ha da_nil h1) (by decide) (by decide) h1
theorem bi_max (hc : X.calm = true) (hg : Gl X "max") (hm : X.mg "max" = none) (ha : DE X c a m) (hb : DE X c b m') (h1 : starEach [a, b] X.env = (false, eval a X.env) :: starEach [b] X.env := by rfl) (h2 : starEach [b] X.env = (false, eval b X.env) :: starEach [] X.env := by rfl) (h3 : (backTo pos (starEach [b] X.env)).any (·.1) = false := by rfl) : DE X c (.Call (.Name "max" p) [a, b] [] pos) (lift2 oMax m m') := liftL2 oMax m m' ▸ de_callB (call_max2 hc) ca_max2 hg hm (by decide +kernel) (da_cons ha (da_cons hb da_nil h2) h1) (by decide) (by decide) h1 h3
theorem bi_min (hc : X.calm = true) (hg : Gl X "min") (hm : X.mg "min" = none) (ha : DE X c a m) (hb : DE X c b m') (h1 : starEach [a, b] X.env = (false, eval a X.env) :: starEach [b] X.env := by rfl) (h2 : starEach [b] X.env = (false, eval b X.env) :: starEach [] X.env := by rfl) (h3 : (backTo pos (starEach [b] X.env)).any (·.1) = false := by rfl) : DE X c (.Call (.Name "min" p) [a, b] [] pos) (lift2 oMin m m') := liftL2 oMin m m' ▸ de_callB (call_min2 hc) ca_min2 hg hm (by decide +kernel) (da_cons ha (da_cons hb da_nil h2) h1) (by decide) (by decide) h1 h3
theorem bi_list (hg : Gl X "list") (hm : X.mg "list" = none) (ha : DE X c a m) (h1 : starEach [a] X.env = (false, eval a X.env) :: starEach [] X.env := by rfl) : DO X c (.Call (.Name "list" p) [a] [] pos) (lift1 oListC m) := liftL1 oListC m ▸ do_callTy call_list_of co_list hg hm boot_list (da_cons ha da_nil h1) (by decide) (by decide) h1
theorem bi_tuple (hg : Gl X "tuple") (hm : X.mg "tuple" = none) (ha : DE X c a m) (h1 : starEach [a] X.env = (false, eval a X.env) :: starEach [] X.env := by rfl) : DE X c (.Call (.Name "tuple" p) [a] [] pos) (lift1 oTuple m) := liftL1 oTuple m ▸ de_callTy call_tuple_of ca_tuple hg hm boot_tuple (da_cons ha da_nil h1) (by decide) (by decide) h1
/-- a global whole number -/
theorem de_gint {i : Int} (hg : Gl X x) (hm : ∃ t, X.mg x = some (.int i t)) (hd : (x == ("__debug__" : Str)) = false := by decide) : DE X c (.Name x p) (M.pure (.int i)) := by
  obtain ⟨t, h⟩ := hm
  exact de_globP (pe_glob (v := .int i) hg h ⟨t, rfl⟩ hd) fun F => .int i
/-- a def by its name -/
theorem do_gfn {f : Addr} (hg : Gl X x) (hm : X.mg x = some (.ref f)) (hd : (x == ("__debug__" : Str)) = false := by decide) : DO X c (.Name x p) (M.pure (.f x)) := do_globP (pe_glob (v := .ref f) hg hm rfl hd) hm
/-! ### what is let out -/
theorem takesB {X : Cx} {E : XK} {E₁ : Value → Shared → Prop} (hs : X.stack = X.env :: X.outer := by rfl) (hf : X.env.frame = some X.env.locals := by rfl) (hex : X.ex = [] := by rfl)
    (hx : X.xe = fun e s' => wpAny (model X.prog X.w) X.A (leaving X.env e) (fun _ s'' => L2.CX X.prog X.w X.outer X.H_0 X.s_0 E e s'') E₁ s' := by rfl) : Takes X (fun cls d _ H => E cls d H) := takes_of hs hf hex hx
theorem passNo : ∀ σ, PassesAt (L2.CX X.prog X.w) X σ (WE noW σ) := fun σ => passAt takes0 σ
end
section
variable {X : Cx} {c : Ct} {elt tg iter : Expr} {ifs : List Expr} {scope : Scope} {own : List (Str × Nat)} {pos : Pos} {mi : M (List PyData)} {g : PyData → M Unit} {t : M Bool} {m : M PyData} {vs : List Nat}
theorem tr_dat {K : Kx} {σ : St} {H : Hp} {Q : VK} (q : Tr K c (RC K) (mDat m) σ H Q) : Tr K c (RD K) m σ H Q := by
  obtain ⟨F, ρ, r, q⟩ := q
  exact ⟨F, ρ, r, Out.mono (Out.bind q) (fun x ρ1 q1 v H1 F1 g1 d1 => q1 v H1 F1 g1 d1) fun e ρ1 q => q⟩
theorem tr_frz {K : Kx} {n : M C} {σ : St} {H : Hp} {Q : VK} (q : Tr K c (RD K) (mFrz n) σ H Q) : Tr K c (RC K) n σ H Q := by
  obtain ⟨F, ρ, r, q⟩ := q
  refine ⟨F, ρ, r, Out.mono (Out.bind q) (fun x ρ1 q1 v H1 F1 g1 d1 => ?_) fun e ρ1 q => q⟩
  cases x with
  | d x => exact q1 v H1 F1 g1 d1
  | l xs =>
    obtain ⟨p, o, rfl, h0, hF, hH, ho, no⟩ := d1
    obtain ⟨vs, rfl, h5⟩ := isO_l ho
    exact q1 _ H1 _ (g1.share h0 hH hF no) (.lst (.inl upd_same) (dpAll_mono (same_upd hF) h5))
  | _ => exact q1.elim
/-- name = [..], the list shared at once -/
theorem ds_setLcF {i : Nat} {y : Str} {py spos : Pos} (hc : X.calm = true) (hN : X.N.Nodup) (hy : X.N[i]? = some y) (hyl : X.env.scope.names.lookup y = some .local) (hP : c.P.all i = false)
    (hsw : swapsWith (.ListComp elt [⟨tg, iter, ifs, 0⟩] scope pos) (some (.Name y py)) spos.line X.env = pure true) (hi : DI X c tg iter mi) (ok : BlkOk X.N X.env.scope scope own) (hv : own.map (·.2) = vs := by rfl)
    (hg : ∀ (s : Shared) (H : Hp) (C : Addr) (cl : List (Str × Addr)) (fp : List Addr), DG (X.blk s H scope (compEnvC scope cl C X.env) fp) (blkCt c vs) tg g) (ht : ∀ (s : Shared) (H : Hp) (C : Addr) (cl : List (Str × Addr)) (fp : List Addr), BIf (X.blk s H scope (compEnvC scope cl C X.env) fp) (blkCt c vs) ifs t)
    (he : ∀ (s : Shared) (H : Hp) (C : Addr) (cl : List (Str × Addr)) (fp : List Addr), DE (X.blk s H scope (compEnvC scope cl C X.env) fp) (blkCt c vs) elt m) (hs : ∀ x, foldedSetIterable iter X.env x = pure x := by intro _; rfl) :
    DS X c (.Assign [.Name y py] (.ListComp elt [⟨tg, iter, ifs, 0⟩] scope pos) spos) (sSet i (mDat (mFrz (mLc vs mi g t m)))) := by
  subst hv
  exact ps_imp (ps_setLc hc hN hy hyl hsw hi ok (fun s H C cl fp => (hg s H C cl fp).pg) (fun s H C cl fp => (ht s H C cl fp).h) he hs) fun D σ H q => lc_use (hg X.s_0 X.H_0 0 [] []).ne (tr_frz (tr_dat (ds_setR hP q)))
end
/-- nothing is known of what the def does -/
theorem kn_stuck {P : Program} {w : World} {K : Kx} {base : Heap} {x : Str} {params : Arguments} {body : List Stmt} {scope : Scope} {ps : List Str} {k : Nat} {ER : ERx} (Dk : DefK K x params body scope)
    (hb : ∀ (kV doc pm : Value) (an : Option Addr) (cdv ct : Value) (us : List Value), us.length = ps.length → bindArgs (PySem.W.fnOf x x params body scope .none kV doc pm an cdv ct) ⟨us, []⟩ = pure (ps.zip us)) :
    Kn P w K base k ER x ps (fun _ => .stuck) := by
  obtain ⟨f, fd, Fd, hm⟩ := Dk.ex
  exact ⟨f, fd, ⟨fun vs H Q E h => h.1, fun A outer s H args us vs Q E _ _ _ _ ⟨_, _, _, _, o⟩ => o.elim⟩, hm, Fd.kp, Fd.bindsN hb⟩
/-- how the program's exceptions stand -/
def erK (K : Kx) : ERx := fun e cv dd _ => match e with
  | .unfit => cv = .ref (He.ga K.fr "Unfit") ∧ dd = none
  | .cannot => cv = .ref (He.ga K.fr "CanNot") ∧ dd = none
  | .many => cv = .ref (He.ga K.fr "TooMany") ∧ dd = none
  | .nothing => cv = .ref (He.ga K.fr "NothingDone") ∧ dd = none
  | .bad _ => False
/-! ### a law's end -/
/-- no list stands in what the top has left -/
def noLists (K : PySem.W.Frag) : Bool := K.all fun q => match q.2.cls with
  | .type n => !(n == "list")
  | _ => true
theorem rd_of {K : PySem.W.Frag} {H : Hp} {a : Addr} {xs : List V} (n : noLists K = true) (h : SqL K H a xs) : Rd H a (.lst xs) := by
  rcases h with h | ⟨o, its, k, h1, h2, _⟩
  · exact h
  · have q := List.all_eq_true.mp n _ (He.lookup_mem h1)
    have q' : (match o.cls with
      | .type n => !(n == "list")
      | _ => true) = true := q
    rw [h2] at q'
    cases q'
def spL (K : PySem.W.Frag) (φ : Sl → Res C) : Sp := fun vs H Q _ => ∃ (a : Addr) (ns : List Int), vs = [.ref a] ∧ Rd H a (.lst (ns.map V.int)) ∧ (∀ b, H b = none ∨ ∃ o xs, H b = some (.frz o (.lst xs))) ∧ Good φ ns ∧ ∀ H', Q (.bl true) H'
theorem ints_dpa {K : Kx} {F : Hp} : ∀ ns : List Int, DpAll K F (ns.map V.int) (ns.map PyData.int)
  | [] => .nil
  | n :: r => .cons (.int n) (ints_dpa r)
theorem law_fn {P : Program} {w : World} {K : Kx} {base : Heap} {k : Nat} {ER : ERx} {φ : Sl → Res C} {f : Addr} {fd : FuncData} {x : Str} (h : FnOk P w K.fr K.mg base (L2.CX P w) k f fd [x] (spF K ER 1 φ)) : FnOk P w K.fr K.mg base CX0 k f fd [x] (spL K φ) := by
  refine ⟨fun vs H Q E ⟨a, ns, e, _⟩ => by rw [e] <;> rfl, fun A outer s H args us vs Q E hr e0 hb hv ⟨a, ns, e, hR, hO, hg, hq⟩ => ?_⟩
  subst e
  have sp : spF K ER 1 φ [.ref a] H Q (fun _ _ _ => False) := by
    refine ⟨rfl, H, _, ⟨Same.refl H, rfl, fun i x e => ?_, fun i x e => ?_, fun i c e hc => ?_, fun i j b o1 o2 e1 e2 => ?_⟩, Out.mono hg (fun c ρ e v H' F' g r => ?_) fun _ _ q => q.elim⟩
    · cases i with
      | zero =>
        cases e
        exact ⟨.ref a, rfl, .lst hR (ints_dpa ns)⟩
      | succ i => cases i <;> cases e
    · cases i with
      | zero => cases e
      | succ i => cases i <;> cases e
    · cases i with
      | zero => cases e; cases hc
      | succ i => cases i <;> cases e
    · obtain ⟨c, e, hc⟩ := o1
      cases i with
      | zero => cases e; cases hc
      | succ i => cases i <;> cases e
    · subst e
      cases r
      exact hq H'
  refine codeAny_mono (h.run A outer s H args us [.ref a] Q (fun _ _ _ => False) hr e0 hb hv sp) fun r s' hq => ?_
  cases r with
  | error e =>
    obtain ⟨_, _, _, _, _, _, _, _, _, _, _, _, z⟩ := hq
    exact z.elim
  | ok fl =>
    cases fl with
    | ret u => exact hq
    | next => exact hq
    | brk => exact hq
    | cont => exact hq
theorem dl_walk {l : PySem.W.OpenLaw} {n k : Nat} {q : Program} {loose : List Str} {XP : (Str → Option Value) → Heap → Prop} {YP : World → Heap → Prop} {d : DefRec} {x : Str}
    (hn : l.most = some n) (hn2 : n ≤ sizeLine) (hdf : d.params.defaults = []) (hr : Room k callerA)
    (F : ∀ (w : World) (mg : Str → Option Value) (fa : Addr) (h : Heap), YP w h → h.Ns mainGlobals mg → mg d.name = some (.ref fa) →
      ∃ (K : PySem.W.Frag) (fd : FuncData) (φ : Sl → Res C), K.In h ∧ noLists K = true ∧ (∀ (s : Shared) (u : Value), BindsTo s fd ⟨[u], []⟩ [(x, u)]) ∧
        (∀ ns : List Int, ns.length ≤ n → (∀ z ∈ ns, Builtin.Int.intBits z ≤ 1048576) → Good φ ns) ∧
        ∀ base : Heap, K.In base → base.Ns mainGlobals mg → ∃ ER, FnOk l.prog w K mg base (L2.CX l.prog w) k fa fd [x] (spF ⟨K, mg⟩ ER 1 φ)) :
    PySem.W.WalkO q loose XP YP l.row.toRowW d [] (fun f vs => PySem.call f vs) := by
  refine Att.attach_callB hn hdf fun w s₀ s₁ mg mb fa o pm cd doc a vs ns G Y ho hd hcd hmg hobj hints hlen hbits hg => ?_
  obtain ⟨K, fd, φ, KX, nl, hb, hgood, hF⟩ := F w mg fa _ Y G.T.g hmg
  exact law_call (CX := CX0) (sp := spL K φ) KX G.T.g G.T.b G.T.builtins G.T.nolimit hg hobj hints (Nat.le_trans hlen hn2) hr (fun base h1 h2 => by
    obtain ⟨ER, h⟩ := hF base h1 h2
    exact law_fn (K := ⟨K, mg⟩) h) hb (fun H hO hS => ⟨a, ns, rfl, rd_of nl hS, hO, hgood ns hlen hbits, fun _ => rfl⟩) fun H e s' z => z
end DL

set_option Elab.async false
set_option linter.all false
set_option maxRecDepth 100000
set_option maxHeartbeats 2000000
namespace DL
open PySem PySem.Spec PyProof.Rows L2
section
variable {X : Cx} {c : Ct} {x n s T : Str} {C : Addr} {i j : Nat} {body : List Stmt} {mb : M Fl} {ex : Exc} {bb : Bool} {Tn : String} {np p2 p3 p4 p5 p6 p7 p8 pos pos' : Pos}
open Classical in
theorem ds_try_ret (hs : X.stack = X.env :: X.outer) (hf : X.env.frame = some X.env.locals) (hN : X.N.Nodup) (hi : X.N[i]? = some n) (hln : X.env.scope.names.lookup n = some .local) (hP : c.P.all i = false) (hx : ExF X.kx x C) (hgx : Gl X x) (tk : Takes X c.W)
    (hb : ∀ (W : WX) (pn : List (Addr × Obj)) (xe : Value → Shared → Prop), Takes (X.tr pn xe) W → DSs (X.tr pn xe) ⟨c.P, c.ER, W⟩ body mb)
    (hE : ∀ e cv dd H, c.ER e cv dd H → (e.same ex = true ∧ cv = .ref C ∧ dd = none) ∨ (e.same ex = false ∧ PySem.W.exmOne X.K cv (.ref C) = some false))
    (hm : PySem.W.exmOne X.K (.ref C) (.ref C) = some true) (hk : ExcC X.K C) (kk : PySem.W.kitOne X.K (.ref C) (.type Tn) = some bb)
    (gi : Gl X "isinstance") (mi : X.mg "isinstance" = none) (gT : Gl X T) (mT : X.mg T = none) (vT : bootBuiltins T = some (.type Tn)) (nT : T ≠ "__name__" := by decide) (dT : (T == ("__debug__" : Str)) = false := by decide)
    (hdx : (x == ("__debug__" : Str)) = false := by decide) (hdn : (n == ("__debug__" : Str)) = false := by decide) (hcn : (n == ("__classdict__" : Str)) = false := by decide)
    (vi : bootBuiltins "isinstance" = some (.builtin "isinstance") := by decide +kernel)
    (h1 : ∀ a pn, starEach [.Constant (.str s) j p2, .Call (.Name "isinstance" p3) [.Name n p4, .Name T p5] [] p6] (X.suite a pn).env = (false, eval (.Constant (.str s) j p2) (X.suite a pn).env) :: starEach [.Call (.Name "isinstance" p3) [.Name n p4, .Name T p5] [] p6] (X.suite a pn).env := by intros; rfl)
    (h2 : ∀ a pn, starEach [.Call (.Name "isinstance" p3) [.Name n p4, .Name T p5] [] p6] (X.suite a pn).env = (false, eval (.Call (.Name "isinstance" p3) [.Name n p4, .Name T p5] [] p6) (X.suite a pn).env) :: starEach [] (X.suite a pn).env := by intros; rfl)
    (h3 : ∀ a pn, starEach [.Name n p4, .Name T p5] (X.suite a pn).env = (false, eval (.Name n p4) (X.suite a pn).env) :: starEach [.Name T p5] (X.suite a pn).env := by intros; rfl)
    (h4 : ∀ a pn, starEach [.Name T p5] (X.suite a pn).env = (false, eval (.Name T p5) (X.suite a pn).env) :: starEach [] (X.suite a pn).env := by intros; rfl)
    (h5 : ∀ a pn, (backTo p6 (starEach [.Name T p5] (X.suite a pn).env)).any (·.1) = false := by intros; rfl) :
    DS X c (.Try body [.ExceptHandler (some (.Name x np)) (some n) [.Return (some (.List [.Constant (.str s) j p2, .Call (.Name "isinstance" p3) [.Name n p4, .Name T p5] [] p6] p7)) p8] pos'] [] [] pos) (sTryRet mb ex i [.str s, .bool bb]) := by
  let tsuite : Addr → TS := fun a => tRet (tLst (tCons (tC (.str s)) (tCons (tCB (rIsE X.K C a) (tCons (L2.tVar i) (tCons (tC (.ty Tn)) tNil))) tNil)))
  let ts : Addr → Value → Option Addr → TS := fun a cls d => if cls = .ref C ∧ d = none then tsuite a else tNever
  refine ps_imp (ps_try_as (i := i) (ts := ts) (Wout := c.W) (tb := fun W => tS X.kx ⟨c.P, c.ER, W⟩ mb) hs hf hN hi hln ⟨hgx, hdx, .inl hx.gl⟩ tk (fun W pn xe tkW _ => hb W pn xe tkW) (fun a oe cls d pn hz hfl => ?_)) fun D σ H ⟨F, ρ, r, o⟩ => ?_
  · by_cases hc : cls = .ref C ∧ d = none
    · obtain ⟨rfl, rfl⟩ := hc
      show PSs _ _ (if Value.ref C = .ref C ∧ (none : Option Addr) = none then tsuite a else tNever)
      rw [if_pos ⟨rfl, rfl⟩]
      refine pss_one (ps_ret (pe_lst (pa_cons pe_str (pa_cons (pe_callB (call_isE hk hz hfl) gi mi vi (pa_cons (pe_var hi (.inl hln) hdn hcn) (pa_cons (pe_bltn (v := .ty Tn) gT mT vT rfl nT dT) pa_nil (h4 _ _)) (h3 _ _)) (by decide) (by decide) (h3 _ _) (h5 _ _)) pa_nil (h2 _ _)) (h1 _ _))))
    · show PSs _ _ (if cls = .ref C ∧ d = none then tsuite a else tNever)
      rw [if_neg hc]
      exact pss_never
  · have o' : Out (match mb ρ with
      | .ok fl ρ' => .ok fl ρ'
      | .err e ρ' => if e.same ex = true then (if i < ρ'.length then .ok (.rt (.l [.str s, .bool bb])) (ρ'.set i none) else .stuck) else .err e ρ'
      | .stuck => .stuck : Res Fl) (SK X.kx c D ρ σ H F) (SE X.kx c ρ σ H F) := o
    refine ⟨F, ρ, r, ?_⟩
    cases z : mb ρ with
    | ok fl ρ' => rw [z] at o'; exact o'
    | stuck => rw [z] at o'; exact o'
    | err e ρ' =>
      rw [z] at o'
      intro cv dd σ' H' F' g er
      rcases hE e cv dd H' er with ⟨e1, rfl, rfl⟩ | ⟨e1, e2⟩
      · have o2 : Out (if e.same ex = true then (if i < ρ'.length then .ok (.rt (.l [.str s, .bool bb])) (ρ'.set i none) else .stuck) else .err e ρ' : Res Fl) (SK X.kx c D ρ σ H F) (SE X.kx c ρ σ H F) := o'
        rw [if_pos e1] at o2
        have hlt0 : i < ρ'.length := Decidable.byContradiction fun hn => by
          rw [if_neg hn] at o2
          exact o2
        rw [if_pos hlt0] at o2
        refine ⟨true, hm, fun _ a ha => ?_, fun z => Bool.noConfusion z⟩
        show (if Value.ref C = .ref C ∧ (none : Option Addr) = none then tsuite a else tNever) _ _ _
        rw [if_pos ⟨rfl, rfl⟩]
        have hlt : i < σ'.length := by rw [← g.rp.len]; exact hlt0
        refine ⟨.ref a, by rw [List.getElem?_set_self hlt], .ty Tn, .type Tn, bb, rfl, fun u hu => hu, kk, by show 2 ≤ sizeLine; decide, fun p hp => ?_⟩
        have g1 := g.forget hP (some (.ref a))
        have g2 := g1.trans (Go.temp g1.rp hp (.lst [.str s, .bl bb]))
        exact o2 _ _ _ g2 (.ref p) ⟨p, .lst [.str s, .bl bb], rfl, .inl (g1.back hp), g1.rp.free hp, upd_same, .cons (.str s) (.cons (.bl bb) .nil), no_own g1.rp hp⟩
      · have o2 : Out (if e.same ex = true then (if i < ρ'.length then .ok (.rt (.l [.str s, .bool bb])) (ρ'.set i none) else .stuck) else .err e ρ' : Res Fl) (SK X.kx c D ρ σ H F) (SE X.kx c ρ σ H F) := o'
        rw [if_neg (by rw [e1]; exact Bool.false_ne_true)] at o2
        exact ⟨false, e2, fun z => Bool.noConfusion z, fun _ => o2 cv dd σ' H' F' g er⟩
end
/-- what isinstance asks of an exception's class -/
def excB (K : PySem.W.Frag) (x : Str) : Bool := decide (PySem.W.findIn K (.ref (He.ga K x)) "__getattribute__" = some (some (.builtin "BaseException.__getattribute__"))) && (decide (PySem.W.findIn K (.ref (He.ga K x)) "__getattr__" = some none) && (decide (PySem.W.subIn K (.ref (He.ga K x)) (.type "BaseException") = some true) &&
  (PySem.W.hasDictIn K (He.ga K x) && (decide (PySem.W.findIn K (.ref (He.ga K x)) "__class__" = some (some (.builtin "object.__class__"))) && (decide (PySem.W.specialIn K (.builtin "object.__class__") "__get__" = some (some (.builtin "getset_descriptor.__get__"))) &&
  (decide (PySem.W.takesIn K (.builtin "object.__class__") = some true) && (decide (PySem.W.mroIn K (He.ga K x) (.type "object") = some true) && decide (PySem.W.kitOne K (.ref (He.ga K x)) (.type "ValueError") = some true))))))))
theorem excB_ok {K : PySem.W.Frag} {x : Str} (h : excB K x = true) : ExcC K (He.ga K x) ∧ PySem.W.kitOne K (.ref (He.ga K x)) (.type "ValueError") = some true := by
  unfold excB at h
  obtain ⟨h1, h⟩ := He.ba h
  obtain ⟨h2, h⟩ := He.ba h
  obtain ⟨h3, h⟩ := He.ba h
  obtain ⟨h4, h⟩ := He.ba h
  obtain ⟨h5, h⟩ := He.ba h
  obtain ⟨h6, h⟩ := He.ba h
  obtain ⟨h7, h⟩ := He.ba h
  obtain ⟨h8, h9⟩ := He.ba h
  exact ⟨⟨of_decide_eq_true h1, of_decide_eq_true h2, of_decide_eq_true h3, h4, of_decide_eq_true h5, of_decide_eq_true h6, of_decide_eq_true h7, of_decide_eq_true h8⟩, of_decide_eq_true h9⟩
end DL

set_option Elab.async false
set_option linter.all false
set_option maxRecDepth 100000
set_option maxHeartbeats 2000000
namespace DL
open PySem PySem.Spec PyProof.Rows L2
/-! ### constants of the module: data of the written part -/
mutual
def datB (K : PySem.W.Frag) : Nat → Value → PyData → Bool
  | _, .none, .none => true
  | _, .bool b, .bool c => b == c
  | _, .int i _, .int j => decide (i = j)
  | _, .str x _, .str y => decide (x = y)
  | n + 1, .ref a, .tuple ds => (match K.lookup a with
    | some ⟨.type c, _, .seq its _, _⟩ => decide (c = "tuple") && (decide (its.size ≤ sizeLine) && datsB K n its.toList ds)
    | _ => false)
  | _, _, _ => false
def datsB (K : PySem.W.Frag) : Nat → List Value → List PyData → Bool
  | _, [], [] => true
  | n, u :: us, d :: ds => datB K n u d && datsB K n us ds
  | _, _, _ => false
end
def DatOk (K : Kx) (n : Nat) : Prop := ∀ (u : Value) (d : PyData), datB K.fr n u d = true → ∃ v, RelV v u ∧ ∀ F, Dp K F v d
theorem datsB_ok {K : Kx} {n : Nat} (hn : DatOk K n) : ∀ (us : List Value) (ds : List PyData), datsB K.fr n us ds = true → ∃ vs, Vals vs us ∧ ∀ F, DpAll K F vs ds
  | [], [], h => ⟨[], .nil, fun F => .nil⟩
  | u :: us, d :: ds, h => by
      have h' : (datB K.fr n u d && datsB K.fr n us ds) = true := by unfold datsB at h; exact h
      rw [Bool.and_eq_true] at h'
      obtain ⟨v, a1, a2⟩ := hn u d h'.1
      obtain ⟨vs, b1, b2⟩ := datsB_ok hn us ds h'.2
      exact ⟨v :: vs, .cons a1 b1, fun F => .cons (a2 F) (b2 F)⟩
  | [], _ :: _, h => by unfold datsB at h; cases h
  | _ :: _, [], h => by unfold datsB at h; cases h
theorem datB_flat {K : Kx} {n : Nat} {u : Value} {d : PyData} (h : datB K.fr n u d = true) (hr : ∀ a ds, u = .ref a → d = .tuple ds → False) : ∃ v, RelV v u ∧ ∀ F, Dp K F v d := by
  cases u <;> cases d <;> first
    | exact ⟨.non, rfl, fun F => .non⟩
    | (rename_i i t j
       have e : i = j := by cases n <;> exact of_decide_eq_true h
       subst e
       first
         | exact ⟨.int i, ⟨t, rfl⟩, fun F => .int i⟩
         | exact ⟨.str i, ⟨t, rfl⟩, fun F => .str i⟩)
    | (rename_i b c
       have e : b = c := by cases b <;> cases c <;> first | rfl | (cases n <;> cases h)
       subst e
       exact ⟨.bl b, rfl, fun F => .bl b⟩)
    | (exfalso; cases n <;> cases h; done)
    | exact (hr _ _ rfl rfl).elim
theorem datB_ok {K : Kx} : ∀ n, DatOk K n
  | 0 => fun u d h => datB_flat h fun a ds e1 e2 => by subst e1 e2; cases h
  | n + 1 => fun u d h => by
    by_cases hr : ∃ a ds, u = .ref a ∧ d = .tuple ds
    · obtain ⟨a, ds, rfl, rfl⟩ := hr
      have h' : (match K.fr.lookup a with
        | some ⟨.type c, _, .seq its _, _⟩ => decide (c = "tuple") && (decide (its.size ≤ sizeLine) && datsB K.fr n its.toList ds)
        | _ => false) = true := by unfold datB at h; exact h
      cases q : K.fr.lookup a with
      | none => rw [q] at h'; cases h'
      | some o =>
        obtain ⟨oc, od, dt, osl⟩ := o
        rw [q] at h'
        cases oc with
        | type c =>
          cases dt with
          | seq its m =>
            have h2 : (decide (c = "tuple") && (decide (its.size ≤ sizeLine) && datsB K.fr n its.toList ds)) = true := h'
            rw [Bool.and_eq_true, Bool.and_eq_true, decide_eq_true_eq, decide_eq_true_eq] at h2
            obtain ⟨vs, h4, h5⟩ := datsB_ok (datB_ok n) _ _ h2.2.2
            exact ⟨.ref a, rfl, fun F => .tup (.inr ⟨_, its, m, q, congrArg Value.type h2.1, rfl, h2.2.1, h4⟩) (h5 F)⟩
          | _ => cases h'
        | _ => cases dt <;> cases h'
    · exact datB_flat h fun a ds e1 e2 => hr ⟨a, ds, e1, e2⟩
/-- the module's name x holds the data d -/
def DatK (K : Kx) (x : Str) (d : PyData) : Prop := ∃ u v, K.mg x = some u ∧ RelV v u ∧ ∀ F, Dp K F v d
def conB (K : PySem.W.Frag) (x : Str) (d : PyData) : Bool := match PySem.W.nsIn K mainGlobals x with
  | some (some u) => datB K 4 u d
  | _ => false
theorem conB_ok {K : Kx} {h : Heap} {x : Str} {d : PyData} (X : K.fr.In h) (N : h.Ns mainGlobals K.mg) (c : conB K.fr x d = true) : DatK K x d := by
  unfold conB at c
  cases e : PySem.W.nsIn K.fr mainGlobals x with
  | none => rw [e] at c; cases c
  | some o =>
    cases o with
    | none => rw [e] at c; cases c
    | some u =>
      rw [e] at c
      obtain ⟨v, h1, h2⟩ := datB_ok 4 _ _ c
      exact ⟨u, v, PySem.W.mg_of X N e, h1, h2⟩
section
variable {X : Cx} {c : Ct} {x : Str} {p : Pos} {d : PyData}
theorem de_gdat (hg : Gl X x) (hm : DatK X.kx x d) (hd : (x == ("__debug__" : Str)) = false := by decide) : DE X c (.Name x p) (M.pure d) := by
  obtain ⟨u, v, h1, h2, h3⟩ := hm
  exact de_globP (pe_glob (v := v) hg h1 h2 hd) h3
end
end DL

set_option Elab.async false
set_option linter.all false
set_option maxRecDepth 100000
set_option maxHeartbeats 2000000
namespace DL
open PySem PySem.Spec PyProof.Rows L2
/-! ### t[::-1] -/
section
variable {prog : Program} {w : World} {A : Around} {E : Value → Shared → Prop} {s : Shared}
theorem fm_some {α β : Type} {f : α → Option β} {g : α → β} : ∀ {l : List α}, (∀ x ∈ l, f x = some (g x)) → l.filterMap f = l.map g
  | [], _ => rfl
  | x :: r, h => by
    rw [List.filterMap_cons, h x List.mem_cons_self, List.map_cons, fm_some fun y hy => h y (List.mem_cons_of_mem _ hy)]
theorem rev_pick (xs : Array Value) : ((List.range xs.size).filterMap fun (k : Nat) => xs[((xs.size : Int) - 1 + (k : Int) * -1).toNat]?) = xs.toList.reverse := by
  have e : ∀ k, k < xs.size → xs[((xs.size : Int) - 1 + (k : Int) * -1).toNat]? = some (xs.toList.reverse.getD k .none) := fun k hk => by
    have e1 : ((xs.size : Int) - 1 + (k : Int) * -1).toNat = xs.size - 1 - k := by omega
    rw [e1]
    have hk2 : xs.size - 1 - k < xs.size := by omega
    rw [Array.getElem?_eq_getElem hk2, List.getD_eq_getElem?_getD, List.getElem?_reverse (by simpa using hk)]
    simp [hk2]
  have e2 : (List.range xs.size).filterMap (fun (k : Nat) => xs[((xs.size : Int) - 1 + (k : Int) * -1).toNat]?) = (List.range xs.size).map fun k => xs.toList.reverse.getD k .none := by
    exact fm_some fun k hk => e k (List.mem_range.mp hk)
  rw [e2]
  apply List.ext_getElem
  · simp
  · intro i h1 h2
    simp at h1 h2
    simp [h1]
theorem sliceApplied_rev {sl : Addr} {vs : Value} {n : Nat} {Q : Int × Int × Nat → Shared → Prop} (hs : s.heap.IsSliceOf sl .none .none vs) (ps : IsPart vs (some (-1)))
    (h : Q ((n : Int) - 1, -1, n) s) : wpAny (model prog w) A (Builtin.Slice.sliceApplied (.ref sl) (pure (n : Int))) Q E s := by
  obtain ⟨os, hos, hcs, hds⟩ := id hs
  unfold Builtin.Slice.sliceApplied Builtin.Slice.sliceFields
  refine wpAny_bind (wpAny_bind (wpAny_field hos hds (x := .none) rfl (wpAny_bind (wpAny_field hos hds (x := .none) rfl (wpAny_bind (wpAny_field hos hds (x := vs) rfl (wpAny_pure ?_)))))))
  refine wpAny_bind (HT.slicePart_ ps ?_)
  show wpAny _ _ (if ((-1 : Int) == 0) = true then _ else _) _ _ s
  rw [if_neg (by decide)]
  refine wpAny_bind (HT.slicePart_ .none (wpAny_bind (HT.slicePart_ .none (wpAny_bind (wpAny_pure ?_)))))
  show wpAny _ _ (match Builtin.Slice.sliceAdjust none none (-1) (n : Int) with | (lo, hi) => pure (lo, (-1 : Int), Builtin.Slice.slicePlaces lo hi (-1))) _ _ s
  have ea : Builtin.Slice.sliceAdjust none none (-1) (n : Int) = ((n : Int) - 1, -1) := rfl
  have ep : Builtin.Slice.slicePlaces ((n : Int) - 1) (-1) (-1) = n := by
    unfold Builtin.Slice.slicePlaces
    rw [if_neg (by decide)]
    by_cases hn : n = 0
    · subst hn; rfl
    · rw [if_pos (by omega)]
      have : ((n : Int) - 1 - -1 - 1) / - -1 + 1 = n := by
        have e : (- -1 : Int) = 1 := by decide
        rw [e, Int.ediv_one]; omega
      rw [this]; omega
  rw [ea]
  show wpAny _ _ (pure ((n : Int) - 1, (-1 : Int), Builtin.Slice.slicePlaces ((n : Int) - 1) (-1) (-1))) _ _ s
  rw [ep]
  exact wpAny_pure h
theorem getItem_tuple_rev {t sl : Addr} {items : Array Value} {vs : Value} {Q : Value → Shared → Prop} (ht : IsTup s.heap t items) (hs : s.heap.IsSliceOf sl .none .none vs) (ps : IsPart vs (some (-1)))
    (h : Q (.ref s.heap.objs.size) { s with heap := s.heap.push { cls := .type "tuple", data := .seq items.toList.reverse.toArray } })
    (hsz : items.size ≤ sizeLine) : wpAny (model prog w) A (getItem (.ref t) (.ref sl)) Q E s := by
  have htake : sizeOk (.seq items.toList.reverse.toArray) := by
    show items.toList.reverse.toArray.size ≤ sizeLine
    rw [List.size_toArray, List.length_reverse, Array.length_toList]
    exact hsz
  obtain ⟨os, hos, hcs, hds⟩ := id hs
  have hTs : s.TypeIs (.ref sl) "slice" := ⟨os, hos, hcs⟩
  unfold getItem
  try with_reducible refine wpAny_holding ?_
  first | refine wpAny_bind (wpAny_pure ?_) | skip
  refine wpAny_bind (wpAny_sequenceKey ht.typeIs (by decide) ?_)
  refine wpAny_bind (wpAny_callSpecial?_slot (name := Str.ofString "__getitem__") ht.typeIs PyProof.Rows.slot_tuple_getitem
    (wpAny_call_entry PyProof.Rows.slot_tuple_getitem ht.typeIs entry_tuple_getitem ?_ (args_tuple_getitem _ _)))
  show wpAny _ _ (Builtin.Tuple.tupleItemsOf (.ref t) >>= _) _ _ s
  refine wpAny_bind (tupleItemsOf_ ht ?_)
  refine wpAny_bind (wpAny_typeOf hTs ?_)
  rw [if_pos (by decide)]
  refine wpAny_bind (sliceApplied_rev hs ps ?_)
  have hno : ¬ ((((items.size : Int) - 1 == 0) && ((-1 : Int) == 1) && items.size == items.size) = true) := by
    rw [show ((-1 : Int) == 1) = false from rfl, Bool.and_false, Bool.false_and]
    exact Bool.false_ne_true
  show wpAny _ _ (if (((items.size : Int) - 1 == 0) && ((-1 : Int) == 1) && items.size == items.size) = true then _ else _) _ _ s
  rw [if_neg hno, rev_pick]
  first
    | exact wpAny_bind (m := Builtin.Tuple.tupleExact _) (wpAny_newObj_type (wpAny_pure ⟨_, rfl, wpAny_pure h⟩) htake)
    | exact wpAny_bind (m := Builtin.Tuple.tupleExact _) (wpAny_newObj_type (wpAny_bind (wpAny_pure (wpAny_pure ⟨_, rfl, wpAny_pure h⟩))) htake)
    | exact wpAny_bind (wpAny_bind (m := Builtin.Tuple.tupleExact _) (wpAny_newObj_type (wpAny_pure (wpAny_pure ⟨_, rfl, wpAny_pure h⟩)) htake))
    | exact wpAny_bind (wpAny_bind (m := Builtin.Tuple.tupleExact _) (wpAny_newObj_type (wpAny_pure ⟨_, rfl, wpAny_pure h⟩) htake))
end
section
variable {X : Cx} {c : Ct} {e a b : Expr} {pos p2 : Pos} {m m1 m2 : M PyData} {n1 n2 : M C}
def tRevA (K : PySem.W.Frag) (te : TE) : TE := fun σ H Q => te σ H fun x H1 => ∃ a xs, x = .ref a ∧ (SqL K H1 a xs ∧ (∀ p, H1 p = none → Q (.ref p) (L2.upd H1 p (.lst xs.reverse))) ∨ SqT K H1 a xs ∧ ∀ p, H1 p = none → Q (.ref p) (L2.upd H1 p (.tup xs.reverse)))
theorem pe_revA {e : Expr} {te : TE} {k : Nat} {p1 p2 p3 pos : Pos} (he : PE X e te) : PE X (.Subscript e (.Slice none none (some (.UnaryOp .USub (.Constant (.int 1) k p1) p2)) p3) pos) (tRevA X.K te) := by
  refine ⟨fun pins s σ H Q I h => ?_⟩
  refine Subscript_ (thn (he.run pins s σ H _ I h) fun v s1 ⟨x, H1, I1, r1, q1⟩ => ?_)
  obtain ⟨a, xs, ex, hx⟩ := q1
  subst ex
  cases r1
  have hst : PO X (some (.UnaryOp .USub (.Constant (.int 1) k p1) p2)) (tPart (tUn (rU fun i => .int (-i)) (tC (.int 1)))) := po_some (pe_un un_neg pe_int)
  refine wpAny_Slice (thn (po_none.run pins s1 σ H1 (fun o H2 => o = none ∧ H2 = H1) I1 ⟨rfl, rfl⟩) fun vl s2 ⟨l, H2, I2, pl, el, e2⟩ => ?_)
  subst el e2
  refine thn (po_none.run pins s2 σ H2 (fun o H3 => o = none ∧ H3 = H2) I2 ⟨rfl, rfl⟩) fun vu s3 ⟨u, H3, I3, pu, eu, e3⟩ => ?_
  subst eu e3
  refine thn (hst.run pins s3 σ H3 (fun o H4 => o = some (-1) ∧ H4 = H3) I3 ⟨1, rfl, -1, rfl, rfl, rfl⟩) fun vs s4 ⟨o, H4, I4, ps, eo, e4⟩ => ?_
  subst eo e4
  have I5 : Inv X pins σ H4 { s4 with heap := s4.heap.push { cls := .type "slice", data := .fields #[vl, vu, vs] } } := I4.kept (t' := s4.toks) fun b ob q => Heap.get?_push_of_some _ q
  show wpAny (model X.prog X.w) X.A (subscriptTail e (.Slice none none (some (.UnaryOp .USub (.Constant (.int 1) k p1) p2)) p3) (.ref a) (.ref s4.heap.objs.size)) (EP X pins σ Q) X.xe { s4 with heap := s4.heap.push { cls := .type "slice", data := .fields #[vl, vu, vs] } }
  rcases hx with ⟨hx, q⟩ | ⟨hx, q⟩
  · obtain ⟨its, r, ht, hz⟩ := I5.list hx
    have hlen := r.length
    refine tail_any (ops := [.ref a, .ref s4.heap.objs.size]) ht.isList.typeIs (PySem.slot_list_getitem.lookup) ?_ (by with_unfolding_all rfl)
    refine wpAny_getItem_list_slice ht.isList (Heap.IsSliceOf.new _ vl vu vs) pl pu ps (by decide) ?_ (by rw [List.size_toArray]; omega)
    rw [PySem.W.krv_pick]
    refine ⟨.ref _, _, I5.laid (t' := s4.toks) (o := .lst xs.reverse) (fun b ob q => Heap.get?_push_of_some _ q) (Nat.le_refl _) ?_, rfl, q _ (I5.hok.fresh (Nat.le_refl _))⟩
    exact ⟨by rw [List.length_reverse]; exact hz, _, 0, r.reverse, Heap.get?_push_size _ rfl⟩
  · obtain ⟨its, r, ht, hz⟩ := I5.tuple hx
    have hlen := r.length
    cases pl
    cases pu
    refine tail_any (ops := [.ref a, .ref s4.heap.objs.size]) ht.typeIs (PyProof.Rows.slot_tuple_getitem.lookup) ?_ (by with_unfolding_all rfl)
    refine getItem_tuple_rev ht (Heap.IsSliceOf.new _ .none .none vs) ps ?_ (by rw [List.size_toArray]; omega)
    refine ⟨.ref _, _, I5.laid (t' := s4.toks) (o := .tup xs.reverse) (fun b ob q => Heap.get?_push_of_some _ q) (Nat.le_refl _) ?_, rfl, q _ (I5.hok.fresh (Nat.le_refl _))⟩
    exact ⟨by rw [List.length_reverse]; exact hz, _, r.reverse, IsTup.new _ _⟩
theorem do_rev {k : Nat} {p1 p2 p3 : Pos} (he : DE X c e m) : DO X c (.Subscript e (.Slice none none (some (.UnaryOp .USub (.Constant (.int 1) k p1) p2)) p3) pos) (mRev m) :=
  pe_imp (pe_revA he) fun σ H Q ⟨F, ρ, r, o⟩ => ⟨F, ρ, r, Out.mono (Out.bind o) (fun d ρ1 q v H1 F1 g1 d1 => by
    obtain ⟨w, e, q⟩ := Out.of q
    cases d with
    | list xs =>
      cases e
      cases d1 with
      | lst hs ha => exact ⟨_, _, rfl, .inl ⟨rd_seq g1.rp.sub hs, fun t ht => q _ _ F1 (g1.trans (Go.temp g1.rp ht _)) ⟨t, _, rfl, .inl (g1.back ht), g1.rp.free ht, upd_same, dpa_rev ha, no_own g1.rp ht⟩⟩⟩
    | tuple xs =>
      cases e
      cases d1 with
      | tup hs ha => exact ⟨_, _, rfl, .inr ⟨sqT_mono g1.rp.sub hs, fun t ht => q _ _ _ (g1.trans (Go.data g1.rp ht _)) (.tup (.inl (.inl upd_same)) (dpAll_mono (same_upd (g1.rp.free ht)) (dpa_rev ha)))⟩⟩
    | _ => cases e) fun e ρ1 q => q⟩
/-! ### xs * k -/
theorem dpa_rep {K : Kx} {F : Hp} {vs : List V} {ds : List PyData} (h : DpAll K F vs ds) : ∀ n : Nat, DpAll K F (List.replicate n vs).flatten (List.replicate n ds).flatten
  | 0 => .nil
  | n + 1 => by
    rw [List.replicate_succ, List.replicate_succ, List.flatten_cons, List.flatten_cons]
    exact dpa_app h (dpa_rep h n)
theorem do_rep (ha : DO X c a n1) (hb : DE X c b m) : DO X c (.BinOp a .Mult b pos) (mRep n1 m) :=
  pe_imp (pe_op (OpR.or op_rep op_repT) ha hb) fun σ H Q ⟨F, ρ, r, h⟩ => ⟨F, ρ, r, Out.mono (Out.bind h) (fun k ρ1 h1 v H1 F1 g1 d1 => ⟨F1, ρ1, g1.rp, Out.mono (Out.bind h1) (fun y ρ2 h2 u H2 F2 g2 d2 => by
    obtain ⟨w, e, q⟩ := Out.of h2
    have d1' := rc_go g2 d1
    have g12 := g1.trans g2
    cases y with
    | int j =>
      cases d2
      cases k with
      | l xs =>
        have e' : (if repOk xs.length j = true then some (C.l (List.replicate j.toNat xs).flatten) else none) = some w := e
        by_cases hz : repOk xs.length j = true
        · rw [if_pos hz] at e'
          cases e'
          unfold repOk at hz
          simp only [Bool.and_eq_true, decide_eq_true_eq] at hz
          obtain ⟨p, vs, rfl, k2, k3⟩ := toL_rd g2.rp.sub d1' (show toL (.l xs) = some xs from rfl)
          obtain ⟨p', o, hp, _, _, h3, h4, _⟩ := d1'
          cases hp
          obtain ⟨vs', rfl, h5⟩ := isO_l h4
          exact .inl ⟨p, j, vs', rfl, rfl, h3, by omega, by omega, by rw [dpa_len h5]; exact hz.2, fun t ht => q _ _ F2 (g12.trans (Go.temp g2.rp ht _)) ⟨t, _, rfl, .inl (g12.back ht), g2.rp.free ht, upd_same, dpa_rep h5 _, no_own g2.rp ht⟩⟩
        · rw [if_neg hz] at e'; cases e'
      | d x =>
        cases x with
        | tuple xs =>
          have e' : (if repOkT xs.length j = true then some (C.d (.tuple (List.replicate j.toNat xs).flatten)) else none) = some w := e
          by_cases hz : repOkT xs.length j = true
          · rw [if_pos hz] at e'
            cases e'
            unfold repOkT at hz
            simp only [Bool.and_eq_true, decide_eq_true_eq] at hz
            cases d1' with
            | tup hs ha =>
              refine .inr ⟨_, j, _, rfl, rfl, sqT_mono g2.rp.sub hs, fun en => ?_, hz.1.2, hz.2, by rw [dpa_len ha]; exact hz.1.1.2, fun t ht => q _ _ _ (g12.trans (Go.data g2.rp ht _)) (.tup (.inl (.inl upd_same)) (dpAll_mono (same_upd (g2.rp.free ht)) (dpa_rep ha _)))⟩
              have := dpa_len ha
              rw [en, List.length_nil] at this
              omega
          · rw [if_neg hz] at e'; cases e'
        | _ => cases e
      | _ => cases e
    | _ => cases k <;> first | cases e | (rename_i z; cases z <;> cases e)) fun e ρ2 q cv dd H2 F2 g2 er => q cv dd H2 F2 (g1.trans g2) er⟩) fun e ρ1 q => q⟩
end
section
variable {X : Cx} {c : Ct} {x n y T : Str} {C : Addr} {i j : Nat} {body : List Stmt} {mb : M Fl} {ex : Exc} {bb : Bool} {Tn : String} {np p2 p3 p4 p5 p6 p7 p8 pos pos' : Pos}
open Classical in
theorem ds_try_set (hs : X.stack = X.env :: X.outer) (hf : X.env.frame = some X.env.locals) (hN : X.N.Nodup) (hi : X.N[i]? = some n) (hln : X.env.scope.names.lookup n = some .local) (hj : X.N[j]? = some y) (hly : X.env.scope.names.lookup y = some .local) (hP : c.P.all i = false) (hPj : c.P.all j = false) (hx : ExF X.kx x C) (hgx : Gl X x) (tk : Takes X c.W)
    (hb : ∀ (W : WX) (pn : List (Addr × Obj)) (xe : Value → Shared → Prop), Takes (X.tr pn xe) W → DSs (X.tr pn xe) ⟨c.P, c.ER, W⟩ body mb)
    (hE : ∀ e cv dd H, c.ER e cv dd H → (e.same ex = true ∧ cv = .ref C ∧ dd = none) ∨ (e.same ex = false ∧ PySem.W.exmOne X.K cv (.ref C) = some false))
    (hm : PySem.W.exmOne X.K (.ref C) (.ref C) = some true) (hk : ExcC X.K C) (kk : PySem.W.kitOne X.K (.ref C) (.type Tn) = some bb)
    (gi : Gl X "isinstance") (mi : X.mg "isinstance" = none) (gT : Gl X T) (mT : X.mg T = none) (vT : bootBuiltins T = some (.type Tn)) (nT : T ≠ "__name__" := by decide) (dT : (T == ("__debug__" : Str)) = false := by decide)
    (hdx : (x == ("__debug__" : Str)) = false := by decide) (hdn : (n == ("__debug__" : Str)) = false := by decide) (hcn : (n == ("__classdict__" : Str)) = false := by decide)
    (vi : bootBuiltins "isinstance" = some (.builtin "isinstance") := by decide +kernel)
    (h3 : ∀ a pn, starEach [.Name n p4, .Name T p5] (X.suite a pn).env = (false, eval (.Name n p4) (X.suite a pn).env) :: starEach [.Name T p5] (X.suite a pn).env := by intros; rfl)
    (h4 : ∀ a pn, starEach [.Name T p5] (X.suite a pn).env = (false, eval (.Name T p5) (X.suite a pn).env) :: starEach [] (X.suite a pn).env := by intros; rfl)
    (h5 : ∀ a pn, (backTo p6 (starEach [.Name T p5] (X.suite a pn).env)).any (·.1) = false := by intros; rfl)
    (h6 : ∀ a pn, swapsWith (.Call (.Name "isinstance" p3) [.Name n p4, .Name T p5] [] p6) (some (.Name y p2)) p7.line (X.suite a pn).env = pure false := by intros; rfl) :
    DS X c (.Try body [.ExceptHandler (some (.Name x np)) (some n) [.Assign [.Name y p2] (.Call (.Name "isinstance" p3) [.Name n p4, .Name T p5] [] p6) p7] p8] [] [] pos) (sTrySet mb ex i j bb) := by
  let tsuite : Addr → TS := fun a => tAsg (tCB (rIsE X.K C a) (tCons (L2.tVar i) (tCons (tC (.ty Tn)) tNil))) (gName j)
  let ts : Addr → Value → Option Addr → TS := fun a cls d => if cls = .ref C ∧ d = none then tsuite a else tNever
  refine ps_imp (ps_try_as (i := i) (ts := ts) (Wout := c.W) (tb := fun W => tS X.kx ⟨c.P, c.ER, W⟩ mb) hs hf hN hi hln ⟨hgx, hdx, .inl hx.gl⟩ tk (fun W pn xe tkW _ => hb W pn xe tkW) (fun a oe cls d pn hz hfl => ?_)) fun D σ H ⟨F, ρ, r, o⟩ => ?_
  · by_cases hc : cls = .ref C ∧ d = none
    · obtain ⟨rfl, rfl⟩ := hc
      show PSs _ _ (if Value.ref C = .ref C ∧ (none : Option Addr) = none then tsuite a else tNever)
      rw [if_pos ⟨rfl, rfl⟩]
      exact pss_one (ps_set hN hj (.inl hly) (pe_callB (call_isE hk hz hfl) gi mi vi (pa_cons (pe_var hi (.inl hln) hdn hcn) (pa_cons (pe_bltn (v := .ty Tn) gT mT vT rfl nT dT) pa_nil (h4 _ _)) (h3 _ _)) (by decide) (by decide) (h3 _ _) (h5 _ _)) (h6 _ _) (.inr hly))
    · show PSs _ _ (if cls = .ref C ∧ d = none then tsuite a else tNever)
      rw [if_neg hc]
      exact pss_never
  · have o' : Out (match mb ρ with
      | .ok fl ρ' => .ok fl ρ'
      | .err e ρ' => if e.same ex = true then (if i < ρ'.length ∧ j < ρ'.length then .ok .nx (((ρ'.set i none).set j (some (.d (.bool bb)))).set i none) else .stuck) else .err e ρ'
      | .stuck => .stuck : Res Fl) (SK X.kx c D ρ σ H F) (SE X.kx c ρ σ H F) := o
    refine ⟨F, ρ, r, ?_⟩
    cases z : mb ρ with
    | ok fl ρ' => rw [z] at o'; exact o'
    | stuck => rw [z] at o'; exact o'
    | err e ρ' =>
      rw [z] at o'
      intro cv dd σ' H' F' g er
      rcases hE e cv dd H' er with ⟨e1, rfl, rfl⟩ | ⟨e1, e2⟩
      · have o2 : Out (if e.same ex = true then (if i < ρ'.length ∧ j < ρ'.length then .ok .nx (((ρ'.set i none).set j (some (.d (.bool bb)))).set i none) else .stuck) else .err e ρ' : Res Fl) (SK X.kx c D ρ σ H F) (SE X.kx c ρ σ H F) := o'
        rw [if_pos e1] at o2
        have hlt0 : i < ρ'.length ∧ j < ρ'.length := Decidable.byContradiction fun hn => by
          rw [if_neg hn] at o2
          exact o2
        rw [if_pos hlt0] at o2
        refine ⟨true, hm, fun _ a ha => ?_, fun z => Bool.noConfusion z⟩
        show (if Value.ref C = .ref C ∧ (none : Option Addr) = none then tsuite a else tNever) _ _ _
        rw [if_pos ⟨rfl, rfl⟩]
        have hlt : i < σ'.length := by rw [← g.rp.len]; exact hlt0.1
        refine ⟨.ref a, by rw [List.getElem?_set_self hlt], .ty Tn, .type Tn, bb, rfl, fun u hu => hu, kk, ?_⟩
        have g1 := g.forget hP (some (.ref a))
        have g2 := g1.put (c := .d (.bool bb)) (v := .bl bb) (.bl bb) hPj
        have g3 := g2.forget hP none
        exact o2 _ _ _ g3
      · have o2 : Out (if e.same ex = true then (if i < ρ'.length ∧ j < ρ'.length then .ok .nx (((ρ'.set i none).set j (some (.d (.bool bb)))).set i none) else .stuck) else .err e ρ' : Res Fl) (SK X.kx c D ρ σ H F) (SE X.kx c ρ σ H F) := o'
        rw [if_neg (by rw [e1]; exact Bool.false_ne_true)] at o2
        exact ⟨false, e2, fun z => Bool.noConfusion z, fun _ => o2 cv dd σ' H' F' g er⟩
end
end DL
namespace DL
open PySem PySem.Spec PyProof.Rows L2
section
variable {X : Cx} {c : Ct} {a b : Expr} {pos : Pos} {m : M PyData} {i : Nat}
theorem vlAt_dp {K : Kx} {F : Hp} {ρ : Sl} {σ : St} {H : Hp} {xs : List PyData} (r : Rp K F ρ σ H) (h : vlAt i ρ = some xs) : ∃ p, σ[i]? = some (some (.ref p)) ∧ L2.Dp K.fr H (.ref p) (.list xs) := by
  unfold vlAt at h
  cases z : ρ[i]? with
  | none => rw [z] at h; cases h
  | some o =>
    cases o with
    | none => rw [z] at h; cases h
    | some k =>
      cases k with
      | l ys =>
        rw [z] at h
        cases h
        obtain ⟨p, o, h1, h2, h3, h4⟩ := r.own i _ z rfl
        obtain ⟨vs, rfl, h5⟩ := isO_l h4
        exact ⟨p, h1, .lst (.inl (.inl h3)) (dpAll_to (dpAll_mono r.sub h5))⟩
      | d x =>
        rw [z] at h
        cases x with
        | list ys =>
          cases h
          obtain ⟨v, h1, h2⟩ := r.dat i _ z
          cases h2 with
          | lst hs ha => exact ⟨_, h1, dp_to (dp_mono r.sub (.lst hs ha))⟩
        | _ => cases h
      | _ => rw [z] at h; cases h
theorem dt_cmV {op : CmpOp} {r : R2} {f : PyData → PyData → Option Bool} (ho : OpR X (compareOp op) r)
    (hf : ∀ {ρ : Sl} {σ : St} {H F : Hp} {v u : V} {x y : PyData} {k : Bool} {Q : VK}, Rp X.kx F ρ σ H → L2.Dp X.K H v x → Dp X.kx F u y → f x y = some k → Q (.bl k) H → r v u H Q)
    (ha : PE X a (L2.tVar i)) (hb : DE X c b m) (hm : behindInMarks op b = false) : DT X c (.Compare a [op] [b] pos) (tCmpV f i m) :=
  pt_imp (pt_cmpR ho ha hb hm) fun σ H Q ⟨F, ρ, r, h⟩ => by
    have h' : Out (if (vlAt i ρ).isSome = true then (M.bind m fun y => fun ρ' => match vlAt i ρ' with
      | some xs => M.of (f (.list xs) y) ρ'
      | none => .stuck) ρ else .stuck) (fun a ρ' => ∀ v H' F', Go X.kx c.P ρ σ H F ρ' σ H' F' → RB (Fr ρ σ H) ρ' σ H' F' a v → Q v H') (fun e ρ' => ∀ cv dd H' F', Go X.kx c.P ρ σ H F ρ' σ H' F' → c.ER e cv dd H' → c.W cv dd σ H') := h
    cases hl : vlAt i ρ with
    | none => rw [hl] at h'; exact h'.elim
    | some xs =>
      rw [hl] at h'
      rw [if_pos (show (some xs).isSome = true from rfl)] at h'
      obtain ⟨p, h1, _⟩ := vlAt_dp r hl
      refine ⟨.ref p, h1, F, ρ, r, Out.mono (Out.bind h') (fun y ρ1 q u H1 F1 g1 d1 => ?_) fun e ρ1 q => q⟩
      cases hl1 : vlAt i ρ1 with
      | none => rw [hl1] at q; exact q.elim
      | some xs1 =>
        rw [hl1] at q
        obtain ⟨w, e1, q2⟩ := Out.of (show Out (M.of (f (.list xs1) y) ρ1) _ _ from q)
        obtain ⟨p1, k1, k2⟩ := vlAt_dp g1.rp hl1
        rw [h1] at k1; cases k1
        exact hf g1.rp k2 d1 e1 ⟨w, rfl, q2 _ H1 F1 g1 rfl⟩
theorem dt_eqV (hu : X.A.units + 64 < cLine) (ha : PE X a (L2.tVar i)) (hb : DE X c b m) (hm : behindInMarks .Eq b = false := by rfl) : DT X c (.Compare a [.Eq] [b] pos) (tCmpV eqS i m) :=
  dt_cmV (op_eqD hu) (fun {ρ σ H F v u x y k Q} r hx hy e q => by
    unfold eqS at e
    by_cases h2 : (SeqAt.shaped x && SeqAt.shaped y) = true
    · rw [if_pos h2] at e
      cases e
      rw [Bool.and_eq_true] at h2
      exact ⟨x, y, hx, dp_to (dp_mono r.sub hy), h2.1, h2.2, q⟩
    · rw [if_neg h2] at e; cases e) ha hb hm
theorem dt_neV (hu : X.A.units + 64 < cLine) (ha : PE X a (L2.tVar i)) (hb : DE X c b m) (hm : behindInMarks .NotEq b = false := by rfl) : DT X c (.Compare a [.NotEq] [b] pos) (tCmpV neS i m) :=
  dt_cmV (op_neD hu) (fun {ρ σ H F v u x y k Q} r hx hy e q => by
    unfold neS at e
    by_cases h2 : (SeqAt.shaped x && SeqAt.shaped y) = true
    · rw [if_pos h2] at e
      cases e
      rw [Bool.and_eq_true] at h2
      exact ⟨x, y, hx, dp_to (dp_mono r.sub hy), h2.1, h2.2, q⟩
    · rw [if_neg h2] at e; cases e) ha hb hm
end
end DL

set_option Elab.async false
set_option linter.all false
set_option maxRecDepth 100000
set_option maxHeartbeats 4000000
namespace DL
open PySem PySem.Spec PyProof.Rows L2
section
variable {P : Program} {w : World} {A : Around} {E : Value → Shared → Prop} {s : Shared}
/-- the set that is filled -/
abbrev eSet (w : World) : Obj := { cls := .type "set", dict := none, data := .set #[] 0 (.fresh 0 0 (!w.params.followText "set-order")) }
abbrev hSet (w : World) (s : Shared) : Heap := s.heap.push (eSet w)
theorem set_of_list {l : Addr} {items : Array Value} (ns : List Int) {Q : Value → Shared → Prop} (hh : A.handled = none) (hl : s.heap.IsList l items) (hit : IntsAre items.toList ns) (hb : ns.length + 1 < scanBound)
    (h : ∀ (h' : Heap) (tk c : Nat), SetR w h' s.heap.objs.size (fun j => decide (j ∈ ns)) c → c ≤ ns.length → (∀ b o, s.heap.get? b = some o → h'.get? b = some o) → Q (.ref s.heap.objs.size) { s with heap := h', toks := tk }) :
    wpAny (model P w) A (call (.type "set") [.ref l]) Q E s := by
  have size_eq : items.size = ns.length := by have q := IntsAre.length hit; rwa [Array.length_toList] at q
  have ⟨mc, mt, hmro⟩ := F.called_set.mro
  have hmade := F.called_set.made
  have hsub := F.called_set.sub
  refine wpAny_call (codeAny_of_tree (wpAny_pure ⟨Code.quiet_builtin _ (by decide +kernel), codeAny_builtin F.entry_type_call ?_⟩))
  rw [Around.under_plain (weight_type_call_type "set" [.ref l] []) rfl]
  have t1 := F.called_set.notType
  have t2 := F.called_set.canCreate
  have t3 := F.typeCall_set_1 (.ref l)
  repeat (any_goals (first | assumption | wp_step))
  refine codeAny_mono (code_set_led1 (.ref l) (E := E) (Q₁ := fun obj s₁ => obj = .ref s.heap.objs.size ∧ s₁ = { s with heap := hSet w s }) ⟨rfl, rfl⟩) fun r s₁ hr => ?_
  match r, hr with
  | .error e, hr => exact hr
  | .ok (.ret obj), hr =>
    obtain ⟨rfl, rfl⟩ := hr
    have made : (hSet w s).get? s.heap.objs.size = some (eSet w) := Heap.get?_push_size _ rfl
    have ty : Shared.TypeIs { s with heap := hSet w s } (.ref s.heap.objs.size) "set" := ⟨_, made, rfl⟩
    have i1 := F.called_set.init.lookup
    have i2 := F.called_set.init.bind (.ref s.heap.objs.size)
    repeat (any_goals (first | assumption | wp_step))
    refine codeAny_mono (codeAny_call_builtin (R := wants (fun r s₂ => r = .none ∧ ∃ h' tk c, s₂ = { s with heap := h', toks := tk } ∧ SetR w h' s.heap.objs.size (fun j => decide (j ∈ ns)) c ∧ c ≤ ns.length ∧ (∀ b o, s.heap.get? b = some o → h'.get? b = some o)) E) F.called_set.init.plain F.entry_set_init (check_set_init_1 ty ?_)) fun r₂ s₂ hr₂ => ?_
    · have old : ∀ b o, s.heap.get? b = some o → (hSet w s).get? b = some o := fun b o e => Heap.get?_push_of_some _ e
      obtain ⟨⟨cl, dc, dt, sl⟩, lo, lc, ln, ld⟩ := id hl
      simp only at lc ld
      subst lc ld
      have lo' := old _ _ lo
      have n1 := F.sub_list_set
      have n2 := F.sub_list_frozenset
      have n3 : (Value.type "list" == Value.type "dict") = false := by decide
      have hl1 : (hSet w s).IsList l items := ⟨_, lo', rfl, ln, rfl⟩
      unfold Builtin.«set.__init__» noKeywords Builtin.Frozenset.updateFrom
      generalize ep : pyIter = PI
      wp_walk
      subst ep
      refine wpAny_pyIter_list hl1 (wpAny_bind (wpAny_runValue ?_))
      have ls : l < s.heap.objs.size := Heap.lt_size lo
      have quiet : A.in1.in1.in1.handled = none := by simp [hh]
      have grown : (hSet w s).objs.size = s.heap.objs.size + 1 := Heap.size_push ..
      have at_ : ∀ (i : Nat) (v : Value), items[i]? = some v → ∃ k t, ns[i]? = some k ∧ v = .int k t := fun i v hv => by
        have hi : i < ns.length := size_eq ▸ (Array.getElem?_eq_some_iff.mp hv).1
        obtain ⟨t, e⟩ := IntsAre.int_at hit i v (by rw [Array.getElem?_toList]; exact hv)
        exact ⟨ns[i], t, List.getElem?_eq_getElem hi, by rw [e, List.getD_eq_getElem?_getD, List.getElem?_eq_getElem hi]; rfl⟩
      refine set_update_ints ((Walks.list quiet _ l (by rw [grown]; exact Nat.ne_of_lt (Nat.lt_succ_of_lt ls)) items).toS) s.heap.objs.size (by rw [grown]; simp only [List.mem_cons, List.not_mem_nil, or_false, not_or]; exact ⟨Nat.ne_of_lt (Nat.lt_succ_self _), Nat.ne_of_gt ls⟩) ns size_eq hb at_ (items.size - 0) 0 _ (by omega) (Nat.zero_le _) ⟨⟨_, Heap.get?_push_size _ rfl, rfl, rfl⟩, hl1.push _⟩ ⟨0, Nat.le_refl 0, setR_new_at (Heap.get?_push_of_some _ made)⟩ ?_
      rintro ⟨h', g2, d', tk', os'⟩ c' hm hc' hS'
      obtain rfl : g2 = s.gens := hm.gens
      obtain rfl : d' = s.drawn := hm.drawn
      obtain rfl : os' = s.os := hm.os
      refine wpAny_pure (wpAny_pure ⟨rfl, h', tk', c', rfl, hS', size_eq ▸ hc', fun b o e => ?_⟩)
      have hb0 : b < s.heap.objs.size := Heap.lt_size e
      exact hm.heap b o (by rw [grown]; simp only [List.mem_cons, List.not_mem_nil, or_false, not_or]; exact ⟨Nat.ne_of_lt hb0, Nat.ne_of_lt (Nat.lt_succ_of_lt hb0)⟩) (Heap.get?_push_of_some _ (old b o e))
    · match r₂, hr₂ with
      | .error e, hr₂ => exact hr₂
      | .ok (.ret r), hr₂ =>
        obtain ⟨rfl, h', tk, c', rfl, a1, a2, a3⟩ := hr₂
        repeat (any_goals (first | assumption | wp_step))
        exact h _ _ _ a1 a2 a3
  | .ok .next, hr => exact hr.elim
end
end DL

set_option Elab.async false
set_option linter.all false
set_option maxRecDepth 100000
set_option maxHeartbeats 2000000
namespace DL
open PySem PySem.Spec PyProof.Rows L2
/-! ### rows told by their order alone -/
theorem insU_mem (x : Int) : ∀ (l : List Int) (z : Int), z ∈ insU x l ↔ z = x ∨ z ∈ l
  | [], z => by simp [insU]
  | y :: r, z => by
    unfold insU
    split
    · simp
    · split
      · rename_i h; subst h; simp
      · rw [List.mem_cons, insU_mem x r z, List.mem_cons]
        constructor
        · rintro (h | h | h) <;> simp [h]
        · rintro (h | h | h) <;> simp [h]
theorem insU_lt (x : Int) : ∀ {l : List Int}, l.Pairwise (· < ·) → (insU x l).Pairwise (· < ·)
  | [], _ => List.pairwise_singleton _ _
  | y :: r, h => by
    have h' := List.pairwise_cons.mp h
    unfold insU
    split
    · rename_i c
      refine List.pairwise_cons.mpr ⟨fun z hz => ?_, h⟩
      rcases List.mem_cons.mp hz with e | e
      · rw [e]; exact c
      · have := h'.1 z e; omega
    · split
      · exact h
      · refine List.pairwise_cons.mpr ⟨fun z hz => ?_, insU_lt x h'.2⟩
        rcases (insU_mem x r z).mp hz with e | e
        · omega
        · exact h'.1 z e
theorem sortU_mem : ∀ (l : List Int) (z : Int), z ∈ sortU l ↔ z ∈ l
  | [], z => by simp [sortU]
  | x :: r, z => by rw [sortU, insU_mem, sortU_mem r z, List.mem_cons]
theorem sortU_lt : ∀ (l : List Int), (sortU l).Pairwise (· < ·)
  | [] => List.Pairwise.nil
  | x :: r => insU_lt x (sortU_lt r)
theorem lt_unique : ∀ {l m : List Int}, l.Pairwise (· < ·) → m.Pairwise (· < ·) → (∀ z, z ∈ l ↔ z ∈ m) → l = m
  | [], [], _, _, _ => rfl
  | [], y :: m, _, _, h => absurd ((h y).mpr List.mem_cons_self) (by simp)
  | x :: l, [], _, _, h => absurd ((h x).mp List.mem_cons_self) (by simp)
  | x :: l, y :: m, hl, hm, h => by
    have hl' := List.pairwise_cons.mp hl
    have hm' := List.pairwise_cons.mp hm
    have e : x = y := by
      rcases List.mem_cons.mp ((h x).mp List.mem_cons_self) with e | e
      · exact e
      · rcases List.mem_cons.mp ((h y).mpr List.mem_cons_self) with e2 | e2
        · exact e2.symm
        · have a := hm'.1 x e
          have b := hl'.1 y e2
          omega
    subst e
    congr 1
    refine lt_unique hl'.2 hm'.2 fun z => ?_
    constructor
    · intro hz
      rcases List.mem_cons.mp ((h z).mp (List.mem_cons_of_mem _ hz)) with e | e
      · subst e; have := hl'.1 z hz; omega
      · exact e
    · intro hz
      rcases List.mem_cons.mp ((h z).mpr (List.mem_cons_of_mem _ hz)) with e | e
      · subst e; have := hm'.1 z hz; omega
      · exact e
theorem insS_perm (x : Int) : ∀ l : List Int, (insS x l).Perm (x :: l)
  | [] => List.Perm.refl _
  | y :: r => by
    unfold insS
    split
    · exact List.Perm.refl _
    · exact ((insS_perm x r).cons y).trans (List.Perm.swap x y r)
theorem insS_le (x : Int) : ∀ {l : List Int}, l.Pairwise (· ≤ ·) → (insS x l).Pairwise (· ≤ ·)
  | [], _ => List.pairwise_singleton _ _
  | y :: r, h => by
    have h' := List.pairwise_cons.mp h
    unfold insS
    split
    · rename_i c
      refine List.pairwise_cons.mpr ⟨fun z hz => ?_, h⟩
      rcases List.mem_cons.mp hz with e | e
      · rw [e]; exact c
      · have := h'.1 z e; omega
    · refine List.pairwise_cons.mpr ⟨fun z hz => ?_, insS_le x h'.2⟩
      rcases List.mem_cons.mp ((insS_perm x r).mem_iff.mp hz) with e | e
      · omega
      · exact h'.1 z e
theorem sortS_perm : ∀ l : List Int, (sortS l).Perm l
  | [] => List.Perm.refl _
  | x :: r => (insS_perm x (sortS r)).trans ((sortS_perm r).cons x)
theorem sortS_le : ∀ l : List Int, (sortS l).Pairwise (· ≤ ·)
  | [] => List.Pairwise.nil
  | x :: r => insS_le x (sortS_le r)
theorem le_unique : ∀ {l m : List Int}, l.Pairwise (· ≤ ·) → m.Pairwise (· ≤ ·) → l.Perm m → l = m
  | [], m, _, _, h => (List.nil_perm.mp h).symm
  | x :: l, [], _, _, h => absurd h.length_eq (by simp)
  | x :: l, y :: m, hl, hm, h => by
    have hl' := List.pairwise_cons.mp hl
    have hm' := List.pairwise_cons.mp hm
    have e : x = y := by
      have a : x ≤ y := by
        rcases List.mem_cons.mp (h.mem_iff.mpr (List.mem_cons_self : y ∈ y :: m)) with e | e
        · omega
        · exact hl'.1 y e
      have b : y ≤ x := by
        rcases List.mem_cons.mp (h.mem_iff.mp (List.mem_cons_self : x ∈ x :: l)) with e | e
        · omega
        · exact hm'.1 x e
      omega
    subst e
    congr 1
    exact le_unique hl'.2 hm'.2 (List.Perm.cons_inv h)
/-! ### ints of data -/
theorem intsD_of {K : Kx} {F : Hp} : ∀ {vs : List V} {ds : List PyData} {ns : List Int}, DpAll K F vs ds → intsD ds = some ns → vs = ns.map V.int
  | _, _, ns, .nil, h => by cases h; rfl
  | v :: vs, d :: ds, ns, .cons hd ht, h => by
    cases d with
    | int i =>
      have h' : (intsD ds).map (fun t => i :: t) = some ns := h
      cases e : intsD ds with
      | none => rw [e] at h'; cases h'
      | some t =>
        rw [e] at h'
        cases h'
        cases hd
        rw [List.map_cons, intsD_of ht e]
    | _ => cases h
section
variable {X : Cx} {c : Ct} {e : Expr} {pos p p2 pos2 : Pos} {m : M PyData}
/-- set(l) of a list of whole numbers -/
def rSetL (K : PySem.W.Frag) (w : World) : List V → Hp → VK → Prop := fun vs H Q => ∃ (a : Addr) (ns : List Int), vs = [V.ref a] ∧ SqL K H a (ns.map V.int) ∧ ns.length < 64 ∧ ∀ (p : Addr) (k : Nat), k ≤ ns.length → H p = none → Q (.ref p) (L2.upd H p (SetO w p (fun j => decide (j ∈ ns)) k))
theorem cr_setL (hc : X.calm = true) : CallR X (.type "set") (rSetL X.K X.w) := by
  intro pins s σ H vs us Q I r h
  obtain ⟨a, ns, rfl, ha, hl, q⟩ := h
  rw [Vals.ref1 r]
  obtain ⟨its, rv, ht, hz⟩ := I.list ha
  refine set_of_list (items := its.toArray) ns (I.ok.hd hc) ht.isList (by simpa using intsAre_of rv) (by unfold scanBound; omega) fun h' tk k hS hk kp => ?_
  exact ⟨.ref _, _, I.laid (t' := tk) (o := SetO X.w s.heap.objs.size (fun j => decide (j ∈ ns)) k) kp (Nat.le_refl _) (setO_new hS), rfl, q _ k hk (I.hok.fresh (Nat.le_refl _))⟩
theorem do_sortSet (hc : X.calm = true) (hg : Gl X "sorted") (hm : X.mg "sorted" = none) (hg' : Gl X "set") (hm' : X.mg "set" = none) (ha : DE X c e m)
    (h1 : starEach [.Call (.Name "set" p2) [e] [] pos2] X.env = (false, eval (.Call (.Name "set" p2) [e] [] pos2) X.env) :: starEach [] X.env := by rfl)
    (h2 : starEach [e] X.env = (false, eval e X.env) :: starEach [] X.env := by rfl) : DO X c (.Call (.Name "sorted" p) [.Call (.Name "set" p2) [e] [] pos2] [] pos) (lift1 oSortSet m) :=
  pe_imp (pe_callB (cr_sortedSet hc) hg hm (by decide +kernel) (pa_cons (pe_callTy (cr_setL hc) hg' hm' (by decide +kernel) (pa_cons ha pa_nil h2) (by decide) (by decide) h2) pa_nil h1) (by decide) (by decide) h1) fun σ H Q ⟨F, ρ, r, o⟩ => ⟨F, ρ, r, Out.mono (Out.bind o) (fun d ρ1 q v H1 F1 g1 d1 => by
    obtain ⟨w, e, q⟩ := Out.of q
    cases d with
    | list xs =>
      have e' : (match intsD xs with
        | some ns => if ns.length < 64 then some (C.l ((sortU ns).map .int)) else none
        | none => none) = some w := e
      cases hi : intsD xs with
      | none => rw [hi] at e'; cases e'
      | some ns =>
        rw [hi] at e'
        have e2 : (if ns.length < 64 then some (C.l ((sortU ns).map .int)) else none) = some w := e'
        by_cases hl : ns.length < 64
        · rw [if_pos hl] at e2
          cases e2
          cases d1 with
          | lst hs ha =>
            rw [intsD_of ha hi] at hs
            refine ⟨_, ns, rfl, rd_seq g1.rp.sub hs, hl, fun p k hk hp => ⟨p, _, k, rfl, upd_same, by omega, fun ns' t hlt hmem _ ht => ?_⟩⟩
            have en : ns' = sortU ns := lt_unique hlt (sortU_lt ns) fun z => by rw [hmem z, sortU_mem]; simp
            subst en
            have g2 := g1.trans (Go.temp g1.rp hp (SetO X.w p (fun j => decide (j ∈ ns)) k))
            have g3 := g2.trans (Go.temp g2.rp ht (.lst ((sortU ns).map V.int)))
            exact q _ _ F1 g3 ⟨t, _, rfl, .inl (g2.back ht), g2.rp.free ht, upd_same, dpa_ints _, no_own g2.rp ht⟩
        · rw [if_neg hl] at e2; cases e2
    | _ => cases e) fun e ρ1 q => q⟩
theorem do_sortI (hg : Gl X "sorted") (hm : X.mg "sorted" = none) (ha : DE X c e m) (hc : CallR X (.builtin "sorted") (rSortedI X.K))
    (h1 : starEach [e] X.env = (false, eval e X.env) :: starEach [] X.env := by rfl) : DO X c (.Call (.Name "sorted" p) [e] [] pos) (lift1 oSortI m) :=
  pe_imp (pe_callB hc hg hm (by decide +kernel) (pa_cons ha pa_nil h1) (by decide) (by decide) h1) fun σ H Q ⟨F, ρ, r, o⟩ => ⟨F, ρ, r, Out.mono (Out.bind o) (fun d ρ1 q v H1 F1 g1 d1 => by
    obtain ⟨w, e, q⟩ := Out.of q
    cases d with
    | list xs =>
      have e' : (match intsD xs with
        | some ns => some (C.l ((sortS ns).map .int))
        | none => none) = some w := e
      cases hi : intsD xs with
      | none => rw [hi] at e'; cases e'
      | some ns =>
        rw [hi] at e'
        cases e'
        cases d1 with
        | lst hs ha =>
          rw [intsD_of ha hi] at hs
          refine ⟨_, ns, rfl, rd_seq g1.rp.sub hs, fun ns' t hp hle ht => ?_⟩
          have en : ns' = sortS ns := le_unique hle (sortS_le ns) (hp.trans (sortS_perm ns).symm)
          subst en
          exact q _ _ F1 (g1.trans (Go.temp g1.rp ht _)) ⟨t, _, rfl, .inl (g1.back ht), g1.rp.free ht, upd_same, dpa_ints _, no_own g1.rp ht⟩
    | _ => cases e) fun e ρ1 q => q⟩
/-- the keys of a dict, told by a list of them -/
theorem put_keys {κ : Type} [DecidableEq κ] (kvs : List (κ × V)) (k : κ) (v : V) : (∀ j, j ∈ (putK kvs k v).map (·.1) ↔ j = k ∨ j ∈ kvs.map (·.1)) ∧ ((kvs.map (·.1)).Nodup → ((putK kvs k v).map (·.1)).Nodup) ∧ (putK kvs k v).length ≤ kvs.length + 1 := by
  refine ⟨fun j => ?_, fun h => ?_, length_putK kvs k v⟩
  · unfold putK
    split
    · rename_i c
      obtain ⟨q, hq, e⟩ := List.any_eq_true.mp c
      have e := of_decide_eq_true e
      have : (kvs.map fun kv => if kv.1 = k then (kv.1, v) else kv).map (·.1) = kvs.map (·.1) := by
        rw [List.map_map]
        refine List.map_congr_left fun z _ => ?_
        show (if z.1 = k then (z.1, v) else z).1 = z.1
        split <;> rfl
      rw [this]
      constructor
      · exact .inr
      · rintro (h | h)
        · rw [h, ← e]; exact List.mem_map_of_mem hq
        · exact h
    · simp [or_comm]
  · unfold putK
    split
    · have : (kvs.map fun kv => if kv.1 = k then (kv.1, v) else kv).map (·.1) = kvs.map (·.1) := by
        rw [List.map_map]
        refine List.map_congr_left fun z _ => ?_
        show (if z.1 = k then (z.1, v) else z).1 = z.1
        split <;> rfl
      rw [this]; exact h
    · rename_i c
      rw [List.map_append, List.nodup_append]
      refine ⟨h, by simp, fun a ha b hb => ?_⟩
      have : b = k := by simpa using hb
      subst this
      intro e
      subst e
      obtain ⟨q, hq, e⟩ := List.mem_map.mp ha
      exact c (List.any_eq_true.mpr ⟨q, hq, decide_eq_true e⟩)
theorem merge_keys : ∀ (more kvs : List (L2.Key × V)), (∀ j, j ∈ (mergeK kvs more).map (·.1) ↔ j ∈ kvs.map (·.1) ∨ j ∈ more.map (·.1)) ∧ ((kvs.map (·.1)).Nodup → ((mergeK kvs more).map (·.1)).Nodup) ∧ (mergeK kvs more).length ≤ kvs.length + more.length
  | [], kvs => ⟨fun j => by simp [mergeK], fun h => h, Nat.le_refl _⟩
  | q :: r, kvs => by
    have hp := put_keys kvs q.1 q.2
    obtain ⟨h1, h2, h3⟩ := merge_keys r (putK kvs q.1 q.2)
    refine ⟨fun j => ?_, fun h => h2 (hp.2.1 h), ?_⟩
    · show j ∈ (mergeK (putK kvs q.1 q.2) r).map (·.1) ↔ _
      rw [h1 j, hp.1 j, List.map_cons, List.mem_cons]
      constructor
      · rintro ((h | h) | h)
        · exact .inr (.inl h)
        · exact .inl h
        · exact .inr (.inr h)
      · rintro (h | h | h)
        · exact .inl (.inr h)
        · exact .inl (.inl h)
        · exact .inr h
    · show (mergeK (putK kvs q.1 q.2) r).length ≤ _
      have := hp.2.2
      rw [List.length_cons]
      omega
theorem inl_all : ∀ {ks : List L2.Key}, (∀ k ∈ ks, ∃ i : Int, k = Sum.inl i) → ∃ ns : List Int, ks = ns.map Sum.inl
  | [], _ => ⟨[], rfl⟩
  | k :: r, h => by
    obtain ⟨i, rfl⟩ := h k List.mem_cons_self
    obtain ⟨ns, rfl⟩ := inl_all fun j hj => h j (List.mem_cons_of_mem _ hj)
    exact ⟨i :: ns, rfl⟩
/-- pairs of a whole number and data, in the heap -/
theorem keysD_of {K : Kx} {F : Hp} : ∀ {vs : List V} {ds : List PyData} {ns : List Int}, DpAll K F vs ds → keysD ds = some ns → ∃ (ps : List Addr) (kvs : List (L2.Key × V)), vs = ps.map V.ref ∧ Paired (fun p kv => SqT K F p [kV kv.1, kv.2]) ps kvs ∧ kvs.map (·.1) = ns.map Sum.inl
  | _, _, ns, .nil, h => by cases h; exact ⟨[], [], rfl, .nil, rfl⟩
  | v :: vs, d :: ds, ns, .cons hd ht, h => by
    cases d with
    | tuple xs =>
      match xs, hd, h with
      | [.int k, y], hd, h =>
        have h' : (keysD ds).map (fun t => k :: t) = some ns := h
        cases e : keysD ds with
        | none => rw [e] at h'; cases h'
        | some t =>
          rw [e] at h'
          cases h'
          obtain ⟨ps, kvs, rfl, h2, h3⟩ := keysD_of ht e
          cases hd with
          | tup hs ha =>
            cases ha with
            | cons a1 a2 =>
              cases a1
              cases a2 with
              | cons a3 a4 =>
                cases a4
                rename_i ad vy
                exact ⟨ad :: ps, (Sum.inl k, vy) :: kvs, rfl, .cons hs h2, by rw [List.map_cons, List.map_cons, h3]⟩
    | _ => cases h
theorem do_sortDict (hc : X.calm = true) (hg : Gl X "sorted") (hm : X.mg "sorted" = none) (hg' : Gl X "dict") (hm' : X.mg "dict" = none) (ha : DE X c e m)
    (h1 : starEach [.Call (.Name "dict" p2) [e] [] pos2] X.env = (false, eval (.Call (.Name "dict" p2) [e] [] pos2) X.env) :: starEach [] X.env := by rfl)
    (h2 : starEach [e] X.env = (false, eval e X.env) :: starEach [] X.env := by rfl) : DO X c (.Call (.Name "sorted" p) [.Call (.Name "dict" p2) [e] [] pos2] [] pos) (lift1 oSortDict m) :=
  pe_imp (pe_callB (call_sortedDI hc) hg hm (by decide +kernel) (pa_cons (pe_callTy (call_dictP hc) hg' hm' (by decide +kernel) (pa_cons ha pa_nil h2) (by decide) (by decide) h2) pa_nil h1) (by decide) (by decide) h1) fun σ H Q ⟨F, ρ, r, o⟩ => ⟨F, ρ, r, Out.mono (Out.bind o) (fun d ρ1 q v H1 F1 g1 d1 => by
    obtain ⟨w, e, q⟩ := Out.of q
    cases d with
    | list xs =>
      have e' : (match keysD xs with
        | some ns => if ns.length < 64 then some (C.l ((sortU ns).map .int)) else none
        | none => none) = some w := e
      cases hi : keysD xs with
      | none => rw [hi] at e'; cases e'
      | some ns =>
        rw [hi] at e'
        have e2 : (if ns.length < 64 then some (C.l ((sortU ns).map .int)) else none) = some w := e'
        by_cases hl : ns.length < 64
        · rw [if_pos hl] at e2
          cases e2
          cases d1 with
          | lst hs ha =>
            obtain ⟨ps, kvs, ev, hpr, hk⟩ := keysD_of ha hi
            rw [ev] at hs
            obtain ⟨k1, k2, k3⟩ := merge_keys kvs []
            obtain ⟨ks, hks⟩ := inl_all (ks := (mergeK [] kvs).map (·.1)) fun j hj => by
              rcases (k1 j).mp hj with h | h
              · cases h
              · rw [hk] at h
                obtain ⟨i, _, e⟩ := List.mem_map.mp h
                exact ⟨i, e.symm⟩
            have hkl : ks.length ≤ ns.length := by
              have a1 : ((mergeK [] kvs).map (·.1)).length = ks.length := by rw [hks, List.length_map]
              have a2 : (kvs.map (·.1)).length = ns.length := by rw [hk, List.length_map]
              rw [List.length_map] at a1 a2
              rw [List.length_nil] at k3
              omega
            have nd : ks.Nodup := by
              have := k2 List.nodup_nil
              rw [hks] at this
              exact List.Pairwise.of_map Sum.inl (fun a b h e => h (congrArg Sum.inl e)) this
            have km : ∀ z, z ∈ ks ↔ z ∈ ns := fun z => by
              have a := k1 (Sum.inl z)
              rw [hks, hk] at a
              have inj : ∀ l : List Int, (Sum.inl z : L2.Key) ∈ l.map Sum.inl ↔ z ∈ l := fun l => by
                constructor
                · intro h
                  obtain ⟨i, hi, e⟩ := List.mem_map.mp h
                  cases e; exact hi
                · intro h; exact List.mem_map_of_mem h
              rw [inj, inj] at a
              rw [a]
              constructor
              · rintro (h | h)
                · cases h
                · exact h
              · exact .inr
            refine ⟨_, ps, kvs, rfl, rd_seq g1.rp.sub hs, Paired.mapP hpr fun _ _ z => sqT_mono g1.rp.sub z, fun p hp => ⟨p, mergeK [] kvs, ks, rfl, .inl upd_same, hks, by omega, fun ys t hpm hle ht => ?_⟩⟩
            have en : ys = sortU ns := by
              refine lt_unique ?_ (sortU_lt ns) fun z => by rw [hpm.mem_iff, km, sortU_mem]
              have hn : ys.Nodup := hpm.nodup_iff.mpr nd
              exact (hle.and hn).imp fun h => by omega
            subst en
            have g2 := g1.trans (Go.temp g1.rp hp (HO.dK (mergeK [] kvs)))
            have g3 := g2.trans (Go.temp g2.rp ht (.lst ((sortU ns).map V.int)))
            exact q _ _ F1 g3 ⟨t, _, rfl, .inl (g2.back ht), g2.rp.free ht, upd_same, dpa_ints _, no_own g2.rp ht⟩
        · rw [if_neg hl] at e2; cases e2
    | _ => cases e) fun e ρ1 q => q⟩
end
end DL

set_option linter.all false
set_option maxRecDepth 100000
namespace DL
open PySem PySem.Spec L2
/-! ## the denotation, applied -/
def Res.then {α β : Type} (r : Res α) (f : α → M β) : Res β := match r with
  | .ok a ρ => f a ρ
  | .err e ρ => .err e ρ
  | .stuck => .stuck
section
variable {α β : Type} (ρ : Sl) (m m' m2 : M PyData) (n n' : M C) (t u : M Bool) (s s' : M Fl) (i : Nat)
@[simp] theorem then_ok (a : α) (f : α → M β) : (Res.ok a ρ).then f = f a ρ := rfl
@[simp] theorem then_err (e : Exc) (f : α → M β) : (Res.err e ρ : Res α).then f = .err e ρ := rfl
@[simp] theorem then_stuck (f : α → M β) : (Res.stuck : Res α).then f = .stuck := rfl
@[simp] theorem bind_ap (a : M α) (f : α → M β) : M.bind a f ρ = (a ρ).then f := rfl
@[simp] theorem pure_ap (a : α) : M.pure a ρ = .ok a ρ := rfl
@[simp] theorem stuck_ap : (M.stuck : M α) ρ = .stuck := rfl
@[simp] theorem of_some (a : α) : M.of (some a) ρ = .ok a ρ := rfl
@[simp] theorem of_none : (M.of (none : Option α)) ρ = .stuck := rfl
@[simp] theorem ite_ap {c : Prop} [Decidable c] (a b : M α) : (if c then a else b) ρ = if c then a ρ else b ρ := by split <;> rfl
@[simp] theorem lift1_ap (f : PyData → Option α) : lift1 f m ρ = (m ρ).then fun x => M.of (f x) := rfl
@[simp] theorem lift2_ap (f : PyData → PyData → Option α) : lift2 f m m' ρ = (m ρ).then fun x => M.bind m' fun y => M.of (f x y) := rfl
@[simp] theorem mVar_ap : mVar i ρ = match ρ[i]? with
  | some (some (.d x)) => .ok x ρ
  | _ => .stuck := rfl
@[simp] theorem mVarF_ap : mVarF i ρ = match ρ[i]? with
  | some (some (.d x)) => .ok x ρ
  | some (some (.l xs)) => .ok (.list xs) (ρ.set i (some (.d (.list xs))))
  | _ => .stuck := rfl
@[simp] theorem mVarM_ap : mVarM i ρ = match ρ[i]? with
  | some (some (.d x)) => .ok (.d x) ρ
  | some (some (.f x)) => .ok (.f x) ρ
  | some (some c) => .ok c (ρ.set i none)
  | _ => .stuck := rfl
@[simp] theorem mVarC_ap : mVarC i ρ = match ρ[i]? with
  | some (some (.d x)) => .ok (.d x) ρ
  | some (some (.f a)) => .ok (.f a) ρ
  | _ => .stuck := rfl
@[simp] theorem bD_ap : bD t ρ = (t ρ).then fun b => M.pure (.bool b) := rfl
@[simp] theorem sSeq_ap : sSeq s s' ρ = (s ρ).then fun fl => match fl with
  | .nx => s'
  | fl => M.pure fl := rfl
@[simp] theorem sIf_ap : sIf t s s' ρ = (t ρ).then fun k => if k = true then s else s' := rfl
@[simp] theorem mIf_ap (a b : M α) : mIf t a b ρ = (t ρ).then fun k => if k = true then a else b := rfl
@[simp] theorem sSet_ap : sSet i n ρ = (n ρ).then fun c => sPut i c := rfl
@[simp] theorem sPut_ap (c : C) : sPut i c ρ = .ok .nx (ρ.set i (some c)) := rfl
@[simp] theorem sSet2_ap (j : Nat) : sSet2 i j n n' ρ = (n ρ).then fun x => M.bind n' fun y => fun ρ => .ok .nx ((ρ.set i (some x)).set j (some y)) := rfl
@[simp] theorem sSet3_ap (j l : Nat) (n2 : M C) : sSet3 i j l n n' n2 ρ = (n ρ).then fun x => M.bind n' fun y => M.bind n2 fun z => fun ρ => .ok .nx (((ρ.set i (some x)).set j (some y)).set l (some z)) := rfl
@[simp] theorem gN_ap (x : PyData) : gN i x ρ = .ok () (ρ.set i (some (.d x))) := rfl
@[simp] theorem gsL_nil : gsL [] [] ρ = .ok () ρ := rfl
@[simp] theorem gsL_cons (g : PyData → M Unit) (gs : List (PyData → M Unit)) (x : PyData) (xs : List PyData) : gsL (g :: gs) (x :: xs) ρ = (g x ρ).then fun _ => gsL gs xs := rfl
@[simp] theorem gT_tup (gs : List (PyData → M Unit)) (xs : List PyData) : gT gs (.tuple xs) ρ = if xs.length = gs.length then gsL gs xs ρ else .stuck := by
  show (if xs.length = gs.length then gsL gs xs else M.stuck) ρ = _
  split <;> rfl
@[simp] theorem sAsg_ap (g : PyData → M Unit) : sAsg m g ρ = (m ρ).then fun x => sDo (g x) := rfl
@[simp] theorem sAsg2_ap (g g' : PyData → M Unit) : sAsg2 m g g' ρ = (m ρ).then fun x => M.bind (g x) fun _ => sDo (g' x) := rfl
@[simp] theorem sDo_ap (a : M α) : sDo a ρ = (a ρ).then fun _ => M.pure .nx := rfl
@[simp] theorem sSkip_ap : sSkip ρ = .ok .nx ρ := rfl
@[simp] theorem sErr_ap (e : Exc) : sErr e ρ = .err e ρ := rfl
@[simp] theorem sRet_ap : sRet n ρ = (n ρ).then fun c => M.pure (.rt c) := rfl
@[simp] theorem mDat_ap : mDat m ρ = (m ρ).then fun c => M.pure (.d c) := rfl
def frz : C → M PyData
  | .d x => M.pure x
  | .l xs => M.pure (.list xs)
  | _ => M.stuck
@[simp] theorem frz_d (x : PyData) : frz (.d x) ρ = .ok x ρ := rfl
@[simp] theorem frz_l (x : List PyData) : frz (.l x) ρ = .ok (.list x) ρ := rfl
@[simp] theorem mFrz_ap : mFrz n ρ = (n ρ).then frz := by
  show (n ρ).then _ = _
  cases n ρ with
  | ok c ρ => cases c <;> rfl
  | _ => rfl
@[simp] theorem tNot_ap : DL.tNot t ρ = (t ρ).then fun b => M.pure (!b) := rfl
@[simp] theorem tAnd_ap : DL.tAnd t u ρ = (t ρ).then fun b => if b = true then u else M.pure false := rfl
@[simp] theorem tOr_ap : DL.tOr t u ρ = (t ρ).then fun b => if b = true then M.pure true else u := rfl
@[simp] theorem tTru_ap : tTru m ρ = (m ρ).then fun x => M.of (truD x) := rfl
@[simp] theorem mAnd_ap : mAnd m m' ρ = (m ρ).then fun d => match d with
  | .bool k => if k = true then m' else M.pure (.bool false)
  | _ => M.stuck := rfl
@[simp] theorem mOr_ap : mOr m m' ρ = (m ρ).then fun d => match d with
  | .bool k => if k = true then M.pure (.bool true) else m'
  | _ => M.stuck := rfl
@[simp] theorem mNot_ap : mNot m ρ = (m ρ).then fun d => match d with
  | .bool k => M.pure (.bool (!k))
  | _ => M.stuck := rfl
@[simp] theorem tChain_ap (f g : PyData → PyData → Option Bool) : tChain f g m m' m2 ρ = (m ρ).then fun x => M.bind m' fun y => M.bind (M.of (f x y)) fun k => if k = true then M.bind m2 fun z => M.of (g y z) else M.pure false := rfl
@[simp] theorem mSeqA_nil : mSeqA [] ρ = .ok [] ρ := rfl
@[simp] theorem mSeqA_cons (a : M Av) (r : List (M Av)) : mSeqA (a :: r) ρ = (a ρ).then fun x => M.bind (mSeqA r) fun xs => M.pure (x :: xs) := rfl
@[simp] theorem mSeq_nil : mSeq [] ρ = .ok [] ρ := rfl
@[simp] theorem mSeq_cons (r : List (M PyData)) : mSeq (m :: r) ρ = (m ρ).then fun x => M.bind (mSeq r) fun xs => M.pure (x :: xs) := rfl
@[simp] theorem mTup_ap (ms : List (M PyData)) : mTup ms ρ = (mSeq ms ρ).then fun xs => M.pure (.tuple xs) := rfl
@[simp] theorem mLst_ap (ms : List (M PyData)) : mLst ms ρ = (mSeq ms ρ).then fun xs => M.pure (.l xs) := rfl
@[simp] theorem agD_ap : agD m ρ = (m ρ).then fun x => M.pure (.d x) := rfl
@[simp] theorem agF_ap : agF n ρ = (n ρ).then fun c => match c with
  | .d x => M.pure (.d x)
  | .f a => M.pure (.f a)
  | _ => M.stuck := rfl
@[simp] theorem agV_ap : agV i ρ = match ρ[i]? with
  | some (some (.d x)) => .ok (.d x) ρ
  | some (some (.f a)) => .ok (.f a) ρ
  | some (some _) => .ok (.v i) ρ
  | _ => .stuck := rfl
@[simp] theorem rdA_d (x : PyData) : rdA ρ (.d x) = some (.d x) := rfl
@[simp] theorem rdA_v : rdA ρ (.v i) = (ρ[i]?).join := rfl
@[simp] theorem rdA_f (x : Str) : rdA ρ (.f x) = some (.f x) := rfl
/-- behind a call: what it changed goes into its arguments' slots -/
def callR (as : List Av) (r : Res C) : Res C := match r with
  | .ok r cs => .ok r (wrA as cs ρ)
  | .err e cs => .err e (wrA as cs ρ)
  | .stuck => .stuck
@[simp] theorem callR_ok (as : List Av) (c : C) (cs : Sl) : callR ρ as (.ok c cs) = .ok c (wrA as cs ρ) := rfl
@[simp] theorem callR_err (as : List Av) (e : Exc) (cs : Sl) : callR ρ as (.err e cs) = .err e (wrA as cs ρ) := rfl
@[simp] theorem mCall_ap (φ : Sl → Res C) (a : M (List Av)) : mCall φ a ρ = (a ρ).then fun as ρ' => if (slA as).Nodup then callR ρ' as (φ (as.map (rdA ρ'))) else .stuck := rfl
@[simp] theorem slA_nil : slA [] = [] := rfl
@[simp] theorem slA_v (r : List Av) : slA (.v i :: r) = i :: slA r := rfl
@[simp] theorem slA_d (x : PyData) (r : List Av) : slA (.d x :: r) = slA r := rfl
@[simp] theorem slA_f (x : Str) (r : List Av) : slA (.f x :: r) = slA r := rfl
@[simp] theorem wrA_nil (cs : Sl) : wrA [] cs ρ = ρ := rfl
@[simp] theorem wrA_v (r : List Av) (c : Option C) (cs : Sl) : wrA (.v i :: r) (c :: cs) ρ = wrA r cs (ρ.set i c) := rfl
@[simp] theorem wrA_d (x : PyData) (r : List Av) (c : Option C) (cs : Sl) : wrA (.d x :: r) (c :: cs) ρ = wrA r cs ρ := rfl
@[simp] theorem wrA_f (x : Str) (r : List Av) (c : Option C) (cs : Sl) : wrA (.f x :: r) (c :: cs) ρ = wrA r cs ρ := rfl
/-- a def's end -/
def runR (n : Nat) (pm : List Nat) (cs : Sl) (r : Res Fl) : Res C := match r with
    | .ok .nx ρ => .ok (.d .none) (finSl n pm cs ρ)
    | .ok (.rt c) ρ => .ok c (finSl n pm cs ρ)
    | .ok _ _ => .stuck
    | .err e ρ => .err e (finSl n pm cs ρ)
    | .stuck => .stuck
theorem run_ap (n N : Nat) (pm : List Nat) (b : M Fl) (cs : Sl) (h : okSl n pm cs = true) : run n N pm b cs = runR n pm cs (b (cs ++ List.replicate (N - n) none)) := by
  unfold run
  rw [if_pos h]; rfl
variable (k : Nat) (pm : List Nat) (cs : Sl)
@[simp] theorem runR_rt (c : C) : runR k pm cs (.ok (.rt c) ρ) = .ok c (finSl k pm cs ρ) := rfl
@[simp] theorem runR_nx : runR k pm cs (.ok .nx ρ) = .ok (.d .none) (finSl k pm cs ρ) := rfl
@[simp] theorem runR_err (e : Exc) : runR k pm cs (.err e ρ) = .err e (finSl k pm cs ρ) := rfl
@[simp] theorem runR_if {c : Prop} [Decidable c] (a b : Res Fl) : runR k pm cs (if c then a else b) = if c then runR k pm cs a else runR k pm cs b := by split <;> rfl
@[simp] theorem then_if {c : Prop} [Decidable c] (a b : Res α) (f : α → M β) : (if c then a else b).then f = if c then a.then f else b.then f := by split <;> rfl
/-! ### lists of a slot's own -/
@[simp] theorem mIxV_ap : mIxV i m ρ = if (lsAt i ρ).isSome = true then (m ρ).then fun j ρ' => match lsAt i ρ' with
    | some xs => M.of (oIx (.list xs) j) ρ'
    | none => .stuck else .stuck := rfl
@[simp] theorem sOn_ap : sOn i s ρ = if (lsAt i ρ).isSome = true then s ρ else .stuck := rfl
@[simp] theorem sSetIx_ap : sSetIx i m m' ρ = (m' ρ).then fun v => sOn i (M.bind m fun j => fun ρ => match lsAt i ρ with
  | some xs => (match ixOf xs.length j with
    | some k => .ok .nx (ρ.set i (some (.l (xs.set k v))))
    | none => .stuck)
  | none => .stuck) := rfl
@[simp] theorem sApp_ap : sApp i m ρ = sOn i (M.bind m fun x => fun ρ => match lsAt i ρ with
  | some xs => if xs.length < sizeLine then .ok .nx (ρ.set i (some (.l (xs ++ [x])))) else .stuck
  | none => .stuck) ρ := rfl
@[simp] theorem sExtC_ap : sExtC i n ρ = sOn i (M.bind n fun x => fun ρ => match lsAt i ρ, toL x with
  | some xs, some ys => if xs.length + ys.length ≤ sizeLine then .ok .nx (ρ.set i (some (.l (xs ++ ys)))) else .stuck
  | _, _ => .stuck) ρ := rfl
@[simp] theorem mLenV_ap : mLenV i ρ = match lsAt i ρ with
  | some xs => .ok (.int xs.length) ρ
  | none => .stuck := rfl
theorem lsAt_ap : lsAt i ρ = match ρ[i]? with
  | some (some (.l xs)) => some xs
  | _ => none := rfl
end
section
variable (i j : Int) (a b : Bool) (x y : Str) (xs ys : List PyData) (d : PyData)
@[simp] theorem oAdd_i : oAdd (.int i) (.int j) = some (.int (i + j)) := rfl
@[simp] theorem oSub_i : oSub (.int i) (.int j) = some (.int (i - j)) := rfl
@[simp] theorem oMul_i : oMul (.int i) (.int j) = if mulOk i j = true then some (.int (i * j)) else none := rfl
@[simp] theorem oDiv_i : oDiv (.int i) (.int j) = if divOk j = true then some (.int (i / j)) else none := rfl
@[simp] theorem oMod_i : oMod (.int i) (.int j) = if 0 < j then some (.int (i % j)) else none := rfl
@[simp] theorem oShl_i : oShl (.int i) (.int j) = if shlOk i j = true then some (.int (i * 2 ^ j.toNat)) else none := rfl
@[simp] theorem oShr_i : oShr (.int i) (.int j) = if 0 ≤ j then some (.int (i / 2 ^ j.toNat)) else none := rfl
@[simp] theorem oPow_i : oPow (.int i) (.int j) = if powOk i j = true then some (.int (i ^ j.toNat)) else none := rfl
@[simp] theorem oAnd_i : oAnd (.int i) (.int j) = some (.int (Builtin.bitAnd i j)) := rfl
@[simp] theorem oOr_i : oOr (.int i) (.int j) = some (.int (Builtin.bitOr i j)) := rfl
@[simp] theorem oNeg_i : oNeg (.int i) = some (.int (-i)) := rfl
@[simp] theorem oLt_i : oLt (.int i) (.int j) = some (decide (i < j)) := rfl
@[simp] theorem oLe_i : oLe (.int i) (.int j) = some (decide (i ≤ j)) := rfl
@[simp] theorem oGt_i : oGt (.int i) (.int j) = some (decide (j < i)) := rfl
@[simp] theorem oGe_i : oGe (.int i) (.int j) = some (decide (j ≤ i)) := rfl
@[simp] theorem oEq_i : oEq (.int i) (.int j) = some (decide (i = j)) := by
  show some (PyData.eqv (.int i) (.int j)) = _
  rfl
@[simp] theorem oNe_i : oNe (.int i) (.int j) = some (!decide (i = j)) := by
  show some (!PyData.eqv (.int i) (.int j)) = _
  rfl
@[simp] theorem oIsX_n : oIsX d .none = some (isNone d) := rfl
@[simp] theorem oNotX_n : oNotX d .none = some (!isNone d) := rfl
@[simp] theorem isNone_i : isNone (.int i) = false := rfl
@[simp] theorem isNone_n : isNone .none = true := rfl
@[simp] theorem isNone_l : isNone (.list xs) = false := rfl
@[simp] theorem isNone_t : isNone (.tuple xs) = false := rfl
@[simp] theorem oLen_l : oLen (.list xs) = some (.int xs.length) := rfl
@[simp] theorem oLen_t : oLen (.tuple xs) = some (.int xs.length) := rfl
@[simp] theorem oAbs_i : oAbs (.int i) = some (.int (if i < 0 then -i else i)) := rfl
@[simp] theorem oInt_i : oInt (.int i) = some (.int i) := rfl
@[simp] theorem oInt_b : oInt (.bool a) = some (.int (if a then 1 else 0)) := rfl
@[simp] theorem oMax_i : oMax (.int i) (.int j) = some (.int (if j > i then j else i)) := rfl
@[simp] theorem oMin_i : oMin (.int i) (.int j) = some (.int (if j < i then j else i)) := rfl
@[simp] theorem truD_b : truD (.bool a) = some a := rfl
@[simp] theorem truD_i : truD (.int i) = some (i != 0) := rfl
@[simp] theorem truD_l : truD (.list xs) = some (!xs.isEmpty) := rfl
@[simp] theorem truD_t : truD (.tuple xs) = some (!xs.isEmpty) := rfl
@[simp] theorem oIx_l : oIx (.list xs) (.int i) = atI xs i := rfl
@[simp] theorem oIx_t : oIx (.tuple xs) (.int i) = atI xs i := rfl
@[simp] theorem oIsi_i (t : Ty) : oIsi t (.int i) = some (.bool (isTy t (.int i))) := rfl
@[simp] theorem oIsi_b (t : Ty) : oIsi t (.bool a) = some (.bool (isTy t (.bool a))) := rfl
@[simp] theorem oIsi_s (t : Ty) : oIsi t (.str x) = some (.bool (isTy t (.str x))) := rfl
@[simp] theorem oIsi_n (t : Ty) : oIsi t .none = some (.bool (isTy t .none)) := rfl
@[simp] theorem oIsi_l (t : Ty) : oIsi t (.list xs) = some (.bool (isTy t (.list xs))) := rfl
@[simp] theorem oIsi_t (t : Ty) : oIsi t (.tuple xs) = some (.bool (isTy t (.tuple xs))) := rfl
@[simp] theorem oIsi2_i (t u : Ty) : oIsi2 t u (.int i) = some (.bool (isTy t (.int i) || isTy u (.int i))) := rfl
@[simp] theorem oIsi2_b (t u : Ty) : oIsi2 t u (.bool a) = some (.bool (isTy t (.bool a) || isTy u (.bool a))) := rfl
@[simp] theorem oIsi2_s (t u : Ty) : oIsi2 t u (.str x) = some (.bool (isTy t (.str x) || isTy u (.str x))) := rfl
@[simp] theorem oIsi2_n (t u : Ty) : oIsi2 t u .none = some (.bool (isTy t .none || isTy u .none)) := rfl
@[simp] theorem oIsi2_l (t u : Ty) : oIsi2 t u (.list xs) = some (.bool (isTy t (.list xs) || isTy u (.list xs))) := rfl
@[simp] theorem oIsi2_t (t u : Ty) : oIsi2 t u (.tuple xs) = some (.bool (isTy t (.tuple xs) || isTy u (.tuple xs))) := rfl
@[simp] theorem isTy_ii : isTy .int (.int i) = true := rfl
@[simp] theorem isTy_bi : isTy .bool (.int i) = false := rfl
@[simp] theorem isTy_si : isTy .str (.int i) = false := rfl
@[simp] theorem isTy_li : isTy .list (.int i) = false := rfl
@[simp] theorem isTy_ti : isTy .tuple (.int i) = false := rfl
@[simp] theorem isTy_ib : isTy .int (.bool a) = true := rfl
@[simp] theorem isTy_bb : isTy .bool (.bool a) = true := rfl
@[simp] theorem isTy_sb : isTy .str (.bool a) = false := rfl
@[simp] theorem isTy_lb : isTy .list (.bool a) = false := rfl
@[simp] theorem isTy_tb : isTy .tuple (.bool a) = false := rfl
@[simp] theorem isTy_ll : isTy .list (.list xs) = true := rfl
@[simp] theorem isTy_tl : isTy .tuple (.list xs) = false := rfl
@[simp] theorem isTy_il : isTy .int (.list xs) = false := rfl
@[simp] theorem isTy_bl : isTy .bool (.list xs) = false := rfl
@[simp] theorem isTy_sl : isTy .str (.list xs) = false := rfl
@[simp] theorem isTy_lt : isTy .list (.tuple xs) = false := rfl
@[simp] theorem isTy_tt : isTy .tuple (.tuple xs) = true := rfl
@[simp] theorem isTy_it : isTy .int (.tuple xs) = false := rfl
@[simp] theorem isTy_bt : isTy .bool (.tuple xs) = false := rfl
@[simp] theorem isTy_st : isTy .str (.tuple xs) = false := rfl
@[simp] theorem isTy_ls : isTy .list (.str x) = false := rfl
@[simp] theorem isTy_ts : isTy .tuple (.str x) = false := rfl
@[simp] theorem isTy_is : isTy .int (.str x) = false := rfl
@[simp] theorem isTy_bs : isTy .bool (.str x) = false := rfl
@[simp] theorem isTy_ss : isTy .str (.str x) = true := rfl
@[simp] theorem isTy_n (t : Ty) : isTy t .none = false := by cases t <;> rfl
end
/-! ## the sizes that the model asks for -/
theorem bits_le {x : Int} {p : Nat} : Builtin.Int.intBits x ≤ p ↔ x.natAbs < 2 ^ p := by
  unfold Builtin.Int.intBits
  by_cases h : x = 0
  · subst h
    simp [Nat.two_pow_pos]
  · have h' : (x == 0) = false := by simpa using h
    rw [h', if_neg Bool.false_ne_true]
    have hn : x.natAbs ≠ 0 := by simpa using h
    rw [Nat.succ_le_iff, Nat.log2_lt hn]
theorem mulOk_of {i j : Int} {p q : Nat} (hi : Builtin.Int.intBits i ≤ p) (hj : Builtin.Int.intBits j ≤ q) (h : p + q ≤ 134217728) : mulOk i j = true := by
  unfold mulOk
  exact decide_eq_true (by omega)
theorem bits_lt {x : Int} {p : Nat} (h1 : -(2 ^ p : Int) < x) (h2 : x < 2 ^ p) : Builtin.Int.intBits x ≤ p := by
  rw [bits_le]
  have e : ((2 ^ p : Nat) : Int) = (2 : Int) ^ p := by norm_cast
  omega
theorem bits_add {x y : Int} {p : Nat} (hx : Builtin.Int.intBits x ≤ p) (hy : Builtin.Int.intBits y ≤ p) : Builtin.Int.intBits (x + y) ≤ p + 1 := by
  rw [bits_le] at *
  rw [Nat.pow_succ]
  omega
theorem bits_mul {x y : Int} {p q : Nat} (hx : Builtin.Int.intBits x ≤ p) (hy : Builtin.Int.intBits y ≤ q) : Builtin.Int.intBits (x * y) ≤ p + q := by
  rw [bits_le] at *
  rw [Int.natAbs_mul, Nat.pow_add]
  exact Nat.mul_lt_mul'' hx hy
theorem divOk_of {j : Int} {p : Nat} (h0 : 0 < j) (h : j < 2 ^ p) (hp : p ≤ 9000) : divOk j = true := by
  unfold divOk
  rw [Bool.and_eq_true]
  refine ⟨decide_eq_true h0, decide_eq_true ?_⟩
  have hn : j.natAbs ≠ 0 := by omega
  have e : ((2 ^ p : Nat) : Int) = (2 : Int) ^ p := by norm_cast
  have h2 : j.natAbs < 2 ^ p := by omega
  have h3 := (Nat.log2_lt hn).mpr h2
  omega
end DL

set_option linter.all false
set_option maxRecDepth 100000
namespace DL
open PySem PySem.Spec L2
abbrev dI (i : Int) : Option C := some (.d (.int i))
/-! ## evaluation -/
@[simp] theorem okSl_1 (c : C) (h : c.own = false := by rfl) : okSl 1 [0] [some c] = true := by
  unfold okSl; simp [List.range, List.range.loop]
theorem atI_3_0 (a b c : PyData) : atI [a, b, c] 0 = some a := rfl
theorem atI_3_1 (a b c : PyData) : atI [a, b, c] 1 = some b := rfl
theorem atI_3_2 (a b c : PyData) : atI [a, b, c] 2 = some c := rfl
theorem ixOf_3_0 : ixOf 3 (.int 0) = some 0 := rfl
theorem ixOf_3_1 : ixOf 3 (.int 1) = some 1 := rfl
theorem ixOf_3_2 : ixOf 3 (.int 2) = some 2 := rfl
/-- the source of draws behind n draws -/
def Tin (n : Nat) (t : List PyData) : Prop := ∃ a b c : Int, t = [.int a, .int b, .int c] ∧ 0 ≤ a ∧ Builtin.Int.intBits a ≤ 2000000 ∧ 0 ≤ b ∧ b < 2 ^ 62 ∧ 0 ≤ c ∧ c ≤ n
theorem Tin.mono {n m : Nat} {t : List PyData} (h : Tin n t) (l : n ≤ m) : Tin m t := by
  obtain ⟨a, b, c, h1, h2, h3, h4, h5, h6, h7⟩ := h
  exact ⟨a, b, c, h1, h2, h3, h4, h5, h6, by omega⟩
theorem bits_div {a k : Int} {p : Nat} (h0 : 0 ≤ a) (hk : 0 < k) (h : Builtin.Int.intBits a ≤ p) : Builtin.Int.intBits (a / k) ≤ p := by
  rw [bits_le] at *
  have h1 : a / k ≤ a := Int.ediv_le_self _ h0
  have h2 : 0 ≤ a / k := Int.ediv_nonneg h0 (Int.le_of_lt hk)
  omega
end DL
namespace DL
open PySem PySem.Spec L2
theorem bits_s {i : Int} (h1 : -10000000000000000000000000000000000000000 < i) (h2 : i < 10000000000000000000000000000000000000000) : Builtin.Int.intBits i ≤ 140 := by
  rw [bits_le]
  have e : (2 : Nat) ^ 140 = 1393796574908163946345982392040522594123776 := by decide +kernel
  rw [e]
  omega
theorem mulOk_s {i j : Int} (h1 : -10000000000000000000000000000000000000000 < i) (h2 : i < 10000000000000000000000000000000000000000) (h3 : -10000000000000000000000000000000000000000 < j) (h4 : j < 10000000000000000000000000000000000000000) : mulOk i j = true := mulOk_of (bits_s h1 h2) (bits_s h3 h4) (by decide)
theorem divOk_b {j : Int} {p : Nat} (h0 : 0 < j) (h : Builtin.Int.intBits j ≤ p) (hp : p ≤ 9000) : divOk j = true := by
  rw [bits_le] at h
  unfold divOk
  rw [Bool.and_eq_true]
  refine ⟨decide_eq_true h0, decide_eq_true ?_⟩
  have hn : j.natAbs ≠ 0 := by omega
  have h3 := (Nat.log2_lt hn).mpr h
  omega
theorem divOk_s {j : Int} (h0 : 0 < j) (h : j < 10000000000000000000000000000000000000000) : divOk j = true := divOk_b h0 (bits_s (by omega) h) (by decide)
end DL
namespace DL
open PySem PySem.Spec L2
@[simp] theorem mYes_ap (ρ : Sl) : mYes ρ = .ok true ρ := rfl
@[simp] theorem oEq_b (a b : Bool) : oEq (.bool a) (.bool b) = some (decide (a = b)) := by cases a <;> cases b <;> rfl
@[simp] theorem oNe_b (a b : Bool) : oNe (.bool a) (.bool b) = some (!decide (a = b)) := by cases a <;> cases b <;> rfl
@[simp] theorem oEq_ss (s : Str) : oEq (.str s) (.str s) = some true := by
  show some (PyData.eqv (.str s) (.str s)) = some true
  simp [PyData.eqv]
theorem boolsD_map (xs : List PyData) : boolsD (xs.map fun _ => .bool true) = some (xs.map fun _ => true) := by
  induction xs with
  | nil => rfl
  | cons x r ih => rw [List.map_cons, boolsD, ih]; rfl
theorem oAll_map (xs : List PyData) : oAll (.list (xs.map fun _ => .bool true)) = some (.bool true) := by
  show (boolsD _).map _ = _
  rw [boolsD_map]
  simp
@[simp] theorem isNone_b (a : Bool) : isNone (.bool a) = false := rfl
@[simp] theorem isNone_s (a : Str) : isNone (.str a) = false := rfl
@[simp] theorem mLc_ap (vs : List Nat) (mi : M (List PyData)) (g : PyData → M Unit) (t : M Bool) (e : M PyData) (ρ : Sl) : mLc vs mi g t e ρ = (mi ρ).then fun xs => fun ρ => if noOwn vs ρ then (match mLcL vs g t e xs [] (wipeS ρ vs) with
    | .ok acc ρ' => .ok (.l acc) (restS vs ρ ρ')
    | .err _ _ => .stuck
    | .stuck => .stuck) else .stuck := rfl
@[simp] theorem mZip_ap (m m' : M PyData) (ρ : Sl) : mZip m m' ρ = (m ρ).then fun x => M.bind m' fun y => M.of (oZip x y) := rfl
@[simp] theorem oZip_l (xs ys : List PyData) : oZip (.list xs) (.list ys) = some (zipL xs ys) := rfl
@[simp] theorem oZip_t (xs ys : List PyData) : oZip (.tuple xs) (.tuple ys) = some (zipL xs ys) := rfl
/-- how deep data is nested -/
def dep : PyData → Nat
  | .list xs => depL xs + 1
  | .tuple xs => depL xs + 1
  | _ => 0
where depL : List PyData → Nat
  | [] => 0
  | x :: r => max (dep x) (depL r)
def plainD : PyData → Bool
  | .list xs => decide (xs.length ≤ sizeLine) && plainL xs
  | .tuple xs => decide (xs.length ≤ sizeLine) && plainL xs
  | .dict _ => false
  | _ => true
where plainL : List PyData → Bool
  | [] => true
  | x :: r => plainD x && plainL r
end DL
namespace DL
open PySem PySem.Spec L2
theorem shlOk_b {i k : Int} {p : Nat} (h0 : 0 ≤ k) (hi : Builtin.Int.intBits i ≤ p) (h : (p : Int) + k ≤ 134217728) : shlOk i k = true := by
  unfold shlOk
  rw [Bool.and_eq_true]
  exact ⟨decide_eq_true h0, decide_eq_true (by omega)⟩
theorem shlOk_1 {k : Int} (h0 : 0 ≤ k) (h1 : k ≤ 100000000) : shlOk 1 k = true := shlOk_b (p := 1) h0 (by decide) (by omega)
theorem atI_nat {α : Type} {xs : List α} {v : Int} (h : 0 ≤ v) (hv : v.toNat < xs.length) : atI xs v = some (xs[v.toNat]) := by
  unfold atI ixN
  rw [if_pos h, if_pos (by omega)]
  simp [hv]
end DL
namespace DL
open PySem PySem.Spec L2
/-! ## loops by an invariant -/
theorem sForL_inv {g : PyData → M Unit} {b : M Fl} : ∀ {xs : List PyData} {ρ : Sl} (I : Nat → Sl → Prop), I 0 ρ →
    (∀ i x ρ, xs[i]? = some x → I i ρ → ∃ ρ', M.bind (g x) (fun _ => b) ρ = .ok .nx ρ' ∧ I (i + 1) ρ') → ∃ ρ', sForL g b xs ρ = .ok .nx ρ' ∧ I xs.length ρ'
  | [], ρ, I, h0, _ => ⟨ρ, rfl, h0⟩
  | x :: r, ρ, I, h0, hs => by
    obtain ⟨ρ1, e1, h1⟩ := hs 0 x ρ rfl h0
    obtain ⟨ρ2, e2, h2⟩ := sForL_inv (g := g) (b := b) (xs := r) (ρ := ρ1) (fun i => I (i + 1)) h1 fun i y ρ' hy hi => hs (i + 1) y ρ' (by simpa using hy) hi
    refine ⟨ρ2, ?_, h2⟩
    have e1' : (g x ρ).then (fun _ => b) = .ok .nx ρ1 := e1
    show (g x ρ).then (fun _ => M.bind b fun fl => match fl with
      | .nx => sForL g b r
      | .ct => sForL g b r
      | .bk => M.pure .nx
      | .rt c => M.pure (.rt c)) = _
    cases hg : g x ρ with
    | ok u ρ0 =>
      rw [hg] at e1'
      have e3 : b ρ0 = .ok .nx ρ1 := e1'
      show (b ρ0).then _ = _
      rw [e3]
      exact e2
    | err e ρ0 => rw [hg] at e1'; cases e1'
    | stuck => rw [hg] at e1'; cases e1'
/-- one turn of a comprehension -/
def lcStep (g : PyData → M Unit) (t : M Bool) (e : M PyData) (x : PyData) : M (Option PyData) := M.bind (g x) fun _ => M.bind t fun k => if k = true then M.bind e fun y => M.pure (some y) else M.pure none
theorem mLcL_step {vs : List Nat} {g : PyData → M Unit} {t : M Bool} {e : M PyData} {x : PyData} {r acc : List PyData} {ρ ρ' : Sl} {o : Option PyData} (h : lcStep g t e x ρ = .ok o ρ') (hl : acc.length < sizeLine) :
    mLcL vs g t e (x :: r) acc ρ = mLcL vs g t e r (acc ++ o.toList) (wipeS ρ' vs) := by
  have h' : (g x ρ).then (fun _ => M.bind t fun k => if k = true then M.bind e fun y => M.pure (some y) else M.pure none) = .ok o ρ' := h
  show (g x ρ).then (fun _ => M.bind t fun k => if k = true then M.bind e fun y => fun ρ => if acc.length < sizeLine then mLcL vs g t e r (acc ++ [y]) (wipeS ρ vs) else .stuck else fun ρ => mLcL vs g t e r acc (wipeS ρ vs)) = _
  cases hg : g x ρ with
  | ok u ρ0 =>
    rw [hg] at h'
    have h2 : (t ρ0).then (fun k => if k = true then M.bind e fun y => M.pure (some y) else M.pure none) = .ok o ρ' := h'
    show (t ρ0).then _ = _
    cases ht : t ρ0 with
    | ok k ρ1 =>
      rw [ht] at h2
      cases k with
      | false =>
        cases h2
        rw [then_ok, if_neg Bool.false_ne_true, Option.toList_none, List.append_nil]
      | true =>
        have h3 : (e ρ1).then (fun y => M.pure (some y)) = .ok o ρ' := h2
        show (e ρ1).then (fun y => fun ρ => if acc.length < sizeLine then mLcL vs g t e r (acc ++ [y]) (wipeS ρ vs) else .stuck) = _
        cases he : e ρ1 with
        | ok y ρ2 =>
          rw [he] at h3
          cases h3
          show (if acc.length < sizeLine then _ else _) = _
          rw [if_pos hl]
          rfl
        | err _ _ => rw [he] at h3; cases h3
        | stuck => rw [he] at h3; cases h3
    | err _ _ => rw [ht] at h2; cases h2
    | stuck => rw [ht] at h2; cases h2
  | err _ _ => rw [hg] at h'; cases h'
  | stuck => rw [hg] at h'; cases h'
theorem mLcL_inv {vs : List Nat} {g : PyData → M Unit} {t : M Bool} {e : M PyData} : ∀ {xs acc : List PyData} {ρ : Sl} (I : Nat → List PyData → Sl → Prop), I 0 acc ρ → acc.length + xs.length ≤ sizeLine →
    (∀ i x acc ρ, xs[i]? = some x → I i acc ρ → ∃ o ρ', lcStep g t e x ρ = .ok o ρ' ∧ I (i + 1) (acc ++ o.toList) (wipeS ρ' vs)) → ∃ acc' ρ', mLcL vs g t e xs acc ρ = .ok acc' ρ' ∧ I xs.length acc' ρ'
  | [], acc, ρ, I, h0, _, _ => ⟨acc, ρ, rfl, h0⟩
  | x :: r, acc, ρ, I, h0, hl, hs => by
    obtain ⟨o, ρ1, e1, h1⟩ := hs 0 x acc ρ rfl h0
    rw [List.length_cons] at hl
    have ho : o.toList.length ≤ 1 := by cases o <;> simp
    obtain ⟨acc2, ρ2, e2, h2⟩ := mLcL_inv (vs := vs) (g := g) (t := t) (e := e) (xs := r) (acc := acc ++ o.toList) (ρ := wipeS ρ1 vs) (fun i => I (i + 1)) h1 (by rw [List.length_append]; omega) fun i y acc ρ' hy hi => hs (i + 1) y acc ρ' (by simpa using hy) hi
    exact ⟨acc2, ρ2, by rw [mLcL_step e1 (by omega)]; exact e2, h2⟩
@[simp] theorem sFor_ap (mi : M (List PyData)) (g : PyData → M Unit) (b : M Fl) (ρ : Sl) : sFor mi g b ρ = (mi ρ).then fun xs => sForL g b xs := rfl
@[simp] theorem mEnum_ap (m : M PyData) (ρ : Sl) : mEnum m ρ = (m ρ).then fun x => M.of (oEnum x) := rfl
@[simp] theorem oEnum_l (xs : List PyData) : oEnum (.list xs) = some (enumL xs) := rfl
@[simp] theorem mItems_ap (m : M PyData) (ρ : Sl) : mItems m ρ = (m ρ).then fun x => M.of (items x) := rfl
@[simp] theorem items_l (xs : List PyData) : items (.list xs) = some xs := rfl
@[simp] theorem items_t (xs : List PyData) : items (.tuple xs) = some xs := rfl
@[simp] theorem mRng1_ap (m : M PyData) (ρ : Sl) : mRng1 m ρ = (m ρ).then fun x => M.of (oRng1 x) := rfl
@[simp] theorem mRng2_ap (m m' : M PyData) (ρ : Sl) : mRng2 m m' ρ = (m ρ).then fun x => M.bind m' fun y => M.of (oRng2 x y) := rfl
theorem oRng1_i {j : Int} (h : -4611686018427387904 ≤ j) (h2 : j < 4611686018427387904) : oRng1 (.int j) = some (intsL 0 j.toNat) := by
  show (if -(2 ^ 62) ≤ j ∧ j < 2 ^ 62 then some (intsL 0 j.toNat) else none) = _
  rw [if_pos ⟨by omega, by omega⟩]
@[simp] theorem mSl_ap (m : M PyData) (lo hi : M (Option Int)) (ρ : Sl) : mSl m lo hi ρ = (m ρ).then fun x => M.bind lo fun l => M.bind hi fun u => M.of (oSl x l u) := rfl
@[simp] theorem pNo_ap (ρ : Sl) : pNo ρ = .ok none ρ := rfl
@[simp] theorem pInt_ap (m : M PyData) (ρ : Sl) : pInt m ρ = (m ρ).then fun d => match d with
  | .int i => M.pure (some i)
  | _ => M.stuck := rfl
@[simp] theorem oSl_l (xs : List PyData) (lo hi : Option Int) : oSl (.list xs) lo hi = some (.l (cutL xs lo hi)) := rfl
@[simp] theorem oSl_t (xs : List PyData) (lo hi : Option Int) : oSl (.tuple xs) lo hi = some (.d (.tuple (cutL xs lo hi))) := rfl
@[simp] theorem mOrC_ap (a b : M C) (ρ : Sl) : mOrC a b ρ = (a ρ).then fun c => match truC c with
  | some true => M.pure c
  | some false => b
  | none => M.stuck := rfl
@[simp] theorem truC_l (xs : List PyData) : truC (.l xs) = some (!xs.isEmpty) := rfl
@[simp] theorem oListC_l (xs : List PyData) : oListC (.list xs) = some (.l xs) := rfl
@[simp] theorem oListC_t (xs : List PyData) : oListC (.tuple xs) = some (.l xs) := rfl
theorem cut_hi {α : Type} {xs : List α} {k : Int} (h : 0 ≤ k) : cutL xs none (some k) = xs.take k.toNat := by
  unfold cutL
  rw [HT.sIx_none, List.drop_zero, Nat.sub_zero]
  obtain ⟨n, rfl⟩ := Int.eq_ofNat_of_zero_le h
  rw [HT.sIx_nat, Int.toNat_natCast, ← List.take_eq_take_min]
theorem mem_cut {α : Type} {xs : List α} {lo hi : Option Int} {x : α} (h : x ∈ cutL xs lo hi) : x ∈ xs := List.mem_of_mem_drop (List.mem_of_mem_take h)
theorem enumL_at' {xs : List PyData} {i : Nat} {d : PyData} (h : (enumL xs)[i]? = some d) : ∃ x, xs[i]? = some x ∧ d = .tuple [.int (i : Int), x] := by
  unfold enumL at h
  rw [List.getElem?_zipWith] at h
  cases e : xs[i]? with
  | none => rw [e] at h; cases h1 : (List.range xs.length)[i]? <;> (rw [h1] at h; cases h)
  | some x =>
    have hi := (List.getElem?_eq_some_iff.mp e).1
    rw [e, List.getElem?_range hi] at h
    exact ⟨x, rfl, (Option.some.inj h).symm⟩
theorem intsL_at {lo : Int} {n i : Nat} {d : PyData} (h : (intsL lo n)[i]? = some d) : i < n ∧ d = .int (lo + i) := by
  unfold intsL at h
  have hi : i < n := by
    have := (List.getElem?_eq_some_iff.mp h).1
    rwa [List.length_map, List.length_range] at this
  rw [List.getElem?_map, List.getElem?_range hi] at h
  exact ⟨hi, (Option.some.inj h).symm⟩
@[simp] theorem intsL_len (lo : Int) (n : Nat) : (intsL lo n).length = n := by unfold intsL; rw [List.length_map, List.length_range]
end DL
namespace DL
open PySem PySem.Spec L2
theorem bits_nat (x : Int) : Builtin.Int.intBits x = if x.natAbs = 0 then 0 else x.natAbs.log2 + 1 := by
  unfold Builtin.Int.intBits
  by_cases h : x = 0
  · subst h; rfl
  · have h1 : (x == 0) = false := by simpa using h
    have h2 : x.natAbs ≠ 0 := by omega
    rw [h1, if_neg Bool.false_ne_true, if_neg h2]
theorem bits_abs {x : Int} : Builtin.Int.intBits (if x < 0 then -x else x) = Builtin.Int.intBits x := by
  by_cases h : x < 0
  · rw [if_pos h, bits_nat, bits_nat, Int.natAbs_neg]
  · rw [if_neg h]
theorem bits_mod {a k : Int} {p : Nat} (hk : 0 < k) (h : Builtin.Int.intBits k ≤ p) : Builtin.Int.intBits (a % k) ≤ p := by
  rw [bits_le] at *
  have h1 := Int.emod_nonneg a (Int.ne_of_gt hk)
  have h2 := Int.emod_lt_of_pos a hk
  omega
theorem bits_small {i : Int} (h1 : -1000000000000 ≤ i) (h2 : i ≤ 1000000000000) : Builtin.Int.intBits i ≤ 41 := by
  rw [bits_le]
  have e : (2 : Nat) ^ 41 = 2199023255552 := by decide +kernel
  rw [e]
  omega
end DL
namespace DL
open PySem PySem.Spec L2
theorem ixOf_nat {n : Nat} {v : Int} (h : 0 ≤ v) (hv : v < n) : ixOf n (.int v) = some v.toNat := by
  show ixN n v = _
  unfold ixN
  rw [if_pos h, if_pos hv]
theorem atI_ints {xs : List Int} {v : Int} (h : 0 ≤ v) (hv : v.toNat < xs.length) : atI (xs.map PyData.int) v = some (.int (xs[v.toNat])) := by
  rw [atI_nat h (by rw [List.length_map]; exact hv), List.getElem_map]
theorem mapI_set {xs : List Int} {k : Nat} {v : Int} : (xs.map PyData.int).set k (.int v) = (xs.set k v).map PyData.int := by rw [List.map_set]
theorem mem_ints {xs : List Int} {lo hi : Option Int} {d : PyData} (h : d ∈ cutL (xs.map PyData.int) lo hi) : ∃ z ∈ xs, d = .int z := by
  obtain ⟨z, hz, e⟩ := List.mem_map.mp (mem_cut h)
  exact ⟨z, hz, e.symm⟩
theorem cut_len0 {α : Type} {xs : List α} {m : Int} {hi : Option Int} (h0 : 0 ≤ m) (h : (xs.length : Int) ≤ m) : cutL xs (some m) hi = [] := by
  unfold cutL
  obtain ⟨n, rfl⟩ := Int.eq_ofNat_of_zero_le h0
  rw [HT.sIx_nat, List.drop_eq_nil_of_le (by omega), List.take_nil]
theorem cut_len {α : Type} {xs : List α} {lo hi : Option Int} : (cutL xs lo hi).length ≤ xs.length := by
  unfold cutL
  rw [List.length_take, List.length_drop]
  omega
end DL
namespace DL
theorem two_le_pow {n : Nat} (h : 1 ≤ n) : (2 : Int) ≤ 2 ^ n := by
  obtain ⟨m, rfl⟩ := Nat.exists_eq_add_of_le h
  rw [Nat.add_comm, Int.pow_succ]
  have : (1 : Int) ≤ 2 ^ m := (show (0 : Int) < _ from Int.pow_pos (by decide))
  omega
theorem one_le_pow (n : Nat) : (1 : Int) ≤ 2 ^ n := (show (0 : Int) < _ from Int.pow_pos (by decide))
theorem pow_le_pow {n m : Nat} (h : n ≤ m) : (2 : Int) ^ n ≤ 2 ^ m := by
  obtain ⟨k, rfl⟩ := Nat.exists_eq_add_of_le h
  rw [Int.pow_add]
  have h1 := one_le_pow n
  have h2 := one_le_pow k
  have := Int.mul_le_mul_of_nonneg_left h2 (by omega : 0 ≤ (2 : Int) ^ n)
  omega
theorem pow_le64 {n : Nat} (h : n ≤ 64) : (2 : Int) ^ n ≤ 18446744073709551616 := pow_le_pow h
end DL
namespace DL
open PySem PySem.Spec L2
theorem sizeL_lt {n : Nat} (h : n ≤ 1000) : n < sizeLine := Nat.lt_of_le_of_lt h (by decide)
theorem atI_last (xs : List Int) (y : Int) : atI ((xs ++ [y]).map PyData.int) (-1) = some (.int y) := by
  unfold atI ixN
  have hl : ((xs ++ [y]).map PyData.int).length = xs.length + 1 := by simp
  rw [hl, if_neg (by decide), if_pos (by omega)]
  have e : (-1 + ((xs.length + 1 : Nat) : Int)).toNat = xs.length := by omega
  show ((xs ++ [y]).map PyData.int)[(-1 + ((xs.length + 1 : Nat) : Int)).toNat]? = _
  rw [e]
  simp
end DL
namespace DL
open PySem PySem.Spec L2
theorem sWhileN_mono {t : M Bool} {b : M Fl} : ∀ {n m : Nat} {ρ : Sl}, n ≤ m → ¬ (sWhileN t b n ρ).bad → sWhileN t b m ρ = sWhileN t b n ρ
  | 0, _, ρ, _, h => absurd trivial h
  | n + 1, 0, ρ, h, _ => absurd h (Nat.not_succ_le_zero _)
  | n + 1, m + 1, ρ, hl, h => by
    have go : ∀ k, sWhileN t b (k + 1) ρ = (t ρ).then fun c => if c = true then M.bind b fun fl => match fl with
      | .nx => sWhileN t b k
      | .ct => sWhileN t b k
      | .bk => M.pure .nx
      | .rt c => M.pure (.rt c)
      else M.pure .nx := fun k => rfl
    rw [go n] at h ⊢
    rw [go m]
    cases ht : t ρ with
    | err e ρ1 => rfl
    | stuck => rfl
    | ok c ρ1 =>
      rw [ht] at h
      cases c with
      | false => rfl
      | true =>
        have go2 : ∀ k, ((Res.ok true ρ1).then fun c => if c = true then M.bind b fun fl => match fl with
          | .nx => sWhileN t b k
          | .ct => sWhileN t b k
          | .bk => M.pure .nx
          | .rt c => M.pure (.rt c)
          else M.pure .nx) = (b ρ1).then fun fl => match fl with
          | .nx => sWhileN t b k
          | .ct => sWhileN t b k
          | .bk => M.pure .nx
          | .rt c => M.pure (.rt c) := fun k => rfl
        rw [go2 n] at h ⊢
        rw [go2 m]
        cases hb : b ρ1 with
        | err e ρ2 => rfl
        | stuck => rfl
        | ok fl ρ2 =>
          rw [hb] at h
          cases fl with
          | nx => exact sWhileN_mono (Nat.le_of_succ_le_succ hl) h
          | ct => exact sWhileN_mono (Nat.le_of_succ_le_succ hl) h
          | bk => rfl
          | rt c => rfl
theorem sWhile_eq {t : M Bool} {b : M Fl} {n : Nat} {ρ ρ' : Sl} {fl : Fl} (h : sWhileN t b n ρ = .ok fl ρ') : sWhile t b ρ = .ok fl ρ' := by
  have hn : ¬ (sWhileN t b n ρ).bad := by rw [h]; exact fun z => z
  unfold sWhile
  have hx : ∃ n, ¬ (sWhileN t b n ρ).bad := ⟨n, hn⟩
  rw [dif_pos hx]
  have hc := hx.choose_spec
  rcases Nat.le_total n hx.choose with l | l
  · rw [sWhileN_mono l hn, h]
  · rw [← sWhileN_mono l hc, h]
end DL
namespace DL
open PySem PySem.Spec L2
theorem seq_ok {a b : M Fl} {ρ ρ1 : Sl} (h : a ρ = .ok .nx ρ1) : sSeq a b ρ = b ρ1 := by
  rw [sSeq_ap, h]; rfl
theorem bind_ok {α β : Type} {a : M α} {f : α → M β} {ρ ρ1 : Sl} {x : α} (h : a ρ = .ok x ρ1) : M.bind a f ρ = f x ρ1 := by
  rw [bind_ap, h]; rfl
theorem plain_1 (a : Int) : plainD (.int a) = true := rfl
theorem size3 : 3 ≤ sizeLine := by decide
theorem plain_l2 (a b : Int) : plainD (.list [.int a, .int b]) = true := by
  show (decide (2 ≤ sizeLine) && true) = true
  rw [Bool.and_true]; decide
theorem plain_l3 (a b c : Int) : plainD (.list [.int a, .int b, .int c]) = true := by
  show (decide (3 ≤ sizeLine) && true) = true
  rw [Bool.and_true]; decide
theorem dep_l2 (a b : Int) : dep (.list [.int a, .int b]) = 1 := rfl
theorem dep_l3 (a b c : Int) : dep (.list [.int a, .int b, .int c]) = 1 := rfl
end DL
namespace DL
open PySem PySem.Spec L2
theorem rgOk_s {j : Int} (h0 : 0 ≤ j) (h : j ≤ 16777216) : rgOk 0 j = true := by
  unfold rgOk
  simp only [Bool.and_eq_true, decide_eq_true_eq]
  refine ⟨⟨⟨⟨by decide, by decide⟩, by omega⟩, by omega⟩, by omega⟩
theorem rgL_mem {a b : Int} {g : PyData} (h : g ∈ rgL a b) : ∃ x : Int, g = .int x ∧ a ≤ x ∧ x < b := by
  unfold rgL at h
  obtain ⟨i, hi, rfl⟩ := List.mem_map.mp h
  have := List.mem_range.mp hi
  exact ⟨_, rfl, by omega, by omega⟩
@[simp] theorem mLstRg1_ap (m : M PyData) (ρ : Sl) : mLstRg1 m ρ = (m ρ).then fun x => M.of (match x with
  | .int j => if rgOk 0 j then some (.l (rgL 0 j)) else none
  | _ => none) := rfl
@[simp] theorem mCat_ap (a b : M C) (ρ : Sl) : mCat a b ρ = (a ρ).then fun x => M.bind b fun y => M.of (oCat x y) := rfl
theorem oCat_l {xs ys : List PyData} (h : xs.length + ys.length ≤ sizeLine) : oCat (.l xs) (.l ys) = some (.l (xs ++ ys)) := by
  show (if xs.length + ys.length ≤ sizeLine then some (C.l (xs ++ ys)) else none) = _
  rw [if_pos h]
end DL

set_option linter.all false
set_option maxRecDepth 100000
namespace DL
open PySem PySem.Spec L2
/-! ## whole numbers -/
/-- a and b leave the same over m -/
def Cg (m a b : Int) : Prop := ∃ k, a = b + k * m
namespace Cg
variable {m a b c d : Int}
theorem refl (m a : Int) : Cg m a a := ⟨0, by omega⟩
theorem symm (h : Cg m a b) : Cg m b a := by
  obtain ⟨k, e⟩ := h
  exact ⟨-k, by rw [Int.neg_mul]; omega⟩
theorem trans (h : Cg m a b) (h' : Cg m b c) : Cg m a c := by
  obtain ⟨k, e⟩ := h
  obtain ⟨l, e'⟩ := h'
  exact ⟨k + l, by rw [Int.add_mul]; omega⟩
theorem add (h : Cg m a b) (h' : Cg m c d) : Cg m (a + c) (b + d) := by
  obtain ⟨k, e⟩ := h
  obtain ⟨l, e'⟩ := h'
  exact ⟨k + l, by rw [Int.add_mul]; omega⟩
theorem mul (h : Cg m a b) (h' : Cg m c d) : Cg m (a * c) (b * d) := by
  obtain ⟨k, rfl⟩ := h
  obtain ⟨l, rfl⟩ := h'
  exact ⟨b * l + k * d + k * m * l, by grind⟩
theorem neg (h : Cg m a b) : Cg m (-a) (-b) := by
  obtain ⟨k, e⟩ := h
  exact ⟨-k, by rw [Int.neg_mul]; omega⟩
theorem sub (h : Cg m a b) (h' : Cg m c d) : Cg m (a - c) (b - d) := by
  have := h.add h'.neg
  exact this
theorem mod (m a : Int) : Cg m (a % m) a := ⟨-(a / m), by have := Int.emod_add_mul_ediv a m; rw [Int.neg_mul, Int.mul_comm (a / m)]; omega⟩
theorem eq (h : Cg m a b) : a % m = b % m := by
  obtain ⟨k, rfl⟩ := h
  exact Int.add_mul_emod_self_right b k m
theorem of_eq (h : a % m = b % m) : Cg m a b := (mod m a).symm.trans (h ▸ mod m b)
theorem self (m k : Int) : Cg m (k * m) 0 := ⟨k, by omega⟩
theorem pow (h : Cg m a b) : ∀ n : Nat, Cg m (a ^ n) (b ^ n)
  | 0 => by rw [Int.pow_zero, Int.pow_zero]; exact refl _ _
  | n + 1 => by rw [Int.pow_succ, Int.pow_succ]; exact (pow h n).mul h
theorem dvd {n : Int} (h : Cg n a b) (d : ∃ k, n = k * m) : Cg m a b := by
  obtain ⟨k, rfl⟩ := h
  obtain ⟨l, rfl⟩ := d
  exact ⟨k * l, by grind⟩
theorem small (h : Cg m a b) (h0 : 0 ≤ a) (h1 : a < m) (h2 : 0 ≤ b) (h3 : b < m) : a = b := by
  have e := h.eq
  rwa [Int.emod_eq_of_lt h0 h1, Int.emod_eq_of_lt h2 h3] at e
/-- what has an inverse may be left out -/
theorem cancel {r u : Int} (hu : Cg m (r * u) 1) (h : Cg m (a * r) (b * r)) : Cg m a b := by
  have h1 : Cg m (a * r * u) (b * r * u) := h.mul (refl m u)
  have e1 : a * r * u = a * (r * u) := Int.mul_assoc ..
  have e2 : b * r * u = b * (r * u) := Int.mul_assoc ..
  rw [e1, e2] at h1
  have h2 : Cg m (a * (r * u)) a := by have := (refl m a).mul hu; rwa [Int.mul_one] at this
  have h3 : Cg m (b * (r * u)) b := by have := (refl m b).mul hu; rwa [Int.mul_one] at this
  exact (h2.symm.trans h1).trans h3
end Cg
theorem land_mask (x k : Nat) : x &&& (2 ^ k - 1) = x % 2 ^ k := Nat.and_two_pow_sub_one_eq_mod x k
theorem toNat_mask (k : Nat) : ((2 : Int) ^ k - 1).toNat = 2 ^ k - 1 := by
  have e : ((2 ^ k : Nat) : Int) = (2 : Int) ^ k := by norm_cast
  omega
/-- the low bits, of a number of either sign -/
theorem bitAnd_mod (x : Int) (k : Nat) : Builtin.bitAnd x (2 ^ k - 1) = x % 2 ^ k := by
  have e : ((2 ^ k : Nat) : Int) = (2 : Int) ^ k := by norm_cast
  have hp := one_le_pow k
  by_cases hx : 0 ≤ x
  · rw [PyProof.Rows.bitAnd_pp hx (by omega), toNat_mask, land_mask, Int.natCast_emod, e, Int.toNat_of_nonneg hx]
  · have hn : Builtin.bitNot x = -x - 1 := by
      show -x - 1 = -x - 1
      rfl
    rw [PyProof.Rows.bitAnd_np hx (by omega), hn, toNat_mask, Nat.and_comm, land_mask]
    have h1 : (((-x - 1).toNat % 2 ^ k : Nat) : Int) = (-x - 1) % 2 ^ k := by
      rw [Int.natCast_emod, e, Int.toNat_of_nonneg (by omega)]
    rw [h1]
    have a1 := Int.emod_nonneg (-x - 1) (b := (2 : Int) ^ k) (by omega)
    have a2 := Int.emod_lt_of_pos (-x - 1) (b := (2 : Int) ^ k) (by omega)
    have b1 := Int.emod_nonneg x (b := (2 : Int) ^ k) (by omega)
    have b2 := Int.emod_lt_of_pos x (b := (2 : Int) ^ k) (by omega)
    have c1 : Cg (2 ^ k) ((-x - 1) % 2 ^ k) (-x - 1) := Cg.mod _ _
    have c2 : Cg (2 ^ k) (x % 2 ^ k) x := Cg.mod _ _
    refine Cg.small (m := 2 ^ k) ?_ (by omega) (by omega) b1 b2
    obtain ⟨u, hu⟩ := c1
    obtain ⟨v, hv⟩ := c2
    exact ⟨1 - u - v, by rw [hu, hv, Int.sub_mul, Int.sub_mul, Int.one_mul]; omega⟩
end DL
namespace DL
open PySem PySem.Spec L2
theorem bitOr_one (d : Int) : Builtin.bitOr d 1 = d + 1 - d % 2 := by
  rw [PyProof.Rows.bitOr_and]
  have := bitAnd_mod d 1
  rw [show (2 : Int) ^ 1 - 1 = 1 from rfl, show (2 : Int) ^ 1 = 2 from rfl] at this
  rw [this]
end DL

set_option linter.all false
set_option maxRecDepth 100000
namespace DL
open PySem PySem.Spec L2
/-! ### items of short rows -/
@[simp] theorem at_1_0 (a : PyData) : atI [a] 0 = some a := rfl
@[simp] theorem at_2_0 (a b : PyData) : atI [a, b] 0 = some a := rfl
@[simp] theorem at_2_1 (a b : PyData) : atI [a, b] 1 = some b := rfl
@[simp] theorem at_3_0 (a b c : PyData) : atI [a, b, c] 0 = some a := rfl
@[simp] theorem at_3_1 (a b c : PyData) : atI [a, b, c] 1 = some b := rfl
@[simp] theorem at_3_2 (a b c : PyData) : atI [a, b, c] 2 = some c := rfl
@[simp] theorem at_4_0 (a b c d : PyData) : atI [a, b, c, d] 0 = some a := rfl
@[simp] theorem at_4_1 (a b c d : PyData) : atI [a, b, c, d] 1 = some b := rfl
@[simp] theorem at_4_2 (a b c d : PyData) : atI [a, b, c, d] 2 = some c := rfl
@[simp] theorem at_4_3 (a b c d : PyData) : atI [a, b, c, d] 3 = some d := rfl
@[simp] theorem at_5_0 (a b c d e : PyData) : atI [a, b, c, d, e] 0 = some a := rfl
@[simp] theorem at_5_1 (a b c d e : PyData) : atI [a, b, c, d, e] 1 = some b := rfl
@[simp] theorem at_5_2 (a b c d e : PyData) : atI [a, b, c, d, e] 2 = some c := rfl
@[simp] theorem at_5_3 (a b c d e : PyData) : atI [a, b, c, d, e] 3 = some d := rfl
@[simp] theorem at_5_4 (a b c d e : PyData) : atI [a, b, c, d, e] 4 = some e := rfl
theorem at_0 (a : PyData) (r : List PyData) : atI (a :: r) 0 = some a := atI_nat (by decide) (by simp)
/-! ### sizes -/
theorem bits_l {i : Int} (h1 : -1000000000000000000000000000000000000000000000000000000000000000000000000000000000000000000 < i) (h2 : i < 1000000000000000000000000000000000000000000000000000000000000000000000000000000000000000000) : Builtin.Int.intBits i ≤ 300 := by
  rw [bits_le]
  have e : (2 : Nat) ^ 300 = 2037035976334486086268445688409378161051468393665936250636140449354381299763336706183397376 := by decide +kernel
  rw [e]
  omega
/-- below 10^90 -/
theorem mulOk_l {i j : Int} (h1 : -1000000000000000000000000000000000000000000000000000000000000000000000000000000000000000000 < i) (h2 : i < 1000000000000000000000000000000000000000000000000000000000000000000000000000000000000000000) (h3 : -1000000000000000000000000000000000000000000000000000000000000000000000000000000000000000000 < j) (h4 : j < 1000000000000000000000000000000000000000000000000000000000000000000000000000000000000000000) : mulOk i j = true := mulOk_of (bits_l h1 h2) (bits_l h3 h4) (by decide)
theorem divOk_l {j : Int} (h0 : 0 < j) (h : j < 1000000000000000000000000000000000000000000000000000000000000000000000000000000000000000000) : divOk j = true := divOk_b h0 (bits_l (by omega) h) (by decide)
theorem bnd {a b A B : Int} (h0 : 0 ≤ a) (h1 : a ≤ A) (h2 : 0 ≤ b) (h3 : b ≤ B) : 0 ≤ a * b ∧ a * b ≤ A * B :=
  ⟨Int.mul_nonneg h0 h2, Int.le_trans (Int.mul_le_mul_of_nonneg_right h1 h2) (Int.mul_le_mul_of_nonneg_left h3 (by omega))⟩
theorem pow_le128 {n : Nat} (h : n ≤ 128) : (2 : Int) ^ n ≤ 340282366920938463463374607431768211456 := pow_le_pow h
theorem pow_mono {a b : Int} (h0 : 0 ≤ a) (h : a ≤ b) : ∀ n : Nat, a ^ n ≤ b ^ n
  | 0 => by rw [Int.pow_zero, Int.pow_zero]; exact Int.le_refl _
  | n + 1 => by
    rw [Int.pow_succ, Int.pow_succ]
    have p : 0 ≤ a ^ n := Int.pow_nonneg h0
    have a1 := Int.mul_le_mul_of_nonneg_left h p
    have a2 := Int.mul_le_mul_of_nonneg_right (pow_mono h0 h n) (by omega : 0 ≤ b)
    omega
theorem div_b {a b A : Int} (h0 : 0 ≤ a) (h1 : a ≤ A) (h2 : 0 < b) : 0 ≤ a / b ∧ a / b ≤ A := by
  have := Int.ediv_nonneg h0 (Int.le_of_lt h2)
  have := Int.ediv_le_self b h0
  omega
theorem mod_b (a : Int) {b : Int} (h : 0 < b) : 0 ≤ a % b ∧ a % b < b := ⟨Int.emod_nonneg a (by omega), Int.emod_lt_of_pos a h⟩
theorem ok_if {α : Type} {c : Prop} [Decidable c] {a b : α} {ρ : Sl} : (if c then (Res.ok a ρ) else Res.ok b ρ) = Res.ok (if c then a else b) ρ := by split <;> rfl
@[simp high] theorem oMin_m (i j : Int) : oMin (.int i) (.int j) = some (.int (min i j)) := by
  show some (PyData.int _) = _
  congr 2
  split <;> omega
@[simp high] theorem oMax_m (i j : Int) : oMax (.int i) (.int j) = some (.int (max i j)) := by
  show some (PyData.int _) = _
  congr 2
  split <;> omega
/-! ### strings -/
theorem oEq_str (a b : Str) : oEq (.str a) (.str b) = some (a == b) := by
  show some (PyData.eqv (.str a) (.str b)) = _
  simp [PyData.eqv]
/-! ### loops that may break off or return -/
theorem sForL_ex {g : PyData → M Unit} {b : M Fl} : ∀ {xs : List PyData} {ρ : Sl} (I : Nat → Sl → Prop) (J : Fl → Sl → Prop), I 0 ρ →
    (∀ i x ρ, xs[i]? = some x → I i ρ → ∃ fl ρ', M.bind (g x) (fun _ => b) ρ = .ok fl ρ' ∧ ((fl = .nx ∨ fl = .ct) ∧ I (i + 1) ρ' ∨ fl = .bk ∧ J .nx ρ' ∨ ∃ c, fl = .rt c ∧ J (.rt c) ρ')) →
    ∃ fl ρ', sForL g b xs ρ = .ok fl ρ' ∧ (fl = .nx ∧ I xs.length ρ' ∨ J fl ρ')
  | [], ρ, I, J, h0, _ => ⟨.nx, ρ, rfl, .inl ⟨rfl, h0⟩⟩
  | x :: r, ρ, I, J, h0, hs => by
    obtain ⟨fl, ρ1, e1, h1⟩ := hs 0 x ρ rfl h0
    have e1' : (g x ρ).then (fun _ => b) = .ok fl ρ1 := e1
    have go : ∀ R, (match fl with
      | .nx => sForL g b r
      | .ct => sForL g b r
      | .bk => M.pure .nx
      | .rt c => M.pure (.rt c) : M Fl) ρ1 = R → sForL g b (x :: r) ρ = R := fun R hR => by
      show (g x ρ).then (fun _ => M.bind b fun fl => match fl with
        | .nx => sForL g b r
        | .ct => sForL g b r
        | .bk => M.pure .nx
        | .rt c => M.pure (.rt c)) = _
      cases hg : g x ρ with
      | ok u ρ0 =>
        rw [hg] at e1'
        have e3 : b ρ0 = .ok fl ρ1 := e1'
        show (b ρ0).then _ = _
        rw [e3]
        exact hR
      | err e ρ0 => rw [hg] at e1'; cases e1'
      | stuck => rw [hg] at e1'; cases e1'
    have nxt : I 1 ρ1 → ∃ fl ρ', sForL g b r ρ1 = .ok fl ρ' ∧ (fl = .nx ∧ I (x :: r).length ρ' ∨ J fl ρ') := fun h => sForL_ex (g := g) (b := b) (xs := r) (ρ := ρ1) (fun i => I (i + 1)) J h fun i y ρ' hy hi => hs (i + 1) y ρ' (by simpa using hy) hi
    rcases h1 with ⟨h2 | h2, h3⟩ | ⟨h2, h3⟩ | ⟨c, h2, h3⟩
    · subst h2
      obtain ⟨fl, ρ2, e2, h4⟩ := nxt h3
      exact ⟨fl, ρ2, go _ e2, h4⟩
    · subst h2
      obtain ⟨fl, ρ2, e2, h4⟩ := nxt h3
      exact ⟨fl, ρ2, go _ e2, h4⟩
    · subst h2
      exact ⟨.nx, ρ1, go _ rfl, .inr h3⟩
    · subst h2
      exact ⟨.rt c, ρ1, go _ rfl, .inr h3⟩
@[simp] theorem sCt_ap (ρ : Sl) : sCt ρ = .ok .ct ρ := rfl
@[simp] theorem sBk_ap (ρ : Sl) : sBk ρ = .ok .bk ρ := rfl
/-! ### lists as tuples, at each depth -/
mutual
def tupD : PyData → PyData
  | .list xs => .tuple (tupL xs)
  | .tuple xs => .tuple (tupL xs)
  | x => x
def tupL : List PyData → List PyData
  | [] => []
  | x :: r => tupD x :: tupL r
end
/-! ### == of rows -/
theorem canLay_ints : ∀ xs : List Int, PyData.canLayAll0 (xs.map .int) = true
  | [] => by simp only [List.map_nil, PyData.canLayAll0]
  | x :: r => by simp only [List.map_cons, PyData.canLayAll0, PyData.canLay0, canLay_ints r, Bool.and_self]
theorem depth_ints : ∀ xs : List Int, PyData.depthAll (xs.map .int) = 0
  | [] => by simp only [List.map_nil, PyData.depthAll]
  | x :: r => by simp only [List.map_cons, PyData.depthAll, PyData.depth, depth_ints r]; rfl
theorem shaped_l (xs : List Int) : SeqAt.shaped (.list (xs.map .int)) = true := by
  simp only [SeqAt.shaped, PyData.canLay0, PyData.depth, canLay_ints, depth_ints]; decide
theorem shaped_t (xs : List Int) : SeqAt.shaped (.tuple (xs.map .int)) = true := by
  simp only [SeqAt.shaped, PyData.canLay0, PyData.depth, canLay_ints, depth_ints]; decide
theorem shaped_nil : SeqAt.shaped (.list []) = true := shaped_l []
theorem shaped_tnil : SeqAt.shaped (.tuple []) = true := shaped_t []
theorem eqvAll_ints : ∀ xs ys : List Int, PyData.eqvAll (xs.map .int) (ys.map .int) = decide (xs = ys)
  | [], [] => by simp [PyData.eqvAll]
  | [], _ :: _ => by simp [PyData.eqvAll]
  | _ :: _, [] => by simp [PyData.eqvAll]
  | x :: xs, y :: ys => by
    simp only [List.map_cons, PyData.eqvAll, PyData.eqv, eqvAll_ints xs ys]
    by_cases h : x = y <;> by_cases h2 : xs = ys <;> simp [h, h2]
theorem oEq_l (xs ys : List Int) : oEq (.list (xs.map .int)) (.list (ys.map .int)) = some (decide (xs = ys)) := by
  unfold oEq
  rw [if_pos (by rw [shaped_l, shaped_l]; simp), PyData.eqv, eqvAll_ints]
theorem oEq_t (xs ys : List Int) : oEq (.tuple (xs.map .int)) (.tuple (ys.map .int)) = some (decide (xs = ys)) := by
  unfold oEq
  rw [if_pos (by rw [shaped_t, shaped_t]; simp), PyData.eqv, eqvAll_ints]
theorem oNe_l (xs ys : List Int) : oNe (.list (xs.map .int)) (.list (ys.map .int)) = some (!decide (xs = ys)) := by
  unfold oNe
  rw [if_pos (by rw [shaped_l, shaped_l]; simp), PyData.eqv, eqvAll_ints]
theorem oNe_t (xs ys : List Int) : oNe (.tuple (xs.map .int)) (.tuple (ys.map .int)) = some (!decide (xs = ys)) := by
  unfold oNe
  rw [if_pos (by rw [shaped_t, shaped_t]; simp), PyData.eqv, eqvAll_ints]
/-- a list against [] -/
theorem oEq_ln {xs : List PyData} (h : SeqAt.shaped (.list xs) = true) : oEq (.list xs) (.list []) = some xs.isEmpty := by
  unfold oEq
  rw [if_pos (by rw [h, shaped_nil]; simp), PyData.eqv]
  cases xs <;> simp [PyData.eqvAll]
theorem oNe_ln {xs : List PyData} (h : SeqAt.shaped (.list xs) = true) : oNe (.list xs) (.list []) = some (!xs.isEmpty) := by
  unfold oNe
  rw [if_pos (by rw [h, shaped_nil]; simp), PyData.eqv]
  cases xs <;> simp [PyData.eqvAll]
/-- whole numbers all -/
theorem ints_ex : ∀ {xs : List PyData}, (∀ x ∈ xs, ∃ i : Int, x = .int i) → ∃ ns : List Int, xs = ns.map .int
  | [], _ => ⟨[], rfl⟩
  | x :: r, h => by
    obtain ⟨i, rfl⟩ := h x List.mem_cons_self
    obtain ⟨ns, rfl⟩ := ints_ex fun y hy => h y (List.mem_cons_of_mem _ hy)
    exact ⟨i :: ns, rfl⟩
/-- a slot that holds nothing of its own -/
def NO (o : Option C) : Prop := ∀ c, o = some c → c.own = false
theorem NO_none : NO none := fun _ h => by cases h
theorem NO_d (x : PyData) : NO (some (.d x)) := fun c h => by cases h; rfl
theorem lcStep_ok {g : PyData → M Unit} {t : M Bool} {e : M PyData} {x y : PyData} {ρ ρ1 ρ2 ρ3 : Sl} (h1 : g x ρ = .ok () ρ1) (h2 : t ρ1 = .ok true ρ2) (h3 : e ρ2 = .ok y ρ3) : lcStep g t e x ρ = .ok (some y) ρ3 := by
  unfold lcStep
  rw [bind_ok h1, bind_ok h2, if_pos rfl, bind_ok h3]; rfl
theorem lcStep_no {g : PyData → M Unit} {t : M Bool} {e : M PyData} {x : PyData} {ρ ρ1 ρ2 : Sl} (h1 : g x ρ = .ok () ρ1) (h2 : t ρ1 = .ok false ρ2) : lcStep g t e x ρ = .ok none ρ2 := by
  unfold lcStep
  rw [bind_ok h1, bind_ok h2, if_neg Bool.false_ne_true]; rfl
/-- a comprehension from its turns -/
theorem mLc_ok {vs : List Nat} {mi : M (List PyData)} {g : PyData → M Unit} {t : M Bool} {e : M PyData} {ρ ρ1 ρ' : Sl} {xs acc : List PyData} (h1 : mi ρ = .ok xs ρ1) (h2 : noOwn vs ρ1 = true) (h3 : mLcL vs g t e xs [] (wipeS ρ1 vs) = .ok acc ρ') : mLc vs mi g t e ρ = .ok (.l acc) (restS vs ρ1 ρ') := by
  rw [mLc_ap, h1, then_ok, if_pos h2, h3]
theorem sFor_ok {mi : M (List PyData)} {g : PyData → M Unit} {b : M Fl} {ρ ρ1 ρ' : Sl} {xs : List PyData} {fl : Fl} (h1 : mi ρ = .ok xs ρ1) (h2 : sForL g b xs ρ1 = .ok fl ρ') : sFor mi g b ρ = .ok fl ρ' := by
  rw [sFor_ap, h1, then_ok, h2]
/-! ### lists compared where they stand -/
@[simp] theorem tCmpV_ap (f : PyData → PyData → Option Bool) (i : Nat) (m : M PyData) (ρ : Sl) : tCmpV f i m ρ = if (vlAt i ρ).isSome = true then (m ρ).then fun y ρ' => match vlAt i ρ' with
  | some xs => M.of (f (.list xs) y) ρ'
  | none => .stuck else .stuck := rfl
theorem vlAt_ap (i : Nat) (ρ : Sl) : vlAt i ρ = match ρ[i]? with
  | some (some (.l xs)) => some xs
  | some (some (.d (.list xs))) => some xs
  | _ => none := rfl
theorem eqS_n {xs : List PyData} (h : SeqAt.shaped (.list xs) = true) : eqS (.list xs) (.list []) = some xs.isEmpty := by
  unfold eqS
  rw [if_pos (by rw [h, shaped_nil]; simp), PyData.eqv]
  cases xs <;> simp [PyData.eqvAll]
theorem neS_n {xs : List PyData} (h : SeqAt.shaped (.list xs) = true) : neS (.list xs) (.list []) = some (!xs.isEmpty) := by
  unfold neS
  rw [if_pos (by rw [h, shaped_nil]; simp), PyData.eqv]
  cases xs <;> simp [PyData.eqvAll]
@[simp] theorem mRev_ap (m : M PyData) (ρ : Sl) : mRev m ρ = (m ρ).then fun x => M.of (oRev x) := rfl
@[simp] theorem oRev_l (xs : List PyData) : oRev (.list xs) = some (.l xs.reverse) := rfl
@[simp] theorem oRev_t (xs : List PyData) : oRev (.tuple xs) = some (.d (.tuple xs.reverse)) := rfl
@[simp] theorem mRep_ap (a : M C) (b : M PyData) (ρ : Sl) : mRep a b ρ = (a ρ).then fun x => M.bind b fun y => M.of (oRep x y) := rfl
theorem oRep_l {xs : List PyData} {k : Int} (h0 : -1000000 ≤ k) (h1 : k ≤ 1000) (h : xs.length * k.toNat ≤ 1000) : oRep (.l xs) (.int k) = some (.l (List.replicate k.toNat xs).flatten) := by
  show (if _ then _ else _) = _
  rw [if_pos]
  unfold repOk
  simp only [Bool.and_eq_true, decide_eq_true_eq]
  exact ⟨⟨by omega, by omega⟩, Nat.le_of_lt (sizeL_lt h)⟩
theorem oRep_t {xs : List PyData} {k : Int} (h0 : 0 < xs.length) (h1 : xs.length ≤ 1000) (h2 : 2 ≤ k) (h3 : k ≤ 1000) : oRep (.d (.tuple xs)) (.int k) = some (.d (.tuple (List.replicate k.toNat xs).flatten)) := by
  show (if _ then _ else _) = _
  rw [if_pos]
  unfold repOkT
  simp only [Bool.and_eq_true, decide_eq_true_eq]
  exact ⟨⟨⟨h0, h1⟩, h2⟩, h3⟩
theorem oCat_dl {xs ys : List PyData} (h : xs.length + ys.length ≤ sizeLine) : oCat (.d (.list xs)) (.l ys) = some (.l (xs ++ ys)) := by
  show (if xs.length + ys.length ≤ sizeLine then some (C.l (xs ++ ys)) else none) = _
  rw [if_pos h]
theorem oCat_ld {xs ys : List PyData} (h : xs.length + ys.length ≤ sizeLine) : oCat (.l xs) (.d (.list ys)) = some (.l (xs ++ ys)) := by
  show (if xs.length + ys.length ≤ sizeLine then some (C.l (xs ++ ys)) else none) = _
  rw [if_pos h]
theorem oCat_tt {xs ys : List PyData} (h : xs.length + ys.length ≤ sizeLine) : oCat (.d (.tuple xs)) (.d (.tuple ys)) = some (.d (.tuple (xs ++ ys))) := by
  show (if xs.length + ys.length ≤ sizeLine then some (C.d (.tuple (xs ++ ys))) else none) = _
  rw [if_pos h]
/-! ### comprehensions over whole numbers -/
theorem lc_filter {vs : List Nat} {g : PyData → M Unit} {t : M Bool} {e : M PyData} (p : Int → Bool) (ρ : Sl) : ∀ (xs acc : List Int), (∀ x ∈ xs, ∃ ρ', lcStep g t e (.int x) ρ = .ok (if p x = true then some (.int x) else none) ρ' ∧ wipeS ρ' vs = ρ) → acc.length + xs.length ≤ sizeLine →
    mLcL vs g t e (xs.map .int) (acc.map .int) ρ = .ok ((acc ++ xs.filter p).map .int) ρ
  | [], acc, _, _ => by rw [List.filter_nil, List.append_nil]; rfl
  | x :: r, acc, h, hl => by
    obtain ⟨ρ', e1, e2⟩ := h x List.mem_cons_self
    rw [List.length_cons] at hl
    rw [List.map_cons, mLcL_step e1 (by rw [List.length_map]; omega), e2]
    by_cases hp : p x = true
    · rw [if_pos hp, List.filter_cons_of_pos hp]
      have ih := lc_filter (vs := vs) (g := g) (t := t) (e := e) p ρ r (acc ++ [x]) (fun y hy => h y (List.mem_cons_of_mem _ hy)) (by rw [List.length_append]; simp; omega)
      rw [List.map_append] at ih
      show mLcL vs g t e (r.map .int) (acc.map .int ++ [.int x]) ρ = _
      rw [show [PyData.int x] = [x].map PyData.int from rfl, ih, List.append_assoc]; rfl
    · rw [if_neg hp, List.filter_cons_of_neg hp]
      have ih := lc_filter (vs := vs) (g := g) (t := t) (e := e) p ρ r acc (fun y hy => h y (List.mem_cons_of_mem _ hy)) (by omega)
      show mLcL vs g t e (r.map .int) (acc.map .int ++ []) ρ = _
      rw [List.append_nil, ih]
theorem lc_map {vs : List Nat} {g : PyData → M Unit} {t : M Bool} {e : M PyData} (f : Int → PyData) (ρ : Sl) : ∀ (xs : List Int) (acc : List PyData), (∀ x ∈ xs, ∃ ρ', lcStep g t e (.int x) ρ = .ok (some (f x)) ρ' ∧ wipeS ρ' vs = ρ) → acc.length + xs.length ≤ sizeLine →
    mLcL vs g t e (xs.map .int) acc ρ = .ok (acc ++ xs.map f) ρ
  | [], acc, _, _ => by rw [List.map_nil, List.map_nil, List.append_nil]; rfl
  | x :: r, acc, h, hl => by
    obtain ⟨ρ', e1, e2⟩ := h x List.mem_cons_self
    rw [List.length_cons] at hl
    rw [List.map_cons, mLcL_step e1 (by omega), e2]
    have ih := lc_map (vs := vs) (g := g) (t := t) (e := e) f ρ r (acc ++ [f x]) (fun y hy => h y (List.mem_cons_of_mem _ hy)) (by rw [List.length_append]; simp; omega)
    show mLcL vs g t e (r.map .int) (acc ++ [f x]) ρ = _
    rw [ih, List.append_assoc]; rfl
/-- the whole numbers from lo on -/
def rgI (lo : Int) (n : Nat) : List Int := (List.range n).map fun (i : Nat) => lo + (i : Int)
theorem intsL_rg (lo : Int) (n : Nat) : intsL lo n = (rgI lo n).map .int := by
  unfold intsL rgI
  rw [List.map_map]; rfl
theorem rgI_len (lo : Int) (n : Nat) : (rgI lo n).length = n := by unfold rgI; rw [List.length_map, List.length_range]
theorem rgI_mem {lo : Int} {n : Nat} {x : Int} : x ∈ rgI lo n ↔ lo ≤ x ∧ x < lo + n := by
  unfold rgI
  constructor
  · intro h
    obtain ⟨i, hi, rfl⟩ := List.mem_map.mp h
    have := List.mem_range.mp hi
    omega
  · intro h
    exact List.mem_map.mpr ⟨(x - lo).toNat, List.mem_range.mpr (by omega), by omega⟩
theorem rgI_succ (lo : Int) (n : Nat) : rgI lo (n + 1) = rgI lo n ++ [lo + n] := by
  unfold rgI
  rw [List.range_succ, List.map_append]; rfl
/-- the first one that does stands first -/
theorem filter_first (p : Int → Bool) (s : Nat) (hs : p s = true) (hn : ∀ j : Nat, j < s → p j = false) : ∀ n : Nat, s < n → ∃ r, (rgI 0 n).filter p = (s : Int) :: r
  | 0, h => absurd h (Nat.not_lt_zero _)
  | n + 1, h => by
    rw [rgI_succ, List.filter_append, Int.zero_add]
    rcases Nat.lt_or_ge s n with c | c
    · obtain ⟨r, e⟩ := filter_first p s hs hn n c
      exact ⟨r ++ [(n : Int)].filter p, by rw [e]; rfl⟩
    · have : n = s := by omega
      subst this
      have e : (rgI 0 n).filter p = [] := by
        rw [List.filter_eq_nil_iff]
        intro x hx
        have hb := rgI_mem.mp hx
        have := hn x.toNat (by omega)
        rw [Int.toNat_of_nonneg (by omega)] at this
        rw [this]; decide
      refine ⟨[], ?_⟩
      rw [e, List.nil_append, List.filter_cons_of_pos hs]; rfl
theorem least_ex {p : Nat → Prop} (h : ∃ n, p n) : ∃ n, p n ∧ ∀ j, j < n → ¬ p j := by
  obtain ⟨n, hn⟩ := h
  induction n using Nat.strongRecOn with
  | ind n ih =>
    rcases Classical.em (∃ j, j < n ∧ p j) with h | h
    · obtain ⟨j, hj, pj⟩ := h
      exact ih j hj pj
    · exact ⟨n, hn, fun j hj pj => h ⟨j, hj, pj⟩⟩
theorem boolsD_b : ∀ bs : List Bool, boolsD (bs.map .bool) = some bs
  | [] => rfl
  | b :: r => by rw [List.map_cons, boolsD, boolsD_b r]; rfl
theorem oAll_b (bs : List Bool) : oAll (.list (bs.map .bool)) = some (.bool (bs.all id)) := by
  show (boolsD _).map _ = _
  rw [boolsD_b]; rfl
theorem oAny_b (bs : List Bool) : oAny (.list (bs.map .bool)) = some (.bool (bs.any id)) := by
  show (boolsD _).map _ = _
  rw [boolsD_b]; rfl
theorem intsD_m : ∀ ns : List Int, intsD (ns.map .int) = some ns
  | [] => rfl
  | n :: r => by rw [List.map_cons, intsD, intsD_m r]; rfl
theorem oSortSet_i (ns : List Int) (h : ns.length < 64) : oSortSet (.list (ns.map .int)) = some (.l ((sortU ns).map .int)) := by
  show (match intsD (ns.map .int) with
    | some ns => if ns.length < 64 then some (C.l ((sortU ns).map .int)) else none
    | none => none) = _
  rw [intsD_m]
  show (if ns.length < 64 then some (C.l ((sortU ns).map .int)) else none) = _
  rw [if_pos h]
theorem keysD_m (f : Int → PyData) : ∀ ns : List Int, keysD (ns.map fun k => .tuple [.int k, f k]) = some ns
  | [] => rfl
  | n :: r => by rw [List.map_cons, keysD, keysD_m f r]; rfl
theorem oSortDict_i (ns : List Int) (f : Int → PyData) (h : ns.length < 64) : oSortDict (.list (ns.map fun k => .tuple [.int k, f k])) = some (.l ((sortU ns).map .int)) := by
  show (match keysD (ns.map fun k => .tuple [.int k, f k]) with
    | some ns => if ns.length < 64 then some (C.l ((sortU ns).map .int)) else none
    | none => none) = _
  rw [keysD_m]
  show (if ns.length < 64 then some (C.l ((sortU ns).map .int)) else none) = _
  rw [if_pos h]
theorem insU_m (x : Int) : ∀ (l : List Int) (z : Int), z ∈ insU x l ↔ z = x ∨ z ∈ l
  | [], z => by simp [insU]
  | y :: r, z => by
    unfold insU
    split
    · simp
    · split
      · rename_i h; subst h; simp
      · rw [List.mem_cons, insU_m x r z, List.mem_cons]
        constructor
        · rintro (h | h | h) <;> simp [h]
        · rintro (h | h | h) <;> simp [h]
theorem sortU_m : ∀ (l : List Int) (z : Int), z ∈ sortU l ↔ z ∈ l
  | [], z => by simp [sortU]
  | x :: r, z => by rw [sortU, insU_m, sortU_m r z, List.mem_cons]
theorem insU_len (x : Int) : ∀ l : List Int, (insU x l).length ≤ l.length + 1
  | [] => by simp [insU]
  | y :: r => by
    unfold insU
    split
    · simp
    · split
      · simp
      · have := insU_len x r; simp; omega
theorem sortU_len : ∀ l : List Int, (sortU l).length ≤ l.length
  | [] => by simp [sortU]
  | x :: r => by
    have := insU_len x (sortU r)
    have := sortU_len r
    rw [sortU, List.length_cons]; omega
theorem lst1_ok {a : M PyData} {x : PyData} {ρ ρ1 : Sl} (h1 : a ρ = .ok x ρ1) : mFrz (mLst [a]) ρ = .ok (.list [x]) ρ1 := by
  rw [mFrz_ap, mLst_ap, mSeq_cons, h1]; rfl
theorem lst2_ok {a b : M PyData} {x y : PyData} {ρ ρ1 ρ2 : Sl} (h1 : a ρ = .ok x ρ1) (h2 : b ρ1 = .ok y ρ2) : mFrz (mLst [a, b]) ρ = .ok (.list [x, y]) ρ2 := by
  rw [mFrz_ap, mLst_ap, mSeq_cons, h1, then_ok]
  show ((M.bind (M.bind b fun x => M.bind (mSeq []) fun xs => M.pure (x :: xs)) _ ρ1).then _).then _ = _
  rw [bind_ok (show M.bind b (fun x => M.bind (mSeq []) fun xs => M.pure (x :: xs)) ρ1 = .ok [y] ρ2 by rw [bind_ok h2]; rfl)]
  rfl
theorem call2_ok {φ : Sl → Res C} {a b : M PyData} {x y r : PyData} {ρ ρ1 ρ2 : Sl} (h1 : a ρ = .ok x ρ1) (h2 : b ρ1 = .ok y ρ2) (h3 : φ [some (.d x), some (.d y)] = .ok (.d r) [some (.d x), some (.d y)]) : mFrz (mCall φ (mSeqA [agD a, agD b])) ρ = .ok r ρ2 := by
  have e1 : agD a ρ = .ok (.d x) ρ1 := by rw [agD_ap, h1]; rfl
  have e2 : agD b ρ1 = .ok (.d y) ρ2 := by rw [agD_ap, h2]; rfl
  have e3 : mSeqA [agD a, agD b] ρ = .ok [.d x, .d y] ρ2 := by
    rw [mSeqA_cons, e1, then_ok, bind_ok (show mSeqA [agD b] ρ1 = .ok [.d y] ρ2 by rw [mSeqA_cons, e2]; rfl)]
    rfl
  rw [mFrz_ap, mCall_ap, e3, then_ok]
  simp -implicitDefEqProofs [rdA, h3]
end DL

set_option linter.all false
set_option maxRecDepth 100000
/-! # Recipes: where they err, in plain whole numbers -/
namespace PE
/-- the quotient, rounded up -/
def up (a b : Int) : Int := -(-a / b)
theorem up_le {a b k : Int} (hb : 0 < b) : up a b ≤ k ↔ a ≤ k * b := by
  unfold up
  have h := Int.le_ediv_iff_mul_le (a := -k) (b := -a) hb
  rw [Int.neg_mul] at h
  omega
theorem lt_up {a b k : Int} (hb : 0 < b) : k < up a b ↔ k * b < a := by
  have := up_le (a := a) (k := k) hb
  omega
theorem up_nonneg {a b : Int} (ha : 0 ≤ a) (hb : 0 < b) : 0 ≤ up a b := by
  have := lt_up (a := a) (b := b) (k := -1) hb
  omega
/-- what is told of n -/
def tl (c m P n : Int) : Int := (n + c) * m / P
/-- the last ones of the words of q -/
def late (c m P d q : Int) : Int := min d ((q + 1) * (m * d - P) / m + c)
/-- the first ones of the words of q -/
def early (c m P d q : Int) : Int := if q = 0 ∨ m = 0 then (if 0 < q then d else 0) else min d (up (q * (P - m * d)) m - c)
section
variable {c m P d : Int}
theorem tl_iff (hP : 0 < P) (q r : Int) : tl c m P (q * d + r) = q ↔ 0 ≤ q * (m * d - P) + (r + c) * m ∧ q * (m * d - P) + (r + c) * m < P := by
  unfold tl
  have e : (q * d + r + c) * m = (q * (m * d - P) + (r + c) * m) + q * P := by
    rw [Int.mul_sub, Int.add_mul, Int.add_mul, Int.add_mul, Int.mul_assoc q d m, Int.mul_comm d m]; omega
  rw [e, Int.add_mul_ediv_right _ _ (by omega : P ≠ 0)]
  generalize q * (m * d - P) + (r + c) * m = x
  have h1 := Int.le_ediv_iff_mul_le (a := 0) (b := x) hP
  have h2 := Int.ediv_lt_iff_lt_mul (a := x) (b := 1) hP
  rw [Int.zero_mul] at h1
  rw [Int.one_mul] at h2
  omega
theorem quot (hd : 0 < d) {q r : Int} (r0 : 0 ≤ r) (r1 : r < d) : (q * d + r) / d = q := by
  rw [Int.add_comm, Int.add_mul_ediv_right _ _ (by omega : d ≠ 0), Int.ediv_eq_zero_of_lt r0 r1]
  omega
/-- from 0 on: just the last ones err -/
theorem late_iff (hP : 0 < P) (hd : 0 < d) (hm : 0 < m) (hc : 0 ≤ c) (he : 0 ≤ m * d - P) {q r : Int} (q0 : 0 ≤ q) (r0 : 0 ≤ r) (r1 : r < d) : tl c m P (q * d + r) = q ↔ r < d - late c m P d q := by
  rw [tl_iff hP]
  have h := Int.ediv_lt_iff_lt_mul (a := (q + 1) * (m * d - P)) (b := d - r - c) hm
  have a1 : 0 ≤ q * (m * d - P) := Int.mul_nonneg q0 he
  have a2 : 0 ≤ (r + c) * m := Int.mul_nonneg (by omega) (by omega)
  have e1 : (q + 1) * (m * d - P) = q * (m * d - P) + (m * d - P) := by rw [Int.add_mul, Int.one_mul]
  have e2 : (d - r - c) * m = m * d - (r + c) * m := by rw [Int.sub_mul, Int.sub_mul, Int.add_mul, Int.mul_comm d m]; omega
  rw [e2] at h
  unfold late
  omega
/-- below 0: just the first ones err -/
theorem early_iff (hP : 0 < P) (hd : 0 < d) (hm : 0 ≤ m) (hc : 0 ≤ c) (hc1 : c ≤ 1) (he : m * d - P < 0) {q r : Int} (q0 : 0 ≤ q) (r0 : 0 ≤ r) (r1 : r < d) : tl c m P (q * d + r) = q ↔ early c m P d q ≤ r := by
  rw [tl_iff hP]
  have a1 : 0 ≤ q * (P - m * d) := Int.mul_nonneg q0 (by omega)
  have e1 : q * (m * d - P) = -(q * (P - m * d)) := by rw [Int.mul_sub, Int.mul_sub]; omega
  have a2 : 0 ≤ (r + c) * m := Int.mul_nonneg (by omega) (by omega)
  have a3 : (r + c) * m ≤ d * m := Int.mul_le_mul_of_nonneg_right (by omega) hm
  rw [Int.mul_comm d m] at a3
  rw [e1]
  unfold early
  by_cases hq : q = 0
  · subst hq
    rw [Int.zero_mul] at a1 ⊢
    simp
    omega
  · by_cases h0 : m = 0
    · subst h0
      have p : 1 * (P - 0 * d) ≤ q * (P - 0 * d) := Int.mul_le_mul_of_nonneg_right (by omega) (by omega)
      have : 0 < q := by omega
      simp [hq, this]
      simp at p
      omega
    · have h := up_le (a := q * (P - m * d)) (b := m) (k := r + c) (by omega)
      simp [hq, h0]
      omega
theorem late_nonneg (hm : 0 < m) (hc : 0 ≤ c) (hd : 0 < d) (he : 0 ≤ m * d - P) {q : Int} (q0 : 0 ≤ q) : 0 ≤ late c m P d q ∧ late c m P d q ≤ d := by
  have a1 : 0 ≤ (q + 1) * (m * d - P) / m := Int.ediv_nonneg (Int.mul_nonneg (by omega) he) (by omega)
  unfold late
  omega
theorem early_nonneg (hm : 0 ≤ m) (hc : 0 ≤ c) (hc1 : c ≤ 1) (hd : 0 < d) (he : m * d - P < 0) {q : Int} (q0 : 0 ≤ q) : 0 ≤ early c m P d q ∧ early c m P d q ≤ d := by
  unfold early
  by_cases hq : q = 0
  · simp [hq]; omega
  · by_cases h0 : m = 0
    · have : 0 < q := by omega
      simp [hq, h0, this]; omega
    · have a1 : 0 < q * (P - m * d) := Int.mul_pos (by omega) (by omega)
      have h := lt_up (a := q * (P - m * d)) (b := m) (k := 0) (by omega)
      rw [Int.zero_mul] at h
      simp [hq, h0]
      omega
end
/-! ## sums -/
def sumN (f : Nat → Int) : Nat → Int
  | 0 => 0
  | n + 1 => sumN f n + f n
theorem sumN_congr {f g : Nat → Int} : ∀ {n : Nat}, (∀ i, i < n → f i = g i) → sumN f n = sumN g n
  | 0, _ => rfl
  | n + 1, h => by rw [sumN, sumN, sumN_congr fun i hi => h i (by omega), h n (by omega)]
theorem sumN_add (f : Nat → Int) (n : Nat) : ∀ k : Nat, sumN f (n + k) = sumN f n + sumN (fun i => f (n + i)) k
  | 0 => (Int.add_zero _).symm
  | k + 1 => by
    rw [← Nat.add_assoc, sumN, sumN, sumN_add f n k]
    omega
theorem sumN_const (a : Int) : ∀ n : Nat, sumN (fun _ => a) n = n * a
  | 0 => by rw [sumN]; simp
  | n + 1 => by rw [sumN, sumN_const a n, Int.natCast_add, Int.add_mul]; omega
theorem sumN_plus (f g : Nat → Int) : ∀ n : Nat, sumN (fun i => f i + g i) n = sumN f n + sumN g n
  | 0 => rfl
  | n + 1 => by rw [sumN, sumN, sumN, sumN_plus f g n]; omega
theorem sumN_nonneg {f : Nat → Int} : ∀ {n : Nat}, (∀ i, i < n → 0 ≤ f i) → 0 ≤ sumN f n
  | 0, _ => Int.le_refl _
  | n + 1, h => by
    have := sumN_nonneg fun i hi => h i (Nat.lt_succ_of_lt hi)
    have := h n (by omega)
    rw [sumN]; omega
theorem sumN_le {f : Nat → Int} {a : Int} : ∀ {n : Nat}, (∀ i, i < n → f i ≤ a) → sumN f n ≤ n * a
  | 0, _ => by rw [sumN]; simp
  | n + 1, h => by
    have := sumN_le fun i hi => h i (Nat.lt_succ_of_lt hi)
    have := h n (by omega)
    rw [sumN, Int.natCast_add, Int.add_mul]; omega
/-! ## sums of quotients -/
def fsum (n : Nat) (m a b : Int) : Int := sumN (fun i => (a * i + b) / m) n
theorem sum_i : ∀ n : Nat, sumN (fun i => (i : Int)) n = (n : Int) * (n - 1) / 2
  | 0 => rfl
  | n + 1 => by
    rw [sumN, sum_i n]
    have e : ((n + 1 : Nat) : Int) * ((n + 1 : Nat) - 1) = n * (n - 1) + n * 2 := by
      rw [Int.natCast_add]
      have : (n : Int) * (n - 1) = n * n - n := by rw [Int.mul_sub, Int.mul_one]
      rw [this]
      show ((n : Int) + 1) * (n + 1 - 1) = _
      rw [Int.add_sub_cancel, Int.add_mul]
      omega
    rw [e, Int.add_mul_ediv_right _ _ (by decide)]
theorem sumN_mul (f : Nat → Int) (k : Int) : ∀ n : Nat, sumN (fun i => f i * k) n = sumN f n * k
  | 0 => by rw [sumN, sumN, Int.zero_mul]
  | n + 1 => by rw [sumN, sumN, sumN_mul f k n, Int.add_mul]
/-- a and b made smaller -/
theorem fsum_red (n : Nat) {m a b : Int} (hm : 0 < m) : fsum n m a b = (n : Int) * (n - 1) / 2 * (a / m) + n * (b / m) + fsum n m (a % m) (b % m) := by
  unfold fsum
  have e : ∀ i, i < n → (a * (i : Int) + b) / m = ((i : Int) * (a / m) + b / m) + (a % m * i + b % m) / m := fun i _ => by
    have h1 := Int.emod_add_mul_ediv a m
    have h2 := Int.emod_add_mul_ediv b m
    have e1 : a * (i : Int) + b = (a % m * i + b % m) + ((i : Int) * (a / m) + b / m) * m := by
      have e2 : a * (i : Int) = a % m * i + (i : Int) * (a / m) * m := by
        have : a * (i : Int) = (a % m + m * (a / m)) * i := by rw [h1]
        rw [this, Int.add_mul, Int.mul_comm m, Int.mul_assoc, Int.mul_comm m, ← Int.mul_assoc, Int.mul_comm (a / m) i]
      rw [e2, Int.add_mul]
      have := Int.mul_comm m (b / m)
      omega
    rw [e1, Int.add_mul_ediv_right _ _ (by omega)]
    omega
  rw [sumN_congr e, sumN_plus, sumN_plus, sumN_mul, sum_i, sumN_const]
/-- turned about -/
theorem fsum_turn {m a b : Int} (ha : 0 ≤ a) (ham : a < m) (hb : 0 ≤ b) (hbm : b < m) : ∀ n : Nat, fsum n m a b = fsum ((a * n + b) / m).toNat a m ((a * n + b) % m)
  | 0 => by
    have e : (a * ((0 : Nat) : Int) + b) / m = 0 := by
      rw [Int.natCast_zero, Int.mul_zero, Int.zero_add]; exact Int.ediv_eq_zero_of_lt hb hbm
    rw [e]; rfl
  | n + 1 => by
    have ih := fsum_turn ha ham hb hbm n
    have hm : 0 < m := by omega
    have s1 : fsum (n + 1) m a b = fsum n m a b + (a * n + b) / m := rfl
    rw [s1, ih]
    have e0 : a * ((n + 1 : Nat) : Int) + b = (a * n + b) + a := by rw [Int.natCast_add, Int.mul_add]; omega
    rw [e0]
    generalize hx : a * (n : Int) + b = x
    have hx0 : 0 ≤ x := by
      have : 0 ≤ a * (n : Int) := Int.mul_nonneg ha (by omega)
      omega
    have h1 := Int.emod_add_mul_ediv x m
    have h2 := Int.emod_nonneg x (by omega : m ≠ 0)
    have h3 := Int.emod_lt_of_pos x hm
    have h4 : 0 ≤ x / m := Int.ediv_nonneg hx0 (by omega)
    generalize x % m = r at *
    generalize x / m = K at *
    have exa : x + a = (r + a) + K * m := by rw [Int.mul_comm K m]; omega
    have shift : ∀ (N : Nat) (t : Int), 0 < a → fsum N a m (t + a) = fsum N a m t + N := fun N t pa => by
      unfold fsum
      have e : ∀ i, i < N → (m * (i : Int) + (t + a)) / a = (m * (i : Int) + t) / a + 1 := fun i _ => by
        have : m * (i : Int) + (t + a) = (m * (i : Int) + t) + 1 * a := by omega
        rw [this, Int.add_mul_ediv_right _ _ (by omega)]
      rw [sumN_congr e, sumN_plus, sumN_const]
      omega
    by_cases pa : a = 0
    · subst pa
      have hxb : x = b := by rw [← hx, Int.zero_mul]; omega
      have hK : K = 0 := by
        by_cases hk : K = 0
        · exact hk
        · exfalso
          have : m * 1 ≤ m * K := Int.mul_le_mul_of_nonneg_left (by omega) (by omega)
          omega
      subst hK
      have e3 : (x + 0) / m = 0 := by rw [Int.add_zero, hxb]; exact Int.ediv_eq_zero_of_lt hb hbm
      rw [e3]; rfl
    · have pa' : 0 < a := by omega
      by_cases hc : r + a < m
      · have q1 : (x + a) / m = K := by rw [exa, Int.add_mul_ediv_right _ _ (by omega), Int.ediv_eq_zero_of_lt (by omega) hc]; omega
        have q2 : (x + a) % m = r + a := by rw [exa, Int.add_mul_emod_self_right, Int.emod_eq_of_lt (by omega) hc]
        rw [q1, q2, shift _ _ pa']
        omega
      · have exa2 : x + a = (r + a - m) + (K + 1) * m := by rw [Int.add_mul, Int.mul_comm K m]; omega
        have q1 : (x + a) / m = K + 1 := by rw [exa2, Int.add_mul_ediv_right _ _ (by omega), Int.ediv_eq_zero_of_lt (by omega) (by omega)]; omega
        have q2 : (x + a) % m = r + a - m := by rw [exa2, Int.add_mul_emod_self_right, Int.emod_eq_of_lt (by omega) (by omega)]
        rw [q1, q2]
        have hk : (K + 1).toNat = 1 + K.toNat := by omega
        rw [hk]
        have e5 : fsum (1 + K.toNat) a m (r + a - m) = fsum K.toNat a m (r + a) := by
          unfold fsum
          rw [sumN_add]
          have z : sumN (fun i => (m * (i : Int) + (r + a - m)) / a) 1 = 0 := by
            show 0 + (m * ((0 : Nat) : Int) + (r + a - m)) / a = 0
            rw [Int.natCast_zero, Int.mul_zero, Int.zero_add, Int.zero_add]
            exact Int.ediv_eq_zero_of_lt (by omega) (by omega)
          rw [z, Int.zero_add]
          refine sumN_congr fun i _ => ?_
          congr 1
          rw [Int.natCast_add, Int.mul_add]
          omega
        rw [e5, shift _ _ pa']
        omega
theorem fsum_zero {m b : Int} {n : Nat} (hb : 0 ≤ b) (h : ∀ i : Nat, i < n → 0 = (fun i : Nat => b / m) i) : fsum n m 0 b = 0 := by
  unfold fsum
  rw [sumN_congr (g := fun _ => 0) fun i hi => by rw [Int.zero_mul, Int.zero_add]; exact (h i hi).symm, sumN_const, Int.mul_zero]
/-- none: all terms are 0 -/
theorem fsum_none {m a b : Int} {n : Nat} (ha : 0 ≤ a) (hb : 0 ≤ b) (h : a * n + b < m) : fsum n m a b = 0 := by
  unfold fsum
  rw [sumN_congr (g := fun _ => 0) fun i hi => ?_, sumN_const, Int.mul_zero]
  have : a * (i : Int) ≤ a * n := Int.mul_le_mul_of_nonneg_left (by omega) ha
  have : 0 ≤ a * (i : Int) := Int.mul_nonneg ha (by omega)
  exact Int.ediv_eq_zero_of_lt (by omega) (by omega)
end PE

set_option linter.all false
set_option maxRecDepth 100000
namespace PE
/-! ## the words of a quotient at which a recipe errs -/
def lo (c m P d q : Int) : Int := if 0 ≤ m * d - P then d - late c m P d q else 0
def hi (c m P d q : Int) : Int := if 0 ≤ m * d - P then d else early c m P d q
/-- a recipe: what it adds ahead, its multiplier, its power of 2, the divisor -/
structure Rc (c m P d : Int) : Prop where
  c0 : 0 ≤ c
  c1 : c ≤ 1
  m0 : 0 ≤ m
  P0 : 0 < P
  d0 : 0 < d
section
variable {c m P d : Int}
theorem Rc.mp (R : Rc c m P d) (he : 0 ≤ m * d - P) : 0 < m := by
  have := R.P0
  have := R.m0
  by_cases h : m = 0
  · subst h; rw [Int.zero_mul] at he; omega
  · omega
theorem lohi (R : Rc c m P d) {q : Int} (q0 : 0 ≤ q) : 0 ≤ lo c m P d q ∧ lo c m P d q ≤ hi c m P d q ∧ hi c m P d q ≤ d := by
  unfold lo hi
  by_cases he : 0 ≤ m * d - P
  · have := late_nonneg (R.mp he) R.c0 R.d0 he q0
    rw [if_pos he, if_pos he]; omega
  · have := early_nonneg R.m0 R.c0 R.c1 R.d0 (show m * d - P < 0 by omega) q0
    rw [if_neg he, if_neg he]; omega
theorem ok_iff (R : Rc c m P d) {q r : Int} (q0 : 0 ≤ q) (r0 : 0 ≤ r) (r1 : r < d) : tl c m P (q * d + r) = q ↔ ¬ (lo c m P d q ≤ r ∧ r < hi c m P d q) := by
  unfold lo hi
  by_cases he : 0 ≤ m * d - P
  · rw [if_pos he, if_pos he, late_iff R.P0 R.d0 (R.mp he) R.c0 he q0 r0 r1]; omega
  · rw [if_neg he, if_neg he, early_iff R.P0 R.d0 R.m0 R.c0 R.c1 (show m * d - P < 0 by omega) q0 r0 r1]; omega
def err (c m P d n : Int) : Int := if tl c m P n = n / d then 0 else 1
/-- at how many words below N it errs -/
def cnt (c m P d : Int) (N : Nat) : Int := sumN (fun n => err c m P d n) N
theorem err_at (R : Rc c m P d) {q r : Int} (q0 : 0 ≤ q) (r0 : 0 ≤ r) (r1 : r < d) : err c m P d (q * d + r) = if lo c m P d q ≤ r ∧ r < hi c m P d q then 1 else 0 := by
  have h := ok_iff R q0 r0 r1
  unfold err
  rw [quot R.d0 r0 r1]
  by_cases hk : lo c m P d q ≤ r ∧ r < hi c m P d q
  · rw [if_pos hk, if_neg (fun z => h.mp z hk)]
  · rw [if_neg hk, if_pos (h.mpr hk)]
theorem cnt_in (R : Rc c m P d) {q : Nat} {D : Nat} (hD : (D : Int) = d) : ∀ k : Nat, k ≤ D → cnt c m P d (q * D + k) = cnt c m P d (q * D) + max 0 (min (k : Int) (hi c m P d q) - lo c m P d q)
  | 0, _ => by
    have := lohi R (q := q) (by omega)
    rw [Nat.add_zero]; omega
  | k + 1, h => by
    have L := lohi R (q := q) (by omega)
    have e : cnt c m P d (q * D + (k + 1)) = cnt c m P d (q * D + k) + err c m P d ((q : Int) * d + k) := by
      show sumN _ _ + err c m P d ((q * D + k : Nat) : Int) = _
      rw [Int.natCast_add, Int.natCast_mul, hD]; rfl
    rw [e, cnt_in R hD k (by omega), err_at R (by omega) (by omega) (by omega)]
    split <;> omega
theorem cnt_full (R : Rc c m P d) {D : Nat} (hD : (D : Int) = d) : ∀ Q : Nat, cnt c m P d (Q * D) = sumN (fun q => hi c m P d q - lo c m P d q) Q
  | 0 => by rw [Nat.zero_mul]; rfl
  | Q + 1 => by
    have L := lohi R (q := Q) (by omega)
    rw [Nat.add_mul, Nat.one_mul, cnt_in R hD D (by omega), cnt_full R hD Q, sumN]
    omega
/-! ## all of the first quotients -/
/-- the program's counting -/
def fullN (c m P d : Int) (Q : Int) : Int :=
  if 0 ≤ m * d - P then (if m * d - P = 0 then Q else min Q (max 0 (up ((d - c) * m) (m * d - P) - 1)))
  else min Q ((d + c - 1) * m / (P - m * d) + 1)
def fullC (c m P d : Int) (Q : Int) : Int :=
  if 0 ≤ m * d - P then fsum (fullN c m P d Q).toNat m (m * d - P) (m * d - P) + fullN c m P d Q * c + (Q - fullN c m P d Q) * d
  else if Q = 0 then 0 else if m = 0 then (Q - 1) * d
  else fsum (fullN c m P d Q).toNat m (P - m * d) (m - 1) - (fullN c m P d Q - 1) * c + (Q - fullN c m P d Q) * d
theorem sumN_split (f : Nat → Int) {k n : Nat} (h : k ≤ n) : sumN f n = sumN f k + sumN (fun i => f (k + i)) (n - k) := by
  have := sumN_add f k (n - k)
  rwa [Nat.add_sub_cancel' h] at this
theorem fullN_b (R : Rc c m P d) {Q : Int} (hQ : 0 ≤ Q) : 0 ≤ fullN c m P d Q ∧ fullN c m P d Q ≤ Q := by
  unfold fullN
  by_cases he : 0 ≤ m * d - P
  · rw [if_pos he]
    split <;> omega
  · rw [if_neg he]
    have h1 : 0 ≤ (d + c - 1) * m := Int.mul_nonneg (by have := R.d0; have := R.c0; omega) R.m0
    have h2 := Int.ediv_nonneg h1 (by omega : 0 ≤ P - m * d)
    omega
theorem full_late (R : Rc c m P d) (he : 0 ≤ m * d - P) (Q : Nat) : sumN (fun q => late c m P d q) Q = fullC c m P d Q := by
  have hm := R.mp he
  have hb := fullN_b R (Q := Q) (by omega)
  have eN : fullN c m P d Q = if m * d - P = 0 then (Q : Int) else min Q (max 0 (up ((d - c) * m) (m * d - P) - 1)) := by
    unfold fullN; rw [if_pos he]
  unfold fullC
  rw [if_pos he]
  generalize fullN c m P d Q = N at *
  obtain ⟨n, rfl⟩ := Int.eq_ofNat_of_zero_le hb.1
  rw [sumN_split (fun q => late c m P d q) (k := n) (n := Q) (by omega)]
  have d0 := R.d0
  have c0 := R.c0
  have c1 := R.c1
  have g1 : sumN (fun q => late c m P d q) n = fsum n m (m * d - P) (m * d - P) + n * c := by
    have : ∀ i : Nat, i < n → late c m P d i = (fun i : Nat => ((m * d - P) * i + (m * d - P)) / m) i + c := fun i hi => by
      unfold late
      have e1 : ((i : Int) + 1) * (m * d - P) = (m * d - P) * i + (m * d - P) := by rw [Int.add_mul, Int.one_mul, Int.mul_comm]
      rw [e1]
      have k : ((m * d - P) * i + (m * d - P)) / m ≤ d - c := by
        by_cases hz : m * d - P = 0
        · rw [hz, Int.zero_mul, Int.zero_add, Int.zero_ediv]; omega
        · rw [if_neg hz] at eN
          have h := lt_up (a := (d - c) * m) (b := m * d - P) (k := (i : Int) + 1) (by omega)
          have h2 := Int.ediv_lt_iff_lt_mul (a := (m * d - P) * i + (m * d - P)) (b := d - c) hm
          rw [e1] at h
          omega
      show min d (((m * d - P) * i + (m * d - P)) / m + c) = ((m * d - P) * i + (m * d - P)) / m + c
      omega
    rw [sumN_congr this, sumN_plus, sumN_const]
    rfl
  have g2 : sumN (fun i => late c m P d ((n + i : Nat) : Int)) (Q - n) = ((Q : Int) - n) * d := by
    have : ∀ i, i < Q - n → late c m P d ((n + i : Nat) : Int) = d := fun i hi => by
      have hz : ¬ m * d - P = 0 := fun z => by rw [if_pos z] at eN; omega
      rw [if_neg hz] at eN
      unfold late
      have h := lt_up (a := (d - c) * m) (b := m * d - P) (k := ((n + i : Nat) : Int) + 1) (by omega)
      have h2 := Int.le_ediv_iff_mul_le (a := d - c) (b := (((n + i : Nat) : Int) + 1) * (m * d - P)) hm
      omega
    rw [sumN_congr this, sumN_const]
    congr 1
    omega
  rw [g1, g2, Int.toNat_natCast]
theorem full_early (R : Rc c m P d) (he : m * d - P < 0) (Q : Nat) : sumN (fun q => early c m P d q) Q = fullC c m P d Q := by
  have hb := fullN_b R (Q := Q) (by omega)
  have eN : fullN c m P d Q = min (Q : Int) ((d + c - 1) * m / (P - m * d) + 1) := by
    unfold fullN; rw [if_neg (by omega)]
  have d0 := R.d0
  have c0 := R.c0
  have c1 := R.c1
  have m0 := R.m0
  unfold fullC
  rw [if_neg (by omega)]
  by_cases hQ : (Q : Int) = 0
  · have : Q = 0 := by omega
    subst this
    rfl
  rw [if_neg hQ]
  by_cases hm : m = 0
  · rw [if_pos hm]
    have h1 : ∀ i : Nat, early c m P d i = if (0 : Int) < i then d else 0 := fun i => by unfold early; simp [hm]
    obtain ⟨k, rfl⟩ : ∃ k, Q = 1 + k := ⟨Q - 1, by omega⟩
    rw [sumN_add, sumN, sumN, h1]
    have : ∀ i, i < k → early c m P d ((1 + i : Nat) : Int) = d := fun i _ => by rw [h1]; exact if_pos (by omega)
    rw [sumN_congr this, sumN_const]
    simp
    congr 1
    omega
  rw [if_neg hm]
  have hE : 0 < P - m * d := by omega
  have A : 0 ≤ (d + c - 1) * m / (P - m * d) := Int.ediv_nonneg (Int.mul_nonneg (by omega) m0) (by omega)
  generalize hN : fullN c m P d Q = N at *
  obtain ⟨n, rfl⟩ := Int.eq_ofNat_of_zero_le hb.1
  have n1 : 1 ≤ n := by omega
  rw [sumN_split (fun q => early c m P d q) (k := n) (n := Q) (by omega)]
  have ups : ∀ i : Int, up (i * (P - m * d)) m = ((P - m * d) * i + (m - 1)) / m := fun i => by
    have h0 : 0 < m := by omega
    have h1 := fun k => up_le (a := i * (P - m * d)) (b := m) (k := k) h0
    have h2 := fun k => Int.ediv_lt_iff_lt_mul (a := (P - m * d) * i + (m - 1)) (b := k) h0
    rw [Int.mul_comm (P - m * d)] at h2 ⊢
    have a1 := (h1 _).mp (Int.le_refl _)
    have a2 := h2 (up (i * (P - m * d)) m + 1)
    rw [Int.add_mul, Int.one_mul] at a2
    have b1 := h1 ((i * (P - m * d) + (m - 1)) / m)
    have b2 := (h2 ((i * (P - m * d) + (m - 1)) / m + 1)).mp (by omega)
    rw [Int.add_mul, Int.one_mul] at b2
    omega
  have g1 : sumN (fun q => early c m P d q) n = fsum n m (P - m * d) (m - 1) - ((n : Int) - 1) * c := by
    obtain ⟨k, rfl⟩ : ∃ k, n = 1 + k := ⟨n - 1, by omega⟩
    have f1 : fsum (1 + k) m (P - m * d) (m - 1) = sumN (fun i => ((P - m * d) * ((1 + i : Nat) : Int) + (m - 1)) / m) k := by
      unfold fsum
      rw [sumN_add]
      show 0 + ((P - m * d) * ((0 : Nat) : Int) + (m - 1)) / m + _ = _
      rw [Int.natCast_zero, Int.mul_zero, Int.zero_add, Int.zero_add, Int.ediv_eq_zero_of_lt (by omega) (by omega), Int.zero_add]
    have z : early c m P d ((0 : Nat) : Int) = 0 := by unfold early; simp
    rw [sumN_add, sumN, sumN, z, f1]
    have : ∀ i, i < k → early c m P d ((1 + i : Nat) : Int) = (fun i : Nat => ((P - m * d) * ((1 + i : Nat) : Int) + (m - 1)) / m) i + -c := fun i hi => by
      have hne : ¬ (((1 + i : Nat) : Int) = 0 ∨ m = 0) := by omega
      unfold early
      rw [if_neg hne, ups]
      have k1 : ((P - m * d) * ((1 + i : Nat) : Int) + (m - 1)) / m ≤ d + c - 1 := by
        rw [← ups, up_le (by omega)]
        have h := Int.le_ediv_iff_mul_le (a := ((1 + i : Nat) : Int)) (b := (d + c - 1) * m) hE
        omega
      show min d (((P - m * d) * ((1 + i : Nat) : Int) + (m - 1)) / m - c) = ((P - m * d) * ((1 + i : Nat) : Int) + (m - 1)) / m + -c
      omega
    rw [sumN_congr this, sumN_plus, sumN_const, Int.mul_neg]
    have : (((1 + k : Nat) : Int) - 1) = k := by omega
    rw [this]
    omega
  have g2 : sumN (fun i => early c m P d ((n + i : Nat) : Int)) (Q - n) = ((Q : Int) - n) * d := by
    have : ∀ i, i < Q - n → early c m P d ((n + i : Nat) : Int) = d := fun i hi => by
      have hne : ¬ (((n + i : Nat) : Int) = 0 ∨ m = 0) := by omega
      unfold early
      rw [if_neg hne]
      have h := Int.le_ediv_iff_mul_le (a := ((n + i : Nat) : Int)) (b := (d + c - 1) * m) hE
      have h2 := lt_up (a := ((n + i : Nat) : Int) * (P - m * d)) (b := m) (k := d + c - 1) (by omega)
      omega
    rw [sumN_congr this, sumN_const]
    congr 1
    omega
  rw [g1, g2, Int.toNat_natCast]
theorem full_ok (R : Rc c m P d) (Q : Nat) : sumN (fun q => hi c m P d q - lo c m P d q) Q = fullC c m P d Q := by
  unfold hi lo
  by_cases he : 0 ≤ m * d - P
  · rw [← full_late R he]
    refine sumN_congr fun i _ => ?_
    simp only [if_pos he]
    omega
  · rw [← full_early R (by omega)]
    refine sumN_congr fun i _ => ?_
    simp only [if_neg he]
    omega
/-! ## the first one -/
def firstQ (c m P d T : Int) : Int :=
  if 0 ≤ m * d - P then (if c = 1 then 0 else if 0 < m * d - P then up m (m * d - P) - 1 else T + 1)
  else if c = 1 then m / (P - m * d) + 1 else 1
theorem firstQ_nonneg (R : Rc c m P d) {T : Int} (hT : 0 ≤ T) : 0 ≤ firstQ c m P d T := by
  unfold firstQ
  by_cases he : 0 ≤ m * d - P
  · rw [if_pos he]
    have hm := R.mp he
    split
    · omega
    · split
      · have := lt_up (a := m) (b := m * d - P) (k := 0) (by omega)
        omega
      · omega
  · rw [if_neg he]
    have := Int.ediv_nonneg R.m0 (by omega : 0 ≤ P - m * d)
    split <;> omega
/-- ahead of it there is none -/
theorem first_none (R : Rc c m P d) (hc : c = 0 ∨ c = 1) {T q : Int} (hT : 0 ≤ T) (q0 : 0 ≤ q) (hq : q < firstQ c m P d T) (hqT : q ≤ T) : hi c m P d q = lo c m P d q := by
  have d0 := R.d0
  unfold firstQ at hq
  unfold hi lo
  by_cases he : 0 ≤ m * d - P
  · rw [if_pos he] at hq ⊢
    rw [if_pos he]
    have hm := R.mp he
    by_cases h1 : c = 1
    · rw [if_pos h1] at hq; omega
    · have h0 : c = 0 := by omega
      subst h0
      rw [if_neg h1] at hq
      unfold late
      by_cases hp : 0 < m * d - P
      · rw [if_pos hp] at hq
        have h := lt_up (a := m) (b := m * d - P) (k := q + 1) hp
        have : (q + 1) * (m * d - P) / m = 0 := Int.ediv_eq_zero_of_lt (Int.mul_nonneg (by omega) he) (by omega)
        omega
      · have : m * d - P = 0 := by omega
        rw [this, Int.mul_zero, Int.zero_ediv]
        omega
  · rw [if_neg he] at hq ⊢
    rw [if_neg he]
    unfold early
    by_cases h1 : c = 1
    · subst h1
      rw [if_pos rfl] at hq
      by_cases hz : q = 0
      · simp [hz]
      · have hm : ¬ m = 0 := fun z => by subst z; rw [Int.zero_ediv] at hq; omega
        have m0 := R.m0
        have h := Int.le_ediv_iff_mul_le (a := q) (b := m) (by omega : 0 < P - m * d)
        have h2 := up_le (a := q * (P - m * d)) (b := m) (k := 1) (by omega)
        have h3 := lt_up (a := q * (P - m * d)) (b := m) (k := 0) (by omega)
        have a1 : 0 < q * (P - m * d) := Int.mul_pos (by omega) (by omega)
        rw [Int.zero_mul] at h3
        rw [Int.one_mul] at h2
        rw [if_neg (by omega)]
        omega
    · rw [if_neg h1] at hq
      have : q = 0 := by omega
      simp [this]
/-- there, there is one -/
theorem first_some (R : Rc c m P d) (hc : c = 0 ∨ c = 1) {T : Int} (hT : 0 ≤ T) (hq : firstQ c m P d T ≤ T) : lo c m P d (firstQ c m P d T) < hi c m P d (firstQ c m P d T) := by
  have d0 := R.d0
  have n0 := firstQ_nonneg R hT
  unfold hi lo
  unfold firstQ at *
  by_cases he : 0 ≤ m * d - P
  · simp only [if_pos he] at *
    have hm := R.mp he
    unfold late
    by_cases h1 : c = 1
    · simp only [if_pos h1] at *
      have : 0 ≤ (0 + 1) * (m * d - P) / m := Int.ediv_nonneg (by omega) (by omega)
      omega
    · simp only [if_neg h1] at *
      by_cases hp : 0 < m * d - P
      · simp only [if_pos hp] at *
        have h := up_le (a := m) (b := m * d - P) (k := up m (m * d - P)) hp
        have h2 := Int.le_ediv_iff_mul_le (a := 1) (b := up m (m * d - P) * (m * d - P)) hm
        rw [Int.sub_add_cancel]
        omega
      · simp only [if_neg hp] at *
        omega
  · simp only [if_neg he] at *
    have m0 := R.m0
    have A := Int.ediv_nonneg R.m0 (by omega : 0 ≤ P - m * d)
    unfold early
    by_cases h1 : c = 1
    · simp only [if_pos h1] at *
      by_cases hm : m = 0
      · subst hm
        rw [if_pos (.inr rfl), Int.zero_ediv, if_pos (by omega)]
        exact d0
      · rw [if_neg (by omega)]
        have h := Int.ediv_lt_iff_lt_mul (a := m) (b := m / (P - m * d) + 1) (by omega : 0 < P - m * d)
        have h2 := lt_up (a := (m / (P - m * d) + 1) * (P - m * d)) (b := m) (k := 1) (by omega)
        rw [Int.one_mul] at h2
        omega
    · simp only [if_neg h1] at *
      by_cases hm : m = 0
      · subst hm
        rw [if_pos (.inr rfl), if_pos (by omega)]
        exact d0
      · rw [if_neg (by omega)]
        have h2 := lt_up (a := 1 * (P - m * d)) (b := m) (k := 0) (by omega)
        omega
end
end PE

set_option linter.all false
set_option maxRecDepth 100000
namespace PE
/-! ## right up to a bound: exactly if at the looks -/
def okB (c m P d b : Int) : Prop := ∀ n, 0 ≤ n → n ≤ b → tl c m P n = n / d
/-- the last word up to b with rest d - 1, or b -/
def lastU (d b : Int) : Int := if d - 1 ≤ b then (b + 1) / d * d - 1 else b
/-- the last multiple up to b -/
def lastM (d b : Int) : Int := b / d * d
section
variable {m P d b : Int}
theorem dm (hd : 0 < d) (n : Int) : n / d * d + n % d = n ∧ 0 ≤ n % d ∧ n % d < d := by
  have := Int.emod_add_mul_ediv n d
  rw [Int.mul_comm d] at this
  exact ⟨by omega, Int.emod_nonneg _ (by omega), Int.emod_lt_of_pos _ hd⟩
theorem lastU_b (hd : 0 < d) (hb : 0 ≤ b) : 0 ≤ lastU d b ∧ lastU d b ≤ b := by
  unfold lastU
  split
  · have h := dm hd (b + 1)
    have h2 := Int.le_ediv_iff_mul_le (a := 1) (b := b + 1) hd
    have h3 : 1 * d ≤ (b + 1) / d * d := Int.mul_le_mul_of_nonneg_right (by omega) (by omega)
    omega
  · omega
theorem lastM_b (hd : 0 < d) (hb : 0 ≤ b) : 0 ≤ lastM d b ∧ lastM d b ≤ b := by
  have h := dm hd b
  have := Int.mul_nonneg (Int.ediv_nonneg hb (by omega : 0 ≤ d)) (by omega : 0 ≤ d)
  unfold lastM
  omega
/-- what "up" asks -/
def upC (m P d b : Int) : Prop := (d ≤ b → 0 ≤ m * d - P) ∧ lastU d b * m < P * (lastU d b / d + 1)
def moreC (m P d b : Int) : Prop := (min (d - 1) b + 1) * m < P ∧ P * (lastM d b / d) ≤ (lastM d b + 1) * m
theorem tl_le (hP : 0 < P) {c n k : Int} : tl c m P n ≤ k ↔ (n + c) * m < P * (k + 1) := by
  unfold tl
  have := Int.ediv_lt_iff_lt_mul (a := (n + c) * m) (b := k + 1) hP
  rw [Int.mul_comm P]
  omega
theorem le_tl (hP : 0 < P) {c n k : Int} : k ≤ tl c m P n ↔ P * k ≤ (n + c) * m := by
  unfold tl
  have := Int.le_ediv_iff_mul_le (a := k) (b := (n + c) * m) hP
  rw [Int.mul_comm P]
  exact this
theorem up_all (R : Rc 0 m P d) (hb : 0 ≤ b) (h : upC m P d b) : okB 0 m P d b := fun n n0 n1 => by
  have d0 := R.d0; have m0 := R.m0; have P0 := R.P0
  obtain ⟨h1, h2⟩ := h
  have hn := dm d0 n
  have q0 : 0 ≤ n / d := Int.ediv_nonneg n0 (by omega)
  have key := tl_iff (c := 0) (m := m) (d := d) P0 (n / d) (n % d)
  rw [hn.1] at key
  rw [key]
  rw [Int.add_zero]
  generalize hq : n / d = q at *
  generalize hr : n % d = r at *
  have rm : 0 ≤ r * m := Int.mul_nonneg hn.2.1 m0
  unfold lastU at h2
  by_cases hc : d - 1 ≤ b
  · rw [if_pos hc] at h2
    have hk := dm d0 (b + 1)
    have k1 : 1 ≤ (b + 1) / d := by
      have h2 := Int.le_ediv_iff_mul_le (a := 1) (b := b + 1) d0
      omega
    generalize (b + 1) / d = K1 at *
    have eK : K1 * d - 1 = (K1 - 1) * d + (d - 1) := by rw [Int.sub_mul, Int.one_mul]; omega
    have eq : (K1 * d - 1) / d = K1 - 1 := by rw [eK]; exact quot d0 (by omega) (by omega)
    rw [eq, eK] at h2
    -- K e + (d - 1) m < P
    have h3 : (K1 - 1) * (m * d - P) + (d - 1) * m < P := by
      have e1 : ((K1 - 1) * d + (d - 1)) * m = (K1 - 1) * (m * d) + (d - 1) * m := by rw [Int.add_mul, Int.mul_assoc, Int.mul_comm d m]
      rw [e1] at h2
      have e2 : P * (K1 - 1 + 1) = (K1 - 1) * P + P := by rw [Int.mul_add, Int.mul_comm P, Int.mul_one]
      rw [Int.mul_sub]
      omega
    have hr1 : r * m ≤ (d - 1) * m := Int.mul_le_mul_of_nonneg_right (by omega) m0
    by_cases hdb : d ≤ b
    · have he := h1 hdb
      have qe : 0 ≤ q * (m * d - P) := Int.mul_nonneg q0 he
      refine ⟨by omega, ?_⟩
      rcases Int.lt_or_le q K1 with c1 | c1
      · have := Int.mul_le_mul_of_nonneg_right (by omega : q ≤ K1 - 1) he
        omega
      · -- behind the last one
        have qk : q = K1 := by
          rcases Int.lt_or_le K1 q with c2 | c2
          · exfalso
            have := Int.mul_le_mul_of_nonneg_right (by omega : K1 + 1 ≤ q) (by omega : 0 ≤ d)
            rw [Int.add_mul] at this
            omega
          · omega
        subst qk
        have r1 : r ≤ d - 2 := by omega
        have e3 : (q - 1) * (m * d - P) = q * (m * d - P) - (m * d - P) := by rw [Int.sub_mul, Int.one_mul]
        have e4 : (d - 1) * m = m * d - m := by rw [Int.sub_mul, Int.one_mul, Int.mul_comm]
        have e5 : r * m ≤ (d - 2) * m := Int.mul_le_mul_of_nonneg_right r1 m0
        have e6 : (d - 2) * m = m * d - 2 * m := by rw [Int.sub_mul, Int.mul_comm d]
        have e7 : 0 ≤ (q - 1) * (m * d - P) := Int.mul_nonneg (by omega) he
        omega
    · -- b = d - 1
      have qz : q = 0 := by
        rw [← hq]; exact Int.ediv_eq_zero_of_lt n0 (by omega)
      subst qz
      have kz : K1 = 1 := by
        have : b + 1 = d := by omega
        have e9 : K1 * d ≤ 1 * d := by omega
        have := Int.le_of_mul_le_mul_right e9 d0
        omega
      subst kz
      rw [Int.sub_self, Int.zero_mul] at h3
      rw [Int.zero_mul]
      omega
  · rw [if_neg hc] at h2
    have qz : q = 0 := by rw [← hq]; exact Int.ediv_eq_zero_of_lt n0 (by omega)
    have bz : b / d = 0 := Int.ediv_eq_zero_of_lt hb (by omega)
    have rn : r = n := by rw [qz] at hn; omega
    subst rn
    subst qz
    rw [bz, Int.zero_add, Int.mul_one] at h2
    have : r * m ≤ b * m := Int.mul_le_mul_of_nonneg_right n1 m0
    rw [Int.zero_mul]
    omega
theorem more_all (R : Rc 1 m P d) (hb : 0 ≤ b) (h : moreC m P d b) : okB 1 m P d b := fun n n0 n1 => by
  have d0 := R.d0; have m0 := R.m0; have P0 := R.P0
  obtain ⟨h1, h2⟩ := h
  have hn := dm d0 n
  have q0 : 0 ≤ n / d := Int.ediv_nonneg n0 (by omega)
  have key := tl_iff (c := 1) (m := m) (d := d) P0 (n / d) (n % d)
  rw [hn.1] at key
  rw [key]
  have qb : n / d ≤ b / d := Int.ediv_le_ediv d0 n1
  generalize hq : n / d = q at *
  generalize hr : n % d = r at *
  have rm : 1 * m ≤ (r + 1) * m := Int.mul_le_mul_of_nonneg_right (by omega) m0
  rw [Int.one_mul] at rm
  by_cases hc : d - 1 ≤ b
  · have e1 : min (d - 1) b + 1 = d := by omega
    rw [e1, Int.mul_comm] at h1
    have he : m * d - P < 0 := by omega
    unfold lastM at h2
    have em : b / d * d / d = b / d := Int.mul_ediv_cancel _ (by omega)
    rw [em] at h2
    have k0 : 0 ≤ b / d := Int.ediv_nonneg hb (by omega)
    generalize b / d = K at *
    have h3 : 0 ≤ K * (m * d - P) + m := by
      have e2 : (K * d + 1) * m = K * (m * d) + m := by rw [Int.add_mul, Int.one_mul, Int.mul_assoc, Int.mul_comm d m]
      rw [e2, Int.mul_comm P] at h2
      rw [Int.mul_sub]
      omega
    have h4 : q * (P - m * d) ≤ K * (P - m * d) := Int.mul_le_mul_of_nonneg_right qb (by omega)
    have e5 : ∀ z : Int, z * (P - m * d) = -(z * (m * d - P)) := fun z => by rw [Int.mul_sub, Int.mul_sub]; omega
    rw [e5, e5] at h4
    have h6 : (r + 1) * m ≤ d * m := Int.mul_le_mul_of_nonneg_right (by omega) m0
    rw [Int.mul_comm d m] at h6
    have h7 : 0 ≤ q * (P - m * d) := Int.mul_nonneg q0 (by omega)
    rw [e5] at h7
    omega
  · have qz : q = 0 := by rw [← hq]; exact Int.ediv_eq_zero_of_lt n0 (by omega)
    subst qz
    have e1 : min (d - 1) b + 1 = b + 1 := by omega
    rw [e1] at h1
    have rn : r = n := by omega
    subst rn
    have : (r + 1) * m ≤ (b + 1) * m := Int.mul_le_mul_of_nonneg_right (by omega) m0
    rw [Int.zero_mul]
    omega
/-- from the looks -/
theorem up_looks (R : Rc 0 m P d) (hb : 0 ≤ b) (h1 : d ≤ b → tl 0 m P d = d / d) (h2 : tl 0 m P (lastU d b) = lastU d b / d) : upC m P d b := by
  have d0 := R.d0; have P0 := R.P0
  refine ⟨fun hd => ?_, ?_⟩
  · have := h1 hd
    rw [Int.ediv_self (by omega)] at this
    have := (le_tl (m := m) (c := 0) (n := d) (k := 1) P0).mp (by omega)
    rw [Int.add_zero, Int.mul_one, Int.mul_comm] at this
    omega
  · have := (tl_le (m := m) (c := 0) (n := lastU d b) (k := lastU d b / d) P0).mp (by omega)
    rwa [Int.add_zero] at this
theorem more_looks (R : Rc 1 m P d) (hb : 0 ≤ b) (h1 : tl 1 m P (min (d - 1) b) = min (d - 1) b / d) (h2 : tl 1 m P (lastM d b) = lastM d b / d) : moreC m P d b := by
  have d0 := R.d0; have P0 := R.P0
  refine ⟨?_, ?_⟩
  · have z : min (d - 1) b / d = 0 := Int.ediv_eq_zero_of_lt (by omega) (by omega)
    have := (tl_le (m := m) (c := 1) (n := min (d - 1) b) (k := 0) P0).mp (by omega)
    rwa [Int.zero_add, Int.mul_one] at this
  · exact (le_tl (m := m) (c := 1) (n := lastM d b) (k := lastM d b / d) P0).mp (by omega)
theorem up_iff (R : Rc 0 m P d) (hb : 0 ≤ b) : okB 0 m P d b ↔ upC m P d b := ⟨fun h => up_looks R hb (fun hd => h d (by have := R.d0; omega) hd) (h _ (lastU_b R.d0 hb).1 (lastU_b R.d0 hb).2), up_all R hb⟩
theorem more_iff (R : Rc 1 m P d) (hb : 0 ≤ b) : okB 1 m P d b ↔ moreC m P d b := ⟨fun h => more_looks R hb (h _ (by have := R.d0; omega) (by omega)) (h _ (lastM_b R.d0 hb).1 (lastM_b R.d0 hb).2), more_all R hb⟩
/-! ## all multipliers of a shift, for all words below E -/
theorem up_range (R : Rc 0 m P d) {E : Int} (hE : d < E) : okB 0 m P d (E - 1) ↔ up P d ≤ m ∧ m ≤ (P + (P - 1) / (E / d * d - 1)) / d := by
  have d0 := R.d0; have P0 := R.P0; have m0 := R.m0
  rw [up_iff R (by omega)]
  unfold upC
  have hl : lastU d (E - 1) = E / d * d - 1 := by
    unfold lastU; rw [if_pos (by omega)]; congr 3; omega
  rw [hl]
  have hk := dm d0 E
  have k1 : 1 ≤ E / d := by
    have h2 := Int.le_ediv_iff_mul_le (a := 1) (b := E) d0
    omega
  have Lp : 0 < E / d * d - 1 := by
    have h3 : 1 * d ≤ E / d * d := Int.mul_le_mul_of_nonneg_right k1 (by omega)
    rcases Int.lt_or_le 1 d with c | c
    · omega
    · have : d = 1 := by omega
      subst this
      rw [Int.ediv_one] at *
      omega
  generalize hK : E / d = K at *
  have eL : K * d - 1 = (K - 1) * d + (d - 1) := by rw [Int.sub_mul, Int.one_mul]; omega
  have eq : (K * d - 1) / d = K - 1 := by rw [eL]; exact quot d0 (by omega) (by omega)
  rw [eq]
  have a1 := up_le (a := P) (b := d) (k := m) d0
  have a2 := Int.le_ediv_iff_mul_le (a := m) (b := P + (P - 1) / (K * d - 1)) d0
  have a3 := Int.le_ediv_iff_mul_le (a := m * d - P) (b := P - 1) Lp
  rw [a1, a2]
  -- L m < P K exactly if L e < P
  have e1 : (m * d - P) * (K * d - 1) = d * ((K * d - 1) * m) - (K * d - 1) * P := by
    rw [Int.sub_mul, Int.mul_comm m d, Int.mul_assoc, Int.mul_comm m, Int.mul_comm P]
  have e2 : (K * d - 1) * P = d * (P * K) - P := by
    rw [Int.sub_mul, Int.one_mul, Int.mul_comm K d, Int.mul_assoc, Int.mul_comm K P]
  have e3 : P * (K - 1 + 1) = P * K := by congr 1; omega
  rw [e3]
  have e4 : (K * d - 1) * m < P * K ↔ (m * d - P) * (K * d - 1) ≤ P - 1 := by
    rw [e1, e2]
    constructor
    · intro h
      have := Int.mul_le_mul_of_nonneg_left (by omega : (K * d - 1) * m + 1 ≤ P * K) (by omega : 0 ≤ d)
      rw [Int.mul_add, Int.mul_one] at this
      omega
    · intro h
      rcases Int.lt_or_le ((K * d - 1) * m) (P * K) with c | c
      · exact c
      · exfalso
        have := Int.mul_le_mul_of_nonneg_left c (by omega : 0 ≤ d)
        omega
  rw [e4]
  constructor
  · rintro ⟨h1, h2⟩
    have := h1 (by omega)
    exact ⟨by omega, by omega⟩
  · rintro ⟨h1, h2⟩
    exact ⟨fun _ => by omega, a3.mp (by omega)⟩
theorem more_range (R : Rc 1 m P d) {E : Int} (hE : d < E) : okB 1 m P d (E - 1) ↔ up (P - P / ((E - 1) / d * d + 1)) d ≤ m ∧ m ≤ up P d - 1 := by
  have d0 := R.d0; have P0 := R.P0; have m0 := R.m0
  rw [more_iff R (by omega)]
  unfold moreC lastM
  have e1 : min (d - 1) (E - 1) + 1 = d := by omega
  rw [e1]
  have k0 : 0 ≤ (E - 1) / d := Int.ediv_nonneg (by omega) (by omega)
  have em : (E - 1) / d * d / d = (E - 1) / d := Int.mul_ediv_cancel _ (by omega)
  rw [em]
  have kd : 0 ≤ (E - 1) / d * d := Int.mul_nonneg k0 (by omega)
  generalize (E - 1) / d = K at *
  have a1 := up_le (a := P - P / (K * d + 1)) (b := d) (k := m) d0
  have a2 := lt_up (a := P) (b := d) (k := m) d0
  have a3 := Int.le_ediv_iff_mul_le (a := P - m * d) (b := P) (by omega : 0 < K * d + 1)
  rw [a1]
  have e2 : (P - m * d) * (K * d + 1) = (K * d + 1) * P - d * ((K * d + 1) * m) := by
    rw [Int.sub_mul, Int.mul_comm P, Int.mul_comm m d, Int.mul_assoc, Int.mul_comm m]
  have e3 : (K * d + 1) * P = d * (P * K) + P := by
    rw [Int.add_mul, Int.one_mul, Int.mul_comm K d, Int.mul_assoc, Int.mul_comm K P]
  have e4 : P * K ≤ (K * d + 1) * m ↔ (P - m * d) * (K * d + 1) ≤ P := by
    rw [e2, e3]
    constructor
    · intro h
      have := Int.mul_le_mul_of_nonneg_left h (by omega : 0 ≤ d)
      omega
    · intro h
      rcases Int.lt_or_le ((K * d + 1) * m) (P * K) with c | c
      · exfalso
        have := Int.mul_le_mul_of_nonneg_left (by omega : (K * d + 1) * m + 1 ≤ P * K) (by omega : 0 ≤ d)
        rw [Int.mul_add, Int.mul_one] at this
        omega
      · exact c
  rw [e4, Int.mul_comm d m]
  omega
/-- there is a right recipe whose multiplier is a word -/
theorem word_ex {w : Nat} {d : Int} (d1 : 1 ≤ d) (d2 : d < 2 ^ w) : ∃ (s : Nat) (m : Int), s ≤ 2 * w ∧ 0 ≤ m ∧ m ≤ 2 ^ w - 1 ∧ (okB 0 m (2 ^ s) d (2 ^ w - 1) ∨ okB 1 m (2 ^ s) d (2 ^ w - 1)) := by
  have one : ∀ n : Nat, (1 : Int) ≤ 2 ^ n := fun n => (show (0 : Int) < _ from Int.pow_pos (by decide))
  obtain ⟨k, hk1, hk2⟩ : ∃ k : Nat, (2 : Int) ^ k ≤ d ∧ d < 2 ^ (k + 1) := by
    refine ⟨d.toNat.log2, ?_, ?_⟩
    · have := Nat.log2_self_le (n := d.toNat) (by omega)
      have e : ((2 ^ d.toNat.log2 : Nat) : Int) = 2 ^ d.toNat.log2 := by norm_cast
      omega
    · have := Nat.lt_log2_self (n := d.toNat)
      have e : ((2 ^ (d.toNat.log2 + 1) : Nat) : Int) = 2 ^ (d.toNat.log2 + 1) := by norm_cast
      omega
  have p1 := one k
  have pw := one w
  rw [Int.pow_succ] at hk2
  have kw : k < w := by
    rcases Nat.lt_or_ge k w with c | c
    · exact c
    · exfalso
      obtain ⟨j, rfl⟩ := Nat.exists_eq_add_of_le c
      rw [Int.pow_add] at hk1
      have := Int.mul_le_mul_of_nonneg_left (one j) (by omega : (0 : Int) ≤ 2 ^ w)
      omega
  by_cases hd : d = 2 ^ k
  · refine ⟨k, 1, by omega, by decide, by omega, .inl fun n n0 n1 => ?_⟩
    unfold tl
    rw [Int.add_zero, Int.mul_one, hd]
  · have ps : (2 : Int) ^ (w + k) = 2 ^ w * 2 ^ k := Int.pow_add _ _ _
    have hP : (0 : Int) < 2 ^ (w + k) := Int.pow_pos (by decide)
    have hdm := dm (by omega : 0 < d) (2 ^ (w + k))
    have m0 : 0 ≤ (2 : Int) ^ (w + k) / d := Int.ediv_nonneg (by omega) (by omega)
    have mt : (2 : Int) ^ (w + k) / d < 2 ^ w := by
      apply Int.ediv_lt_of_lt_mul (by omega)
      rw [ps]
      have := Int.mul_le_mul_of_nonneg_left (by omega : (2 : Int) ^ k + 1 ≤ d) (by omega : (0 : Int) ≤ 2 ^ w)
      rw [Int.mul_add] at this
      omega
    have tight : (2 : Int) ^ (w + k) ≤ (2 ^ w - 1) * d := by
      have h1 := Int.mul_le_mul_of_nonneg_left (by omega : (2 : Int) ^ k + 1 ≤ d) (by omega : (0 : Int) ≤ 2 ^ w - 1)
      rw [Int.mul_add, Int.sub_mul, Int.one_mul] at h1
      omega
    by_cases hr : 2 ^ (w + k) % d = 0 ∨ d - 2 ^ (w + k) % d ≤ 2 ^ k
    · -- up
      have u1 := up_le (a := 2 ^ (w + k)) (b := d) (k := up (2 ^ (w + k)) d) (by omega)
      have u2 := lt_up (a := 2 ^ (w + k)) (b := d) (k := up (2 ^ (w + k)) d - 1) (by omega)
      have u3 := up_nonneg (a := 2 ^ (w + k)) (b := d) (by omega) (by omega)
      have u4 := up_le (a := 2 ^ (w + k)) (b := d) (k := 2 ^ w - 1) (by omega)
      have g1 := u1.mp (Int.le_refl _)
      have g2 := u2.mp (by omega)
      rw [Int.sub_mul, Int.one_mul] at g2
      refine ⟨w + k, up (2 ^ (w + k)) d, by omega, u3, u4.mpr tight, .inl ?_⟩
      have R : Rc 0 (up (2 ^ (w + k)) d) (2 ^ (w + k)) d := ⟨by decide, by decide, u3, hP, by omega⟩
      have e2 : up (2 ^ (w + k)) d * d - 2 ^ (w + k) ≤ 2 ^ k := by
        rcases hr with h | h
        · have := up_le (a := 2 ^ (w + k)) (b := d) (k := 2 ^ (w + k) / d) (by omega)
          have h5 := this.mpr (by omega)
          have := Int.mul_le_mul_of_nonneg_right h5 (by omega : 0 ≤ d)
          omega
        · have := up_le (a := 2 ^ (w + k)) (b := d) (k := 2 ^ (w + k) / d + 1) (by omega)
          rw [Int.add_mul, Int.one_mul] at this
          have h5 := this.mpr (by omega)
          have := Int.mul_le_mul_of_nonneg_right h5 (by omega : 0 ≤ d)
          rw [Int.add_mul, Int.one_mul] at this
          omega
      rw [up_range R d2]
      refine ⟨Int.le_refl _, ?_⟩
      have a2 := Int.le_ediv_iff_mul_le (a := up (2 ^ (w + k)) d) (b := 2 ^ (w + k) + (2 ^ (w + k) - 1) / (2 ^ w / d * d - 1)) (by omega : 0 < d)
      rw [a2]
      have hE := dm (by omega : 0 < d) (2 ^ w)
      have L1 : 0 < 2 ^ w / d * d - 1 := by
        have k1 : 1 ≤ (2 : Int) ^ w / d := by
          have h2 := Int.le_ediv_iff_mul_le (a := 1) (b := 2 ^ w) (by omega : 0 < d)
          omega
        have h3 : 1 * d ≤ 2 ^ w / d * d := Int.mul_le_mul_of_nonneg_right k1 (by omega)
        have : 2 ≤ d := by omega
        omega
      have a3 := Int.le_ediv_iff_mul_le (a := up (2 ^ (w + k)) d * d - 2 ^ (w + k)) (b := 2 ^ (w + k) - 1) L1
      have b1 := Int.mul_le_mul_of_nonneg_right e2 (by omega : 0 ≤ 2 ^ w / d * d - 1)
      have b2 := Int.mul_le_mul_of_nonneg_left (by omega : 2 ^ w / d * d - 1 ≤ 2 ^ w - 1) (by omega : (0 : Int) ≤ 2 ^ k)
      have b3 : (2 : Int) ^ k * (2 ^ w - 1) = 2 ^ (w + k) - 2 ^ k := by rw [Int.mul_sub, Int.mul_comm (2 ^ k) (2 ^ w), ← ps, Int.mul_one]
      have := a3.mpr (by omega)
      omega
    · -- more
      have hr1 : (2 : Int) ^ (w + k) % d ≠ 0 := fun z => hr (.inl z)
      have hr2 : ¬ d - 2 ^ (w + k) % d ≤ 2 ^ k := fun z => hr (.inr z)
      refine ⟨w + k, 2 ^ (w + k) / d, by omega, m0, by omega, .inr ?_⟩
      have R : Rc 1 ((2 : Int) ^ (w + k) / d) (2 ^ (w + k)) d := ⟨by decide, by decide, m0, hP, by omega⟩
      rw [more_range R d2]
      have a1 := up_le (a := 2 ^ (w + k) - 2 ^ (w + k) / ((2 ^ w - 1) / d * d + 1)) (b := d) (k := 2 ^ (w + k) / d) (by omega)
      have a2 := lt_up (a := 2 ^ (w + k)) (b := d) (k := 2 ^ (w + k) / d) (by omega)
      rw [a1]
      refine ⟨?_, by have := a2.mpr (by omega); omega⟩
      have hE := dm (by omega : 0 < d) (2 ^ w - 1)
      have kd : 0 ≤ ((2 : Int) ^ w - 1) / d * d := Int.mul_nonneg (Int.ediv_nonneg (by omega) (by omega)) (by omega)
      have a3 := Int.le_ediv_iff_mul_le (a := 2 ^ (w + k) % d) (b := 2 ^ (w + k)) (by omega : 0 < ((2 : Int) ^ w - 1) / d * d + 1)
      have b1 := Int.mul_le_mul_of_nonneg_right (by omega : 2 ^ (w + k) % d ≤ 2 ^ k) (by omega : 0 ≤ ((2 : Int) ^ w - 1) / d * d + 1)
      have b2 := Int.mul_le_mul_of_nonneg_left (by omega : ((2 : Int) ^ w - 1) / d * d + 1 ≤ 2 ^ w) (by omega : (0 : Int) ≤ 2 ^ k)
      rw [Int.mul_comm (2 ^ k) (2 ^ w), ← ps] at b2
      have := a3.mpr (by omega)
      omega
end
end PE

set_option linter.all false
set_option maxRecDepth 100000
namespace PE
/-! ## all multipliers of a shift, up to a bound -/
section
variable {m P d b : Int}
theorem upC_range (hd : 0 < d) (hb : 0 ≤ b) (hP : 0 < P) (m0 : 0 ≤ m) : upC m P d b ↔ (if d ≤ b then up P d else 0) ≤ m ∧ (0 < lastU d b → m ≤ (P * (lastU d b / d + 1) - 1) / lastU d b) := by
  have L := lastU_b hd hb
  unfold upC
  generalize lastU d b = l at *
  have a1 := up_le (a := P) (b := d) (k := m) hd
  have e1 : (d ≤ b → 0 ≤ m * d - P) ↔ (if d ≤ b then up P d else 0) ≤ m := by
    split
    · rename_i h
      constructor
      · intro g; have := g h; omega
      · intro g _; omega
    · rename_i h
      exact ⟨fun _ => m0, fun _ g => absurd g h⟩
  rw [e1]
  have e2 : l * m < P * (l / d + 1) ↔ (0 < l → m ≤ (P * (l / d + 1) - 1) / l) := by
    by_cases hl : 0 < l
    · have a2 := Int.le_ediv_iff_mul_le (a := m) (b := P * (l / d + 1) - 1) hl
      rw [Int.mul_comm l m]
      constructor
      · intro g _; omega
      · intro g; have := g hl; omega
    · have : l = 0 := by omega
      subst this
      rw [Int.zero_ediv, Int.zero_mul, Int.zero_add, Int.mul_one]
      exact ⟨fun _ h => absurd h hl, fun _ => hP⟩
  rw [e2]
theorem moreC_range (hd : 0 < d) (hb : 0 ≤ b) (hP : 0 < P) (m0 : 0 ≤ m) : moreC m P d b ↔ up (P * (lastM d b / d)) (lastM d b + 1) ≤ m ∧ m ≤ (P - 1) / min d (b + 1) := by
  have L := lastM_b hd hb
  unfold moreC
  generalize lastM d b = l at *
  have a1 := up_le (a := P * (l / d)) (b := l + 1) (k := m) (by omega)
  have a2 := Int.le_ediv_iff_mul_le (a := m) (b := P - 1) (by omega : 0 < min d (b + 1))
  have e1 : min (d - 1) b + 1 = min d (b + 1) := by omega
  rw [a1, e1, Int.mul_comm (min d (b + 1)) m, Int.mul_comm (l + 1) m]
  omega
/-- there is a right recipe of each kind -/
theorem kind_ex {w : Nat} {d : Int} (d1 : 1 ≤ d) (d2 : d < 2 ^ w) (c : Int) (hc : c = 0 ∨ c = 1) : ∃ (s : Nat) (m : Int), s ≤ 2 * w ∧ 0 ≤ m ∧ m ≤ 2 * (2 ^ w - 1) + 1 ∧ okB c m (2 ^ s) d (2 ^ w - 1) := by
  have one : ∀ n : Nat, (1 : Int) ≤ 2 ^ n := fun n => (show (0 : Int) < _ from Int.pow_pos (by decide))
  obtain ⟨k, hk1, hk2⟩ : ∃ k : Nat, (2 : Int) ^ k ≤ d ∧ d < 2 ^ (k + 1) := by
    refine ⟨d.toNat.log2, ?_, ?_⟩
    · have := Nat.log2_self_le (n := d.toNat) (by omega)
      have e : ((2 ^ d.toNat.log2 : Nat) : Int) = 2 ^ d.toNat.log2 := by norm_cast
      omega
    · have := Nat.lt_log2_self (n := d.toNat)
      have e : ((2 ^ (d.toNat.log2 + 1) : Nat) : Int) = 2 ^ (d.toNat.log2 + 1) := by norm_cast
      omega
  have p1 := one k
  have pw := one w
  have kw : k < w := by
    rcases Nat.lt_or_ge k w with c | c
    · exact c
    · exfalso
      obtain ⟨j, rfl⟩ := Nat.exists_eq_add_of_le c
      rw [Int.pow_add] at hk1
      have := Int.mul_le_mul_of_nonneg_left (one j) (by omega : (0 : Int) ≤ 2 ^ w)
      omega
  have ps : (2 : Int) ^ (w + (k + 1)) = 2 ^ w * 2 ^ (k + 1) := Int.pow_add _ _ _
  have pk : (2 : Int) ^ (k + 1) = 2 ^ k * 2 := Int.pow_succ _ _
  have hP : (0 : Int) < 2 ^ (w + (k + 1)) := Int.pow_pos (by decide)
  have pP : (2 : Int) ^ (w + (k + 1)) = 2 * (2 ^ w * 2 ^ k) := by rw [ps, pk, ← Int.mul_assoc, Int.mul_comm _ 2]
  have E1 : (2 : Int) ^ w * d ≤ 2 ^ (w + (k + 1)) := by
    rw [ps]; exact Int.mul_le_mul_of_nonneg_left (by omega) (by omega)
  have u1 := up_le (a := 2 ^ (w + (k + 1))) (b := d) (k := up (2 ^ (w + (k + 1))) d) (by omega)
  have u2 := lt_up (a := 2 ^ (w + (k + 1))) (b := d) (k := up (2 ^ (w + (k + 1))) d - 1) (by omega)
  have u3 := lt_up (a := 2 ^ (w + (k + 1))) (b := d) (k := 0) (by omega)
  rw [Int.zero_mul] at u3
  have g0 := u3.mpr hP
  have g1 := u1.mp (Int.le_refl _)
  have g2 := u2.mp (by omega)
  rw [Int.sub_mul, Int.one_mul] at g2
  rcases hc with rfl | rfl
  · by_cases hd : d = 2 ^ k
    · refine ⟨k, 1, by omega, by decide, by omega, fun n n0 n1 => ?_⟩
      unfold tl
      rw [Int.add_zero, Int.mul_one, hd]
    · have tight : (2 : Int) ^ (w + (k + 1)) ≤ (2 * (2 ^ w - 1) + 1) * d := by
        have h1 := Int.mul_le_mul_of_nonneg_left (by omega : (2 : Int) ^ k + 1 ≤ d) (by omega : (0 : Int) ≤ 2 * (2 ^ w - 1) + 1)
        have h2 : (2 * ((2 : Int) ^ w - 1) + 1) * (2 ^ k + 1) = 2 * (2 ^ w * 2 ^ k) + 2 * 2 ^ w - 2 ^ k - 1 := by
          rw [Int.mul_add, Int.mul_one, Int.add_mul, Int.mul_assoc, Int.sub_mul, Int.one_mul]; omega
        have h3 : (2 : Int) ^ k < 2 ^ w := by omega
        omega
      have u4 := up_le (a := 2 ^ (w + (k + 1))) (b := d) (k := 2 * (2 ^ w - 1) + 1) (by omega)
      refine ⟨w + (k + 1), up (2 ^ (w + (k + 1))) d, by omega, by omega, u4.mpr tight, ?_⟩
      have R : Rc 0 (up (2 ^ (w + (k + 1))) d) (2 ^ (w + (k + 1))) d := ⟨by decide, by decide, by omega, hP, by omega⟩
      rw [up_range R d2]
      refine ⟨Int.le_refl _, ?_⟩
      have a2 := Int.le_ediv_iff_mul_le (a := up (2 ^ (w + (k + 1))) d) (b := 2 ^ (w + (k + 1)) + (2 ^ (w + (k + 1)) - 1) / (2 ^ w / d * d - 1)) (by omega : 0 < d)
      rw [a2]
      have hE := dm (by omega : 0 < d) (2 ^ w)
      have L1 : 0 < 2 ^ w / d * d - 1 := by
        have k1 : 1 ≤ (2 : Int) ^ w / d := by
          have h2 := Int.le_ediv_iff_mul_le (a := 1) (b := 2 ^ w) (by omega : 0 < d)
          omega
        have h3 : 1 * d ≤ 2 ^ w / d * d := Int.mul_le_mul_of_nonneg_right k1 (by omega)
        have : 2 ≤ d := by omega
        omega
      have a3 := Int.le_ediv_iff_mul_le (a := up (2 ^ (w + (k + 1))) d * d - 2 ^ (w + (k + 1))) (b := 2 ^ (w + (k + 1)) - 1) L1
      have b1 := Int.mul_le_mul_of_nonneg_right (by omega : up (2 ^ (w + (k + 1))) d * d - 2 ^ (w + (k + 1)) ≤ d) (by omega : 0 ≤ 2 ^ w / d * d - 1)
      have b2 := Int.mul_le_mul_of_nonneg_left (by omega : 2 ^ w / d * d - 1 ≤ 2 ^ w - 1) (by omega : (0 : Int) ≤ d)
      have b3 : d * ((2 : Int) ^ w - 1) = 2 ^ w * d - d := by rw [Int.mul_sub, Int.mul_one, Int.mul_comm]
      have := a3.mpr (by omega)
      omega
  · refine ⟨w + (k + 1), up (2 ^ (w + (k + 1))) d - 1, by omega, by omega, ?_, ?_⟩
    · have h1 : up (2 ^ (w + (k + 1))) d ≤ 2 * 2 ^ w := by
        have u4 := up_le (a := 2 ^ (w + (k + 1))) (b := d) (k := 2 * 2 ^ w) (by omega)
        apply u4.mpr
        rw [pP]
        have := Int.mul_le_mul_of_nonneg_left hk1 (by omega : (0 : Int) ≤ 2 * 2 ^ w)
        rw [Int.mul_assoc] at this
        omega
      omega
    · have R : Rc 1 (up (2 ^ (w + (k + 1))) d - 1) (2 ^ (w + (k + 1))) d := ⟨by decide, by decide, by omega, hP, by omega⟩
      rw [more_range R d2]
      have a1 := up_le (a := 2 ^ (w + (k + 1)) - 2 ^ (w + (k + 1)) / ((2 ^ w - 1) / d * d + 1)) (b := d) (k := up (2 ^ (w + (k + 1))) d - 1) (by omega)
      rw [a1]
      refine ⟨?_, Int.le_refl _⟩
      have hE := dm (by omega : 0 < d) (2 ^ w - 1)
      have kd : 0 ≤ ((2 : Int) ^ w - 1) / d * d := Int.mul_nonneg (Int.ediv_nonneg (by omega) (by omega)) (by omega)
      have a3 := Int.le_ediv_iff_mul_le (a := d) (b := 2 ^ (w + (k + 1))) (by omega : 0 < ((2 : Int) ^ w - 1) / d * d + 1)
      have b2 := Int.mul_le_mul_of_nonneg_left (by omega : ((2 : Int) ^ w - 1) / d * d + 1 ≤ 2 ^ w) (by omega : (0 : Int) ≤ d)
      rw [Int.mul_comm d (2 ^ w)] at b2
      have := a3.mpr (by omega)
      rw [Int.sub_mul, Int.one_mul]
      omega
theorem okB_mono {c : Int} {b b' : Int} (h : okB c m P d b') (l : b ≤ b') : okB c m P d b := fun n n0 n1 => h n n0 (by omega)
end
end PE

set_option Elab.async false
set_option linter.all false
set_option maxRecDepth 100000
namespace L40
open PySem PySem.Spec L2 DL
def k_KINDS : PyData := .tuple [.str (Str.ofString "up"), .str (Str.ofString "more")]
noncomputable def m__law_box : M Fl := (sSeq (sSet 2 (mDat (mIf (lift2 oLt (mVar 1) (lift1 oLen (mVar 0))) (lift2 oIx (mVar 0) (mVar 1)) (M.pure (.int 0))))) (sRet (mLst [(lift2 oMul (lift1 oAbs (mVar 2)) (lift1 oInt (bD (lift2 oGe (lift1 oAbs (mVar 2)) (lift2 oPow (M.pure (.int 10)) (M.pure (.int 18))))))), (lift2 oAdd (lift2 oAdd (lift2 oMod (lift1 oInt (mVar 2)) (M.pure (.int 2305843009213693951))) (lift2 oMul (M.pure (.int 39373)) (mVar 1))) (M.pure (.int 263000))), (M.pure (.int 0))])))
noncomputable def φ__law_box : Sl → Res C := run 2 3 [0, 1] m__law_box
noncomputable def m__law_cells : M Fl := (sSeq (sSet 2 (mOrC (lift1 oListC (mFrz (mSl (mVar 0) pNo (pInt (mVar 1))))) (mLst [(M.pure (.int 0))]))) (sSeq (sFor (mEnum (mFrz (mSl (mVar 0) (pInt (mVar 1)) (pInt (M.pure (.int 63)))))) (gT [(gN 3), (gN 4)]) (sSeq (sSet 5 (mDat (lift2 oMod (lift1 oInt (mVar 3)) (mVar 1)))) (sSetIx 2 (mVar 5) (lift2 oAdd (mIxV 2 (mVar 5)) (lift2 oMul (mVar 4) (lift2 oAdd (mVar 3) (M.pure (.int 2)))))))) (sRet (mVarM 2))))
noncomputable def φ__law_cells : Sl → Res C := run 2 6 [0, 1] m__law_cells
noncomputable def m__law_take : M Fl := (sSeq (sIf (lift2 oGt (mIxV 0 (M.pure (.int 0))) (M.pure (.int 0))) (sSeq (sSet 2 (mDat (lift2 oMod (lift1 oInt (mIxV 0 (M.pure (.int 0)))) (mVar 1)))) (sSeq (sSetIx 0 (M.pure (.int 0)) (lift2 oDiv (mIxV 0 (M.pure (.int 0))) (mVar 1))) (sRet (mDat (mVar 2))))) sSkip) (sSeq (sSetIx 0 (M.pure (.int 2)) (lift2 oAdd (mIxV 0 (M.pure (.int 2))) (M.pure (.int 1)))) (sSeq (sSet 3 (mDat (lift2 oMod (lift1 oInt (lift2 oMul (lift2 oAdd (mIxV 0 (M.pure (.int 1))) (lift2 oMul (M.pure (.int 48271)) (mIxV 0 (M.pure (.int 2))))) (lift2 oAdd (M.pure (.int 39373)) (mIxV 0 (M.pure (.int 2)))))) (M.pure (.int 2147483647))))) (sSeq (sSet 4 (mDat (lift2 oAdd (lift2 oMod (lift1 oInt (mVar 3)) (M.pure (.int 40009))) (M.pure (.int 7))))) (sSeq (sSet 5 (mDat (lift2 oMod (lift1 oInt (lift2 oMul (lift2 oAdd (lift2 oAdd (mVar 3) (mIxV 0 (M.pure (.int 2)))) (lift2 oDiv (mIxV 0 (M.pure (.int 1))) (M.pure (.int 1000003)))) (mVar 4))) (M.pure (.int 2147483629))))) (sRet (mDat (lift2 oMod (lift1 oInt (lift2 oDiv (lift2 oMod (lift1 oInt (lift2 oAdd (lift2 oMul (mVar 5) (M.pure (.int 48271))) (mVar 3))) (M.pure (.int 2147483587))) (M.pure (.int 64)))) (mVar 1)))))))))
noncomputable def φ__law_take : Sl → Res C := run 2 6 [0, 1] m__law_take
noncomputable def m__law_of : M Fl := (sRet (mDat (lift2 oIx (mVar 1) (mFrz (mCall φ__law_take (mSeqA [(agV 0), (agD (lift1 oLen (mVar 1)))]))))))
noncomputable def φ__law_of : Sl → Res C := run 2 2 [0, 1] m__law_of
noncomputable def m__law_two : M Fl := (sRet (mDat (lift2 oShl (M.pure (.int 1)) (mVar 0))))
noncomputable def φ__law_two : Sl → Res C := run 1 1 [0] m__law_two
noncomputable def m__law_divisor : M Fl := (sSeq (sSet 2 (mDat (lift2 oSub (mFrz (mCall φ__law_two (mSeqA [(agD (mVar 1))]))) (M.pure (.int 1))))) (sSeq (sSet 3 (mDat (mFrz (mCall φ__law_of (mSeqA [(agV 0), (agD (mFrz (mLst [(lift2 oAdd (M.pure (.int 1)) (mFrz (mCall φ__law_take (mSeqA [(agV 0), (agD (M.pure (.int 20)))])))), (lift2 oAdd (M.pure (.int 1)) (mFrz (mCall φ__law_take (mSeqA [(agV 0), (agD (mVar 2))])))), (lift2 oSub (mVar 2) (mFrz (mCall φ__law_take (mSeqA [(agV 0), (agD (M.pure (.int 10)))])))), (lift2 oSub (lift2 oAdd (mFrz (mCall φ__law_two (mSeqA [(agD (mFrz (mCall φ__law_take (mSeqA [(agV 0), (agD (mVar 1))]))))]))) (mFrz (mCall φ__law_take (mSeqA [(agV 0), (agD (M.pure (.int 3)))])))) (M.pure (.int 1))), (lift2 oAdd (M.pure (.int 1)) (mFrz (mCall φ__law_take (mSeqA [(agV 0), (agD (M.pure (.int 1000)))]))))])))]))))) (sRet (mDat (lift2 oMax (M.pure (.int 1)) (lift2 oMin (mVar 3) (mVar 2)))))))
noncomputable def φ__law_divisor : Sl → Res C := run 2 4 [0, 1] m__law_divisor
noncomputable def m__law_looks : M Fl := (sSeq (sIf (lift2 oLt (mVar 2) (lift2 oSub (mVar 0) (M.pure (.int 1)))) (sRet (mDat (mTup [(mVar 2)]))) sSkip) (sSeq (sSet 3 (mDat (mFrz (mIf (lift2 oEq (lift2 oIx (mVar 1) (M.pure (.int 0))) (M.pure (.str (Str.ofString "up")))) (mCat (mLst [(lift2 oSub (lift2 oMul (lift2 oDiv (lift2 oAdd (mVar 2) (M.pure (.int 1))) (mVar 0)) (mVar 0)) (M.pure (.int 1)))]) (mIf (lift2 oLe (mVar 0) (mVar 2)) (mLst [(mVar 0)]) (mLst []))) (mLst [(lift2 oSub (mVar 0) (M.pure (.int 1))), (lift2 oMul (lift2 oDiv (mVar 2) (mVar 0)) (mVar 0))]))))) (sRet (mDat (lift1 oTuple (mFrz (lift1 oSortDict (mFrz (mLc [4] (mItems (mVar 3)) (gN 4) mYes (mTup [(mVar 4), (M.pure (.int 1))]))))))))))
noncomputable def φ__law_looks : Sl → Res C := run 3 5 [0, 1, 2] m__law_looks
noncomputable def m__law_upper : M Fl := (sRet (mDat (lift2 oDiv (lift2 oSub (lift2 oAdd (mVar 0) (mVar 1)) (M.pure (.int 1))) (mVar 1))))
noncomputable def φ__law_upper : Sl → Res C := run 2 2 [0, 1] m__law_upper
noncomputable def m__law_range : M Fl := (sSeq (sSet3 5 6 7 (mDat (M.pure (.int 0))) (mDat (lift2 oSub (lift2 oMul (M.pure (.int 2)) (mFrz (mCall φ__law_two (mSeqA [(agD (mVar 0))])))) (M.pure (.int 1)))) (mDat (mFrz (mCall φ__law_two (mSeqA [(agD (mVar 3))]))))) (sSeq (sIf (lift2 oEq (mVar 2) (M.pure (.str (Str.ofString "up")))) (sSeq (sSet 5 (mDat (mFrz (mIf (lift2 oLe (mVar 1) (mVar 4)) (mCall φ__law_upper (mSeqA [(agD (mVar 7)), (agD (mVar 1))])) (mDat (M.pure (.int 0))))))) (sSeq (sSet 8 (mDat (mIf (lift2 oLe (lift2 oSub (mVar 1) (M.pure (.int 1))) (mVar 4)) (lift2 oSub (lift2 oMul (lift2 oDiv (lift2 oAdd (mVar 4) (M.pure (.int 1))) (mVar 1)) (mVar 1)) (M.pure (.int 1))) (mVar 4)))) (sSet 6 (mDat (mIf (lift2 oGt (mVar 8) (M.pure (.int 0))) (lift2 oMin (mVar 6) (lift2 oDiv (lift2 oSub (lift2 oMul (mVar 7) (lift2 oAdd (lift2 oDiv (mVar 8) (mVar 1)) (M.pure (.int 1)))) (M.pure (.int 1))) (mVar 8))) (mVar 6)))))) (sSeq (sSet 8 (mDat (lift2 oMul (lift2 oDiv (mVar 4) (mVar 1)) (mVar 1)))) (sSeq (sSet 5 (mDat (mFrz (mCall φ__law_upper (mSeqA [(agD (lift2 oMul (mVar 7) (lift2 oDiv (mVar 8) (mVar 1)))), (agD (lift2 oAdd (mVar 8) (M.pure (.int 1))))]))))) (sSet 6 (mDat (lift2 oMin (mVar 6) (lift2 oDiv (lift2 oSub (mVar 7) (M.pure (.int 1))) (lift2 oMin (mVar 1) (lift2 oAdd (mVar 4) (M.pure (.int 1))))))))))) (sRet (mDat (mIf (lift2 oLe (mVar 5) (mVar 6)) (mTup [(mVar 5), (mVar 6)]) (M.pure .none))))))
noncomputable def φ__law_range : Sl → Res C := run 5 9 [0, 1, 2, 3, 4] m__law_range
noncomputable def m__law_run : M Fl := (sSeq (sSet2 4 5 (mDat (mFrz (mCall φ__law_two (mSeqA [(agD (mVar 0))])))) (mDat (mFrz (mCall φ__law_two (mSeqA [(agD (mVar 3))]))))) (sSeq (sIf (lift2 oEq (mVar 2) (M.pure (.str (Str.ofString "up")))) (sSeq (sSet 6 (mDat (lift2 oSub (lift2 oMul (lift2 oDiv (mVar 4) (mVar 1)) (mVar 1)) (M.pure (.int 1))))) (sSet2 7 8 (mDat (mFrz (mCall φ__law_upper (mSeqA [(agD (mVar 5)), (agD (mVar 1))])))) (mDat (lift2 oDiv (lift2 oAdd (mVar 5) (lift2 oDiv (lift2 oSub (mVar 5) (M.pure (.int 1))) (mVar 6))) (mVar 1))))) (sSeq (sSet 6 (mDat (lift2 oMul (lift2 oDiv (lift2 oSub (mVar 4) (M.pure (.int 1))) (mVar 1)) (mVar 1)))) (sSet2 7 8 (mDat (mFrz (mCall φ__law_upper (mSeqA [(agD (lift2 oSub (mVar 5) (lift2 oDiv (mVar 5) (lift2 oAdd (mVar 6) (M.pure (.int 1)))))), (agD (mVar 1))])))) (mDat (lift2 oSub (mFrz (mCall φ__law_upper (mSeqA [(agD (mVar 5)), (agD (mVar 1))]))) (M.pure (.int 1))))))) (sSeq (sSet2 7 8 (mDat (lift2 oMax (M.pure (.int 0)) (mVar 7))) (mDat (lift2 oMin (mVar 8) (lift2 oSub (lift2 oMul (M.pure (.int 2)) (mVar 4)) (M.pure (.int 1)))))) (sRet (mDat (mIf (lift2 oLe (mVar 7) (mVar 8)) (mTup [(mVar 7), (mVar 8)]) (M.pure .none)))))))
noncomputable def φ__law_run : Sl → Res C := run 4 9 [0, 1, 2, 3] m__law_run
noncomputable def m__law_recipe : M Fl := (sSeq (sSet2 3 4 (mDat (mFrz (mCall φ__law_of (mSeqA [(agV 0), (agD (mFrz (mLst [(M.pure (.str (Str.ofString "up"))), (M.pure (.str (Str.ofString "more")))])))])))) (mDat (mFrz (mCall φ__law_take (mSeqA [(agV 0), (agD (lift2 oAdd (lift2 oMul (M.pure (.int 2)) (mVar 1)) (M.pure (.int 1))))]))))) (sSeq (sSet 5 (mDat (mFrz (mCall φ__law_take (mSeqA [(agV 0), (agD (M.pure (.int 4)))]))))) (sSeq (sIf (lift2 oEq (mVar 5) (M.pure (.int 0))) (sRet (mDat (mTup [(mVar 3), (mFrz (mCall φ__law_take (mSeqA [(agV 0), (agD (lift2 oMul (M.pure (.int 2)) (mFrz (mCall φ__law_two (mSeqA [(agD (mVar 1))])))))]))), (mVar 4)]))) sSkip) (sSeq (sIf (lift2 oEq (mVar 5) (M.pure (.int 1))) (sFor (mRng1 (lift2 oAdd (lift2 oMul (M.pure (.int 2)) (mVar 1)) (M.pure (.int 1)))) (gN 6) (sIf (lift2 oNotX (mFrz (mCall φ__law_run (mSeqA [(agD (mVar 1)), (agD (mVar 2)), (agD (mVar 3)), (agD (mVar 6))]))) (M.pure .none)) (sSeq (sSet 4 (mDat (mVar 6))) sBk) sSkip)) sSkip) (sSeq (sSet 7 (mDat (lift2 oSub (lift2 oAdd (lift2 oDiv (mFrz (mCall φ__law_two (mSeqA [(agD (mVar 4))]))) (mVar 2)) (mFrz (mCall φ__law_take (mSeqA [(agV 0), (agD (M.pure (.int 4)))])))) (M.pure (.int 1))))) (sRet (mDat (mTup [(mVar 3), (lift2 oMax (M.pure (.int 0)) (lift2 oMin (mVar 7) (lift2 oSub (lift2 oMul (M.pure (.int 2)) (mFrz (mCall φ__law_two (mSeqA [(agD (mVar 1))])))) (M.pure (.int 1))))), (mVar 4)]))))))))
noncomputable def φ__law_recipe : Sl → Res C := run 3 8 [0, 1, 2] m__law_recipe
noncomputable def m__law_same (rec : Sl → Res C) : M Fl := (sSeq (sIf (tTru (lift1 (oIsi2 .list .tuple) (mVar 1))) (sSeq (sIf (DL.tOr (lift2 oNe (lift1 (oIsi .list) (mVar 0)) (lift1 (oIsi .list) (mVar 1))) (lift2 oNe (lift1 (oIsi .tuple) (mVar 0)) (lift1 (oIsi .tuple) (mVar 1)))) (sRet (mDat (M.pure (.bool false)))) sSkip) (sRet (mDat (mAnd (bD (lift2 oEq (lift1 oLen (mVar 0)) (lift1 oLen (mVar 1)))) (lift1 oAll (mFrz (mLc [2, 3] (mZip (mVar 0) (mVar 1)) (gT [(gN 2), (gN 3)]) mYes (mFrz (mCall rec (mSeqA [(agD (mVar 2)), (agD (mVar 3))])))))))))) sSkip) (sSeq (sIf (lift2 oIsX (mVar 1) (M.pure .none)) (sRet (mDat (bD (lift2 oIsX (mVar 0) (M.pure .none))))) sSkip) (sSeq (sIf (tTru (lift1 (oIsi2 .bool .str) (mVar 1))) (sRet (mDat (mAnd (bD (lift2 oEq (lift1 (oIsi .bool) (mVar 0)) (lift1 (oIsi .bool) (mVar 1)))) (mAnd (bD (lift2 oEq (lift1 (oIsi .str) (mVar 0)) (lift1 (oIsi .str) (mVar 1)))) (bD (lift2 oEq (mVar 0) (mVar 1))))))) sSkip) (sRet (mDat (mAnd (lift1 (oIsi .int) (mVar 0)) (mAnd (mNot (lift1 (oIsi .bool) (mVar 0))) (bD (lift2 oEq (mVar 0) (mVar 1))))))))))
noncomputable def φ__law_same : Nat → Sl → Res C
  | 0 => fun _ => .stuck
  | n + 1 => run 2 4 [0, 1] (m__law_same (φ__law_same n))
noncomputable def m__law_told : M Fl := (sSeq (sAsg (mVar 0) (gT [(gN 2), (gN 3), (gN 4)])) (sRet (mDat (lift2 oDiv (lift2 oMul (mIf (lift2 oEq (mVar 2) (M.pure (.str (Str.ofString "up")))) (mVar 1) (lift2 oAdd (mVar 1) (M.pure (.int 1)))) (mVar 3)) (mFrz (mCall φ__law_two (mSeqA [(agD (mVar 4))])))))))
noncomputable def φ__law_told : Sl → Res C := run 2 5 [0, 1] m__law_told
noncomputable def m__law_wide : M Fl := (sRet (mCall φ__law_of (mSeqA [(agV 0), (agD (mFrz (mLst [(M.pure (.int 8)), (M.pure (.int 16)), (M.pure (.int 32)), (M.pure (.int 64)), (lift2 oAdd (M.pure (.int 1)) (mFrz (mCall φ__law_take (mSeqA [(agV 0), (agD (M.pure (.int 64)))])))), (lift2 oAdd (M.pure (.int 1)) (mFrz (mCall φ__law_take (mSeqA [(agV 0), (agD (M.pure (.int 12)))]))))])))])))
noncomputable def φ__law_wide : Sl → Res C := run 1 1 [0] m__law_wide
noncomputable def m_excess_in : M Fl := (sRet (mDat (lift2 oSub (lift2 oMul (lift2 oIx (mVar 1) (M.pure (.int 1))) (mVar 0)) (lift2 oShl (M.pure (.int 1)) (lift2 oIx (mVar 1) (M.pure (.int 2)))))))
noncomputable def φ_excess_in : Sl → Res C := run 2 2 [0, 1] m_excess_in
noncomputable def m_floor_sum : M Fl := (sSeq (sSet2 4 5 (mDat (M.pure (.int 0))) (mDat (mTup [(mVar 0), (mVar 1), (mVar 2), (mVar 3)]))) (sSeq (sWhile (lift2 oGt (lift2 oIx (mVar 5) (M.pure (.int 0))) (M.pure (.int 0))) (sSeq (sAsg (mVar 5) (gT [(gN 6), (gN 7), (gN 8), (gN 9)])) (sSeq (sSet 4 (mDat (lift2 oAdd (lift2 oAdd (mVar 4) (lift2 oMul (lift2 oDiv (lift2 oMul (mVar 6) (lift2 oSub (mVar 6) (M.pure (.int 1)))) (M.pure (.int 2))) (lift2 oDiv (mVar 8) (mVar 7)))) (lift2 oMul (mVar 6) (lift2 oDiv (mVar 9) (mVar 7)))))) (sSeq (sSet2 8 9 (mDat (lift2 oMod (mVar 8) (mVar 7))) (mDat (lift2 oMod (mVar 9) (mVar 7)))) (sSeq (sSet 10 (mDat (lift2 oAdd (lift2 oMul (mVar 8) (mVar 6)) (mVar 9)))) (sSet 5 (mDat (mIf (lift2 oGe (mVar 10) (mVar 7)) (mTup [(lift2 oDiv (mVar 10) (mVar 7)), (mVar 8), (mVar 7), (lift2 oMod (mVar 10) (mVar 7))]) (mTup [(M.pure (.int 0)), (M.pure (.int 0)), (M.pure (.int 0)), (M.pure (.int 0))]))))))))) (sRet (mDat (mVar 4)))))
noncomputable def φ_floor_sum : Sl → Res C := run 4 11 [0, 1, 2, 3] m_floor_sum
noncomputable def m_more_of : M Fl := (sRet (mDat (mIf (lift2 oEq (lift2 oIx (mVar 0) (M.pure (.int 0))) (M.pure (.str (Str.ofString "up")))) (M.pure (.int 0)) (M.pure (.int 1)))))
noncomputable def φ_more_of : Sl → Res C := run 1 1 [0] m_more_of
noncomputable def m_upper : M Fl := (sRet (mDat (lift1 oNeg (lift2 oDiv (lift1 oNeg (mVar 0)) (mVar 1)))))
noncomputable def φ_upper : Sl → Res C := run 2 2 [0, 1] m_upper
noncomputable def m_full_count : M Fl := (sSeq (sSet2 4 5 (mDat (mFrz (mCall φ_more_of (mSeqA [(agD (mVar 1))])))) (mDat (lift2 oIx (mVar 1) (M.pure (.int 1))))) (sSeq (sIf (lift2 oGe (mVar 2) (M.pure (.int 0))) (sSeq (sSet 6 (mDat (mIf (lift2 oEq (mVar 2) (M.pure (.int 0))) (mVar 3) (lift2 oMin (mVar 3) (lift2 oMax (M.pure (.int 0)) (lift2 oSub (mFrz (mCall φ_upper (mSeqA [(agD (lift2 oMul (lift2 oSub (mVar 0) (mVar 4)) (mVar 5))), (agD (mVar 2))]))) (M.pure (.int 1)))))))) (sRet (mDat (lift2 oAdd (lift2 oAdd (mFrz (mCall φ_floor_sum (mSeqA [(agD (mVar 6)), (agD (mVar 5)), (agD (mVar 2)), (agD (mVar 2))]))) (lift2 oMul (mVar 6) (mVar 4))) (lift2 oMul (lift2 oSub (mVar 3) (mVar 6)) (mVar 0)))))) sSkip) (sSeq (sIf (lift2 oEq (mVar 3) (M.pure (.int 0))) (sRet (mDat (M.pure (.int 0)))) sSkip) (sSeq (sIf (lift2 oEq (mVar 5) (M.pure (.int 0))) (sRet (mDat (lift2 oMul (lift2 oSub (mVar 3) (M.pure (.int 1))) (mVar 0)))) sSkip) (sSeq (sSet 6 (mDat (lift2 oMin (mVar 3) (lift2 oAdd (lift2 oDiv (lift2 oMul (lift2 oSub (lift2 oAdd (mVar 0) (mVar 4)) (M.pure (.int 1))) (mVar 5)) (lift1 oNeg (mVar 2))) (M.pure (.int 1)))))) (sRet (mDat (lift2 oAdd (lift2 oSub (mFrz (mCall φ_floor_sum (mSeqA [(agD (mVar 6)), (agD (mVar 5)), (agD (lift1 oNeg (mVar 2))), (agD (lift2 oSub (mVar 5) (M.pure (.int 1))))]))) (lift2 oMul (lift2 oSub (mVar 6) (M.pure (.int 1))) (mVar 4))) (lift2 oMul (lift2 oSub (mVar 3) (mVar 6)) (mVar 0))))))))))
noncomputable def φ_full_count : Sl → Res C := run 4 7 [0, 1, 2, 3] m_full_count
noncomputable def m_early_count : M Fl := (sSeq (sIf (DL.tOr (lift2 oEq (mVar 3) (M.pure (.int 0))) (lift2 oEq (lift2 oIx (mVar 1) (M.pure (.int 1))) (M.pure (.int 0)))) (sRet (mDat (mIf (lift2 oGt (mVar 3) (M.pure (.int 0))) (mVar 0) (M.pure (.int 0))))) sSkip) (sRet (mDat (lift2 oMin (mVar 0) (lift2 oSub (mFrz (mCall φ_upper (mSeqA [(agD (lift2 oMul (lift1 oNeg (mVar 3)) (mVar 2))), (agD (lift2 oIx (mVar 1) (M.pure (.int 1))))]))) (mFrz (mCall φ_more_of (mSeqA [(agD (mVar 1))]))))))))
noncomputable def φ_early_count : Sl → Res C := run 4 4 [0, 1, 2, 3] m_early_count
noncomputable def m_late_count : M Fl := (sRet (mDat (lift2 oMin (mVar 0) (lift2 oAdd (lift2 oDiv (lift2 oMul (lift2 oAdd (mVar 3) (M.pure (.int 1))) (mVar 2)) (lift2 oIx (mVar 1) (M.pure (.int 1)))) (mFrz (mCall φ_more_of (mSeqA [(agD (mVar 1))])))))))
noncomputable def φ_late_count : Sl → Res C := run 4 4 [0, 1, 2, 3] m_late_count
noncomputable def m_top_in : M Fl := (sRet (mDat (lift2 oSub (lift2 oShl (M.pure (.int 1)) (mVar 0)) (M.pure (.int 1)))))
noncomputable def φ_top_in : Sl → Res C := run 1 1 [0] m_top_in
noncomputable def m_piece_in : M Fl := (sSeq (sSet3 4 5 6 (mDat (mFrz (mCall φ_excess_in (mSeqA [(agD (mVar 1)), (agD (mVar 2))])))) (mDat (lift2 oMul (mVar 3) (mVar 1))) (mDat (mFrz (mCall φ_top_in (mSeqA [(agD (mVar 0))]))))) (sSeq (sIf (lift2 oGe (mVar 4) (M.pure (.int 0))) (sSet2 7 8 (mDat (lift2 oSub (lift2 oAdd (mVar 5) (mVar 1)) (mFrz (mCall φ_late_count (mSeqA [(agD (mVar 1)), (agD (mVar 2)), (agD (mVar 4)), (agD (mVar 3))]))))) (mDat (lift2 oSub (lift2 oAdd (mVar 5) (mVar 1)) (M.pure (.int 1))))) (sSet2 7 8 (mDat (mVar 5)) (mDat (lift2 oSub (lift2 oAdd (mVar 5) (mFrz (mCall φ_early_count (mSeqA [(agD (mVar 1)), (agD (mVar 2)), (agD (mVar 4)), (agD (mVar 3))])))) (M.pure (.int 1)))))) (sSeq (sSet 8 (mDat (lift2 oMin (mVar 8) (mVar 6)))) (sRet (mDat (mIf (lift2 oLe (mVar 7) (mVar 8)) (mTup [(mVar 7), (mVar 8)]) (M.pure .none)))))))
noncomputable def φ_piece_in : Sl → Res C := run 4 9 [0, 1, 2, 3] m_piece_in
noncomputable def m_is_number : M Fl := (sRet (mDat (mAnd (lift1 (oIsi .int) (mVar 0)) (mNot (lift1 (oIsi .bool) (mVar 0))))))
noncomputable def φ_is_number : Sl → Res C := run 1 1 [0] m_is_number
noncomputable def m_is_within : M Fl := (sRet (mDat (mAnd (mFrz (mCall φ_is_number (mSeqA [(agD (mVar 0))]))) (bD (tChain oLe oLe (mVar 1) (mVar 0) (mVar 2))))))
noncomputable def φ_is_within : Sl → Res C := run 3 3 [0, 1, 2] m_is_within
noncomputable def m_sure_within : M Fl := (sSeq (sIf (DL.tNot (tTru (mFrz (mCall φ_is_within (mSeqA [(agD (mVar 0)), (agD (mVar 1)), (agD (mVar 2))]))))) (sErr .unfit) sSkip) (sRet (mDat (mVar 0))))
noncomputable def φ_sure_within : Sl → Res C := run 3 3 [0, 1, 2] m_sure_within
noncomputable def m_sure_divisor : M Fl := (sRet (mCall φ_sure_within (mSeqA [(agD (mVar 1)), (agD (M.pure (.int 1))), (agD (mFrz (mCall φ_top_in (mSeqA [(agD (mVar 0))]))))])))
noncomputable def φ_sure_divisor : Sl → Res C := run 2 2 [0, 1] m_sure_divisor
noncomputable def m_is_long : M Fl := (sRet (mDat (mAnd (lift1 (oIsi .tuple) (mVar 0)) (bD (lift2 oEq (lift1 oLen (mVar 0)) (mVar 1))))))
noncomputable def φ_is_long : Sl → Res C := run 2 2 [0, 1] m_is_long
noncomputable def m_is_recipe_in : M Fl := (sSeq (sIf (DL.tOr (DL.tNot (tTru (mFrz (mCall φ_is_long (mSeqA [(agD (mVar 1)), (agD (M.pure (.int 3)))]))))) (DL.tOr (DL.tNot (tTru (lift1 (oIsi .str) (lift2 oIx (mVar 1) (M.pure (.int 0)))))) (lift2 oNotIn (lift2 oIx (mVar 1) (M.pure (.int 0))) (M.pure k_KINDS)))) (sRet (mDat (M.pure (.bool false)))) sSkip) (sRet (mDat (mAnd (mFrz (mCall φ_is_within (mSeqA [(agD (lift2 oIx (mVar 1) (M.pure (.int 1)))), (agD (M.pure (.int 0))), (agD (lift2 oAdd (lift2 oMul (M.pure (.int 2)) (mFrz (mCall φ_top_in (mSeqA [(agD (mVar 0))])))) (M.pure (.int 1))))]))) (mFrz (mCall φ_is_within (mSeqA [(agD (lift2 oIx (mVar 1) (M.pure (.int 2)))), (agD (M.pure (.int 0))), (agD (lift2 oMul (M.pure (.int 2)) (mVar 0)))])))))))
noncomputable def φ_is_recipe_in : Sl → Res C := run 2 2 [0, 1] m_is_recipe_in
noncomputable def m_tupled (rec : Sl → Res C) : M Fl := (sRet (mDat (mIf (tTru (lift1 (oIsi2 .list .tuple) (mVar 0))) (lift1 oTuple (mFrz (mLc [1] (mItems (mVar 0)) (gN 1) mYes (mFrz (mCall rec (mSeqA [(agD (mVar 1))])))))) (mVar 0))))
noncomputable def φ_tupled : Nat → Sl → Res C
  | 0 => fun _ => .stuck
  | n + 1 => run 1 2 [0] (m_tupled (φ_tupled n))
noncomputable def m_sure_recipe : M Fl := (sSeq (sSet 2 (mDat (mFrz (mCall (φ_tupled 6) (mSeqA [(agD (mVar 1))]))))) (sSeq (sIf (DL.tNot (tTru (mFrz (mCall φ_is_recipe_in (mSeqA [(agD (mVar 0)), (agD (mVar 2))]))))) (sErr .unfit) sSkip) (sRet (mDat (mVar 2)))))
noncomputable def φ_sure_recipe : Sl → Res C := run 2 3 [0, 1] m_sure_recipe
noncomputable def m_sure_width : M Fl := (sRet (mCall φ_sure_within (mSeqA [(agD (mVar 0)), (agD (M.pure (.int 1))), (agD (M.pure (.int 64)))])))
noncomputable def φ_sure_width : Sl → Res C := run 1 1 [0] m_sure_width
noncomputable def m_sure_three : M Fl := (sSeq (sSet 3 (mDat (mFrz (mCall φ_sure_width (mSeqA [(agD (mVar 0))]))))) (sSeq (sSet 4 (mDat (mFrz (mCall φ_sure_divisor (mSeqA [(agD (mVar 3)), (agD (mVar 1))]))))) (sRet (mDat (mTup [(mVar 3), (mVar 4), (mFrz (mCall φ_sure_recipe (mSeqA [(agD (mVar 3)), (agD (mVar 2))])))])))))
noncomputable def φ_sure_three : Sl → Res C := run 3 5 [0, 1, 2] m_sure_three
noncomputable def m_sure_word : M Fl := (sRet (mCall φ_sure_within (mSeqA [(agD (mVar 1)), (agD (M.pure (.int 0))), (agD (mFrz (mCall φ_top_in (mSeqA [(agD (mVar 0))]))))])))
noncomputable def φ_sure_word : Sl → Res C := run 2 2 [0, 1] m_sure_word
noncomputable def m_sure_bound : M Fl := (sSeq (sAsg (mFrz (mCall φ_sure_three (mSeqA [(agD (mVar 0)), (agD (mVar 1)), (agD (mVar 2))]))) (gT [(gN 4), (gN 5), (gN 6)])) (sRet (mDat (mTup [(mVar 4), (mVar 5), (mVar 6), (mFrz (mCall φ_sure_word (mSeqA [(agD (mVar 4)), (agD (mVar 3))])))]))))
noncomputable def φ_sure_bound : Sl → Res C := run 4 7 [0, 1, 2, 3] m_sure_bound
noncomputable def m_errs_to : M Fl := (sSeq (sAsg (mFrz (mCall φ_sure_bound (mSeqA [(agD (mVar 0)), (agD (mVar 1)), (agD (mVar 2)), (agD (mVar 3))]))) (gT [(gN 4), (gN 5), (gN 6), (gN 7)])) (sSeq (sSet 8 (mDat (lift2 oDiv (mVar 7) (mVar 5)))) (sSeq (sSet 9 (mDat (mFrz (mCall φ_piece_in (mSeqA [(agD (mVar 4)), (agD (mVar 5)), (agD (mVar 6)), (agD (mVar 8))]))))) (sSeq (sSet 10 (mDat (mFrz (mCall φ_full_count (mSeqA [(agD (mVar 5)), (agD (mVar 6)), (agD (mFrz (mCall φ_excess_in (mSeqA [(agD (mVar 5)), (agD (mVar 6))])))), (agD (mVar 8))]))))) (sRet (mDat (lift2 oAdd (mVar 10) (mIf (lift2 oNotX (mVar 9) (M.pure .none)) (lift2 oMax (M.pure (.int 0)) (lift2 oSub (lift2 oAdd (lift2 oMin (mVar 7) (lift2 oIx (mVar 9) (M.pure (.int 1)))) (M.pure (.int 1))) (lift2 oIx (mVar 9) (M.pure (.int 0))))) (M.pure (.int 0))))))))))
noncomputable def φ_errs_to : Sl → Res C := run 4 11 [0, 1, 2, 3] m_errs_to
noncomputable def m_looks_to_in : M Fl := (sSeq (sIf (lift2 oLt (mVar 2) (lift2 oSub (mVar 0) (M.pure (.int 1)))) (sRet (mDat (mTup [(mVar 2)]))) sSkip) (sSeq (sIf (lift2 oEq (lift2 oIx (mVar 1) (M.pure (.int 0))) (M.pure (.str (Str.ofString "up")))) (sSet 3 (mDat (mFrz (mCat (mLst [(lift2 oSub (lift2 oMul (lift2 oDiv (lift2 oAdd (mVar 2) (M.pure (.int 1))) (mVar 0)) (mVar 0)) (M.pure (.int 1)))]) (mIf (lift2 oLe (mVar 0) (mVar 2)) (mLst [(mVar 0)]) (mLst [])))))) (sSet 3 (mDat (mFrz (mLst [(lift2 oSub (mVar 0) (M.pure (.int 1))), (lift2 oMul (lift2 oDiv (mVar 2) (mVar 0)) (mVar 0))]))))) (sRet (mDat (lift1 oTuple (mFrz (lift1 oSortSet (mVar 3))))))))
noncomputable def φ_looks_to_in : Sl → Res C := run 3 4 [0, 1, 2] m_looks_to_in
noncomputable def m_value_of : M Fl := (sSeq (sAsg (mVar 0) (gT [(gN 2), (gN 3), (gN 4)])) (sRet (mDat (lift2 oShr (lift2 oMul (mIf (lift2 oEq (mVar 2) (M.pure (.str (Str.ofString "up")))) (mVar 1) (lift2 oAdd (mVar 1) (M.pure (.int 1)))) (mVar 3)) (mVar 4)))))
noncomputable def φ_value_of : Sl → Res C := run 2 5 [0, 1] m_value_of
noncomputable def m_right_to_in : M Fl := (sRet (mDat (lift1 oAll (mFrz (mLc [3] (mItems (mFrz (mCall φ_looks_to_in (mSeqA [(agD (mVar 0)), (agD (mVar 1)), (agD (mVar 2))])))) (gN 3) mYes (bD (lift2 oEq (mFrz (mCall φ_value_of (mSeqA [(agD (mVar 1)), (agD (mVar 3))]))) (lift2 oDiv (mVar 3) (mVar 0)))))))))
noncomputable def φ_right_to_in : Sl → Res C := run 3 4 [0, 1, 2] m_right_to_in
noncomputable def m_is_right_to : M Fl := (sSeq (sAsg (mFrz (mCall φ_sure_bound (mSeqA [(agD (mVar 0)), (agD (mVar 1)), (agD (mVar 2)), (agD (mVar 3))]))) (gT [(gN 4), (gN 5), (gN 6), (gN 7)])) (sRet (mCall φ_right_to_in (mSeqA [(agD (mVar 5)), (agD (mVar 6)), (agD (mVar 7))]))))
noncomputable def φ_is_right_to : Sl → Res C := run 4 8 [0, 1, 2, 3] m_is_right_to
noncomputable def m_times_in : M Fl := (sSeq (sSet3 4 5 6 (mDat (lift2 oShl (M.pure (.int 1)) (mVar 0))) (mDat (lift2 oShl (M.pure (.int 1)) (mVar 3))) (mDat (lift2 oAdd (lift2 oMul (M.pure (.int 2)) (mFrz (mCall φ_top_in (mSeqA [(agD (mVar 0))])))) (M.pure (.int 1))))) (sSeq (sIf (lift2 oEq (mVar 2) (M.pure (.str (Str.ofString "up")))) (sSeq (sSet 7 (mDat (lift2 oSub (lift2 oMul (lift2 oDiv (mVar 4) (mVar 1)) (mVar 1)) (M.pure (.int 1))))) (sSet2 8 9 (mDat (mFrz (mCall φ_upper (mSeqA [(agD (mVar 5)), (agD (mVar 1))])))) (mDat (lift2 oDiv (lift2 oAdd (mVar 5) (lift2 oDiv (lift2 oSub (mVar 5) (M.pure (.int 1))) (mVar 7))) (mVar 1))))) (sSeq (sSet 7 (mDat (lift2 oMul (lift2 oDiv (lift2 oSub (mVar 4) (M.pure (.int 1))) (mVar 1)) (mVar 1)))) (sSet2 8 9 (mDat (mFrz (mCall φ_upper (mSeqA [(agD (lift2 oSub (mVar 5) (lift2 oDiv (mVar 5) (lift2 oAdd (mVar 7) (M.pure (.int 1)))))), (agD (mVar 1))])))) (mDat (lift2 oSub (mFrz (mCall φ_upper (mSeqA [(agD (mVar 5)), (agD (mVar 1))]))) (M.pure (.int 1))))))) (sSeq (sSet2 8 9 (mDat (lift2 oMax (M.pure (.int 0)) (mVar 8))) (mDat (lift2 oMin (mVar 9) (mVar 6)))) (sRet (mDat (mIf (lift2 oLe (mVar 8) (mVar 9)) (mTup [(mVar 8), (mVar 9)]) (M.pure .none)))))))
noncomputable def φ_times_in : Sl → Res C := run 4 10 [0, 1, 2, 3] m_times_in
noncomputable def m_shift_in : M Fl := (sRet (mDat (lift2 oIx (mFrz (mLc [3] (mRng1 (lift2 oAdd (lift2 oMul (M.pure (.int 2)) (mVar 0)) (M.pure (.int 1)))) (gN 3) (lift2 oNotX (mFrz (mCall φ_times_in (mSeqA [(agD (mVar 0)), (agD (mVar 1)), (agD (mVar 2)), (agD (mVar 3))]))) (M.pure .none)) (mVar 3))) (M.pure (.int 0)))))
noncomputable def φ_shift_in : Sl → Res C := run 3 4 [0, 1, 2] m_shift_in
noncomputable def m_sure_kind : M Fl := (sSeq (sIf (DL.tOr (DL.tNot (tTru (lift1 (oIsi .str) (mVar 0)))) (lift2 oNotIn (mVar 0) (M.pure k_KINDS))) (sErr .unfit) sSkip) (sRet (mDat (mVar 0))))
noncomputable def φ_sure_kind : Sl → Res C := run 1 1 [0] m_sure_kind
noncomputable def m_least_shift : M Fl := (sSeq (sSet 3 (mDat (mFrz (mCall φ_sure_width (mSeqA [(agD (mVar 0))]))))) (sSeq (sSet 4 (mDat (mFrz (mCall φ_sure_divisor (mSeqA [(agD (mVar 3)), (agD (mVar 1))]))))) (sRet (mCall φ_shift_in (mSeqA [(agD (mVar 3)), (agD (mVar 4)), (agD (mFrz (mCall φ_sure_kind (mSeqA [(agD (mVar 2))]))))])))))
noncomputable def φ_least_shift : Sl → Res C := run 3 5 [0, 1, 2] m_least_shift
noncomputable def m_looks_to : M Fl := (sSeq (sAsg (mFrz (mCall φ_sure_bound (mSeqA [(agD (mVar 0)), (agD (mVar 1)), (agD (mVar 2)), (agD (mVar 3))]))) (gT [(gN 4), (gN 5), (gN 6), (gN 7)])) (sRet (mCall φ_looks_to_in (mSeqA [(agD (mVar 5)), (agD (mVar 6)), (agD (mVar 7))]))))
noncomputable def φ_looks_to : Sl → Res C := run 4 8 [0, 1, 2, 3] m_looks_to
noncomputable def m_times_to_in : M Fl := (sSeq (sSet2 5 6 (mDat (lift2 oShl (M.pure (.int 1)) (mVar 3))) (mDat (lift2 oAdd (lift2 oMul (M.pure (.int 2)) (mFrz (mCall φ_top_in (mSeqA [(agD (mVar 0))])))) (M.pure (.int 1))))) (sSeq (sSet2 7 8 (mDat (M.pure (.int 0))) (mDat (mVar 6))) (sSeq (sIf (lift2 oEq (mVar 2) (M.pure (.str (Str.ofString "up")))) (sSeq (sIf (lift2 oLe (mVar 1) (mVar 4)) (sSet 7 (mDat (mFrz (mCall φ_upper (mSeqA [(agD (mVar 5)), (agD (mVar 1))]))))) sSkip) (sSeq (sSet 9 (mDat (mIf (lift2 oLe (lift2 oSub (mVar 1) (M.pure (.int 1))) (mVar 4)) (lift2 oSub (lift2 oMul (lift2 oDiv (lift2 oAdd (mVar 4) (M.pure (.int 1))) (mVar 1)) (mVar 1)) (M.pure (.int 1))) (mVar 4)))) (sIf (lift2 oGt (mVar 9) (M.pure (.int 0))) (sSet 8 (mDat (lift2 oDiv (lift2 oSub (lift2 oMul (mVar 5) (lift2 oAdd (lift2 oDiv (mVar 9) (mVar 1)) (M.pure (.int 1)))) (M.pure (.int 1))) (mVar 9)))) sSkip))) (sSeq (sSet 9 (mDat (lift2 oMul (lift2 oDiv (mVar 4) (mVar 1)) (mVar 1)))) (sSeq (sIf (lift2 oGt (mVar 9) (M.pure (.int 0))) (sSet 7 (mDat (mFrz (mCall φ_upper (mSeqA [(agD (lift2 oMul (mVar 5) (lift2 oDiv (mVar 9) (mVar 1)))), (agD (lift2 oAdd (mVar 9) (M.pure (.int 1))))]))))) sSkip) (sSet 8 (mDat (lift2 oDiv (lift2 oSub (mVar 5) (M.pure (.int 1))) (lift2 oMin (mVar 1) (lift2 oAdd (mVar 4) (M.pure (.int 1)))))))))) (sSeq (sSet 8 (mDat (lift2 oMin (mVar 8) (mVar 6)))) (sRet (mDat (mIf (lift2 oLe (mVar 7) (mVar 8)) (mTup [(mVar 7), (mVar 8)]) (M.pure .none))))))))
noncomputable def φ_times_to_in : Sl → Res C := run 5 10 [0, 1, 2, 3, 4] m_times_to_in
noncomputable def m_recipe_to_in : M Fl := (sSeq (sFor (mRng1 (lift2 oAdd (lift2 oMul (M.pure (.int 2)) (mVar 0)) (M.pure (.int 1)))) (gN 4) (sSeq (sSet 5 (mDat (mFrz (mCall φ_times_to_in (mSeqA [(agD (mVar 0)), (agD (mVar 1)), (agD (mVar 2)), (agD (mVar 4)), (agD (mVar 3))]))))) (sIf (lift2 oNotX (mVar 5) (M.pure .none)) (sRet (mDat (mTup [(mVar 2), (lift2 oIx (mVar 5) (M.pure (.int 0))), (mVar 4)]))) sSkip))) (sRet (mDat (M.pure .none))))
noncomputable def φ_recipe_to_in : Sl → Res C := run 4 6 [0, 1, 2, 3] m_recipe_to_in
noncomputable def m_recipe_to : M Fl := (sSeq (sSet 4 (mDat (mFrz (mCall φ_sure_width (mSeqA [(agD (mVar 0))]))))) (sSeq (sSet 5 (mDat (mFrz (mCall φ_sure_divisor (mSeqA [(agD (mVar 4)), (agD (mVar 1))]))))) (sSeq (sSet 6 (mDat (mFrz (mCall φ_sure_kind (mSeqA [(agD (mVar 2))]))))) (sRet (mCall φ_recipe_to_in (mSeqA [(agD (mVar 4)), (agD (mVar 5)), (agD (mVar 6)), (agD (mFrz (mCall φ_sure_word (mSeqA [(agD (mVar 4)), (agD (mVar 3))]))))]))))))
noncomputable def φ_recipe_to : Sl → Res C := run 4 7 [0, 1, 2, 3] m_recipe_to
noncomputable def m_first_place : M Fl := (sSeq (sSet 3 (mDat (mFrz (mCall φ_excess_in (mSeqA [(agD (mVar 1)), (agD (mVar 2))]))))) (sSeq (sIf (lift2 oGe (mVar 3) (M.pure (.int 0))) (sSeq (sIf (lift2 oEq (lift2 oIx (mVar 2) (M.pure (.int 0))) (M.pure (.str (Str.ofString "more")))) (sRet (mDat (M.pure (.int 0)))) sSkip) (sRet (mDat (mIf (lift2 oGt (mVar 3) (M.pure (.int 0))) (lift2 oSub (mFrz (mCall φ_upper (mSeqA [(agD (lift2 oIx (mVar 2) (M.pure (.int 1)))), (agD (mVar 3))]))) (M.pure (.int 1))) (lift2 oAdd (mFrz (mCall φ_top_in (mSeqA [(agD (mVar 0))]))) (M.pure (.int 1))))))) sSkip) (sRet (mDat (mIf (lift2 oEq (lift2 oIx (mVar 2) (M.pure (.int 0))) (M.pure (.str (Str.ofString "more")))) (lift2 oAdd (lift2 oDiv (lift2 oIx (mVar 2) (M.pure (.int 1))) (lift1 oNeg (mVar 3))) (M.pure (.int 1))) (M.pure (.int 1)))))))
noncomputable def φ_first_place : Sl → Res C := run 3 4 [0, 1, 2] m_first_place
noncomputable def m_first_in : M Fl := (sSeq (sSet 3 (mDat (mFrz (mCall φ_first_place (mSeqA [(agD (mVar 0)), (agD (mVar 1)), (agD (mVar 2))]))))) (sSeq (sIf (lift2 oGt (mVar 3) (lift2 oDiv (mFrz (mCall φ_top_in (mSeqA [(agD (mVar 0))]))) (mVar 1))) (sRet (mDat (M.pure .none))) sSkip) (sSeq (sSet 4 (mDat (mFrz (mCall φ_piece_in (mSeqA [(agD (mVar 0)), (agD (mVar 1)), (agD (mVar 2)), (agD (mVar 3))]))))) (sRet (mDat (mIf (lift2 oNotX (mVar 4) (M.pure .none)) (lift2 oIx (mVar 4) (M.pure (.int 0))) (M.pure .none)))))))
noncomputable def φ_first_in : Sl → Res C := run 3 5 [0, 1, 2] m_first_in
noncomputable def m_right_up_to : M Fl := (sSeq (sAsg (mFrz (mCall φ_sure_three (mSeqA [(agD (mVar 0)), (agD (mVar 1)), (agD (mVar 2))]))) (gT [(gN 3), (gN 4), (gN 5)])) (sSeq (sSet 6 (mDat (mFrz (mCall φ_first_in (mSeqA [(agD (mVar 3)), (agD (mVar 4)), (agD (mVar 5))]))))) (sSeq (sIf (lift2 oIsX (mVar 6) (M.pure .none)) (sRet (mCall φ_top_in (mSeqA [(agD (mVar 3))]))) sSkip) (sRet (mDat (mIf (lift2 oGt (mVar 6) (M.pure (.int 0))) (lift2 oSub (mVar 6) (M.pure (.int 1))) (M.pure .none)))))))
noncomputable def φ_right_up_to : Sl → Res C := run 3 7 [0, 1, 2] m_right_up_to
noncomputable def m_shift_saved : M Fl := (sSeq (sSet 4 (mDat (mFrz (mCall φ_sure_width (mSeqA [(agD (mVar 0))]))))) (sSeq (sSet 5 (mDat (mFrz (mCall φ_sure_divisor (mSeqA [(agD (mVar 4)), (agD (mVar 1))]))))) (sSeq (sSet 6 (mDat (mFrz (mCall φ_sure_kind (mSeqA [(agD (mVar 2))]))))) (sSeq (sSet 7 (mDat (mFrz (mCall φ_sure_word (mSeqA [(agD (mVar 4)), (agD (mVar 3))]))))) (sRet (mDat (lift2 oSub (lift2 oIx (mFrz (mCall φ_recipe_to_in (mSeqA [(agD (mVar 4)), (agD (mVar 5)), (agD (mVar 6)), (agD (mFrz (mCall φ_top_in (mSeqA [(agD (mVar 4))]))))]))) (M.pure (.int 2))) (lift2 oIx (mFrz (mCall φ_recipe_to_in (mSeqA [(agD (mVar 4)), (agD (mVar 5)), (agD (mVar 6)), (agD (mVar 7))]))) (M.pure (.int 2))))))))))
noncomputable def φ_shift_saved : Sl → Res C := run 4 8 [0, 1, 2, 3] m_shift_saved
noncomputable def m_times_to : M Fl := (sSeq (sSet 5 (mDat (mFrz (mCall φ_sure_width (mSeqA [(agD (mVar 0))]))))) (sSeq (sSet 6 (mDat (mFrz (mCall φ_sure_divisor (mSeqA [(agD (mVar 5)), (agD (mVar 1))]))))) (sSeq (sSet 7 (mDat (mFrz (mCall φ_sure_kind (mSeqA [(agD (mVar 2))]))))) (sSeq (sSet 8 (mDat (mFrz (mCall φ_sure_within (mSeqA [(agD (mVar 3)), (agD (M.pure (.int 0))), (agD (lift2 oMul (M.pure (.int 2)) (mVar 5)))]))))) (sRet (mCall φ_times_to_in (mSeqA [(agD (mVar 5)), (agD (mVar 6)), (agD (mVar 7)), (agD (mVar 8)), (agD (mFrz (mCall φ_sure_word (mSeqA [(agD (mVar 5)), (agD (mVar 4))]))))])))))))
noncomputable def φ_times_to : Sl → Res C := run 5 9 [0, 1, 2, 3, 4] m_times_to
structure Q where
  script_ : Option C := none
  tin_ : Option C := none
  lap_ : Option C := none
  w_ : Option C := none
  d_ : Option C := none
  top_so_ : Option C := none
  recipe_so_ : Option C := none
  b_ : Option C := none
  rows_so_ : Option C := none
  fine_so_ : Option C := none
  got_ : Option C := none
  errs_so_ : Option C := none
  first_so_ : Option C := none
  far_ : Option C := none
  kind_so_ : Option C := none
  s_ : Option C := none
  own_ : Option C := none
  m_ : Option C := none
  shifts_so_ : Option C := none
  n_ : Option C := none
  k_ : Option C := none
def Q.sl (s : Q) : Sl := [s.script_, s.tin_, s.lap_, s.w_, s.d_, s.top_so_, s.recipe_so_, s.b_, s.rows_so_, s.fine_so_, s.got_, s.errs_so_, s.first_so_, s.far_, s.kind_so_, s.s_, s.own_, s.m_, s.shifts_so_, s.n_, s.k_]
noncomputable def q1 : M Fl := (sSet 1 (mCall φ__law_box (mSeqA [(agD (mFrz (mCall φ__law_cells (mSeqA [(agD (mVar 0)), (agD (M.pure (.int 1)))])))), (agD (M.pure (.int 0)))])))
noncomputable def q2 : M Fl := (sSet 3 (mDat (mFrz (mIf (lift2 oLt (mVar 2) (M.pure (.int 2))) (mDat (lift2 oAdd (M.pure (.int 1)) (mFrz (mCall φ__law_take (mSeqA [(agV 1), (agD (M.pure (.int 8)))]))))) (mCall φ__law_wide (mSeqA [(agV 1)]))))))
noncomputable def q3 : M Fl := (sAsg (mTup [(mFrz (mCall φ__law_divisor (mSeqA [(agV 1), (agD (mVar 3))]))), (lift2 oSub (mFrz (mCall φ__law_two (mSeqA [(agD (mVar 3))]))) (M.pure (.int 1)))]) (gT [(gN 4), (gN 5)]))
noncomputable def q4 : M Fl := (sSet 6 (mDat (mFrz (mCall φ__law_recipe (mSeqA [(agV 1), (agD (mVar 3)), (agD (mVar 4))])))))
noncomputable def q5 : M Fl := (sSet 7 (mDat (lift2 oMax (M.pure (.int 0)) (lift2 oMin (mVar 5) (mFrz (mCall φ__law_of (mSeqA [(agV 1), (agD (mFrz (mLst [(mFrz (mCall φ__law_take (mSeqA [(agV 1), (agD (lift2 oAdd (mVar 5) (M.pure (.int 1))))]))), (lift2 oAdd (lift2 oSub (mVar 4) (M.pure (.int 2))) (mFrz (mCall φ__law_take (mSeqA [(agV 1), (agD (M.pure (.int 4)))])))), (mFrz (mCall φ__law_take (mSeqA [(agV 1), (agD (M.pure (.int 2000)))]))), (mVar 5)])))])))))))
noncomputable def q6 : M Fl := (sSet 8 (mDat (mFrz (mCall φ__law_looks (mSeqA [(agD (mVar 4)), (agD (mVar 6)), (agD (mVar 7))])))))
noncomputable def q7 : M Fl := (sSet 9 (mDat (bD (lift2 oEq (mFrz (mLc [19] (mItems (mVar 8)) (gN 19) (lift2 oNe (mFrz (mCall φ__law_told (mSeqA [(agD (mVar 6)), (agD (mVar 19))]))) (lift2 oDiv (mVar 19) (mVar 4))) (mVar 19))) (mFrz (mLst []))))))
noncomputable def q8 : M Fl := (sSet 10 (mDat (mFrz (mLst [(mFrz (mCall φ_looks_to (mSeqA [(agD (mVar 3)), (agD (mVar 4)), (agD (mVar 6)), (agD (mVar 7))]))), (mFrz (mCall φ_is_right_to (mSeqA [(agD (mVar 3)), (agD (mVar 4)), (agD (mVar 6)), (agD (mVar 7))])))]))))
noncomputable def q9 : M Fl := (sRet (mDat (M.pure (.bool false))))
noncomputable def q10 : M Fl := (sIf (DL.tNot (tTru (mFrz (mCall (φ__law_same 6) (mSeqA [(agD (mVar 10)), (agD (mFrz (mLst [(mVar 8), (mVar 9)])))]))))) q9 sSkip)
noncomputable def q11 : M Fl := (sSet 11 (mDat (mFrz (mLc [19] (mRng1 (lift2 oAdd (mVar 5) (M.pure (.int 1)))) (gN 19) (lift2 oNe (mFrz (mCall φ__law_told (mSeqA [(agD (mVar 6)), (agD (mVar 19))]))) (lift2 oDiv (mVar 19) (mVar 4))) (mVar 19)))))
noncomputable def q12 : M Fl := (sRet (mDat (M.pure (.bool false))))
noncomputable def q13 : M Fl := (sIf (lift2 oNe (bD (lift2 oEq (mFrz (mLc [19] (mItems (mVar 11)) (gN 19) (lift2 oLe (mVar 19) (mVar 7)) (mVar 19))) (mFrz (mLst [])))) (mVar 9)) q12 sSkip)
noncomputable def q14 : M Fl := (sSet 12 (mDat (mIf (DL.tAnd (lift2 oNe (mVar 11) (mFrz (mLst []))) (lift2 oEq (lift2 oIx (mVar 11) (M.pure (.int 0))) (M.pure (.int 0)))) (M.pure .none) (mIf (lift2 oEq (mVar 11) (mFrz (mLst []))) (mVar 5) (lift2 oSub (lift2 oIx (mVar 11) (M.pure (.int 0))) (M.pure (.int 1)))))))
noncomputable def q15 : M Fl := (sRet (mDat (M.pure (.bool false))))
noncomputable def q16 : M Fl := (sIf (DL.tNot (tTru (mFrz (mCall (φ__law_same 6) (mSeqA [(agD (mFrz (mLst [(mFrz (mCall φ_right_up_to (mSeqA [(agD (mVar 3)), (agD (mVar 4)), (agD (mVar 6))]))), (mFrz (mCall φ_errs_to (mSeqA [(agD (mVar 3)), (agD (mVar 4)), (agD (mVar 6)), (agD (mVar 7))])))]))), (agD (mFrz (mLst [(mVar 12), (lift1 oLen (mFrz (mLc [19] (mItems (mVar 11)) (gN 19) (lift2 oLe (mVar 19) (mVar 7)) (mVar 19))))])))]))))) q15 sSkip)
noncomputable def q17 : M Fl := (sIf (lift2 oLe (mVar 3) (M.pure (.int 8))) (sSeq q11 (sSeq q13 (sSeq q14 q16))) sSkip)
noncomputable def q18 : M Fl := (sSet 13 (mDat (mFrz (mCall φ_right_up_to (mSeqA [(agD (mVar 3)), (agD (mVar 4)), (agD (mVar 6))])))))
noncomputable def q19 : M Fl := (sRet (mDat (M.pure (.bool false))))
noncomputable def q20 : M Fl := (sIf (DL.tAnd (lift2 oNotX (mVar 13) (M.pure .none)) (DL.tOr (DL.tNot (tTru (mFrz (mCall φ_is_right_to (mSeqA [(agD (mVar 3)), (agD (mVar 4)), (agD (mVar 6)), (agD (mVar 13))]))))) (DL.tAnd (lift2 oLt (mVar 13) (mVar 5)) (DL.tOr (tTru (mFrz (mCall φ_is_right_to (mSeqA [(agD (mVar 3)), (agD (mVar 4)), (agD (mVar 6)), (agD (lift2 oAdd (mVar 13) (M.pure (.int 1))))])))) (lift2 oEq (mFrz (mCall φ__law_told (mSeqA [(agD (mVar 6)), (agD (lift2 oAdd (mVar 13) (M.pure (.int 1))))]))) (lift2 oDiv (lift2 oAdd (mVar 13) (M.pure (.int 1))) (mVar 4))))))) q19 sSkip)
noncomputable def q21 : M Fl := (sAsg (mTup [(lift2 oIx (mVar 6) (M.pure (.int 0))), (lift2 oIx (mVar 6) (M.pure (.int 2)))]) (gT [(gN 14), (gN 15)]))
noncomputable def q22 : M Fl := (sSet 16 (mDat (mFrz (mCall φ__law_range (mSeqA [(agD (mVar 3)), (agD (mVar 4)), (agD (mVar 14)), (agD (mVar 15)), (agD (mVar 7))])))))
noncomputable def q23 : M Fl := (sRet (mDat (M.pure (.bool false))))
noncomputable def q24 : M Fl := (sIf (DL.tNot (tTru (mFrz (mCall (φ__law_same 6) (mSeqA [(agD (mFrz (mCall φ_times_to (mSeqA [(agD (mVar 3)), (agD (mVar 4)), (agD (mVar 14)), (agD (mVar 15)), (agD (mVar 7))])))), (agD (mVar 16))]))))) q23 sSkip)
noncomputable def q25 : M Fl := (sRet (mDat (M.pure (.bool false))))
noncomputable def q26 : M Fl := (sIf (DL.tAnd (tChain oLe oLt (M.pure (.int 0)) (mVar 17) (lift2 oMul (M.pure (.int 2)) (mFrz (mCall φ__law_two (mSeqA [(agD (mVar 3))]))))) (lift2 oNe (mFrz (mCall φ_is_right_to (mSeqA [(agD (mVar 3)), (agD (mVar 4)), (agD (mTup [(mVar 14), (mVar 17), (mVar 15)])), (agD (mVar 7))]))) (bD (tChain oLe oLe (lift2 oIx (mVar 16) (M.pure (.int 0))) (mVar 17) (lift2 oIx (mVar 16) (M.pure (.int 1))))))) q25 sSkip)
noncomputable def q27 : M Fl := (sFor (mItems (mTup [(lift2 oIx (mVar 16) (M.pure (.int 0))), (lift2 oIx (mVar 16) (M.pure (.int 1))), (lift2 oSub (lift2 oIx (mVar 16) (M.pure (.int 0))) (M.pure (.int 1))), (lift2 oAdd (lift2 oIx (mVar 16) (M.pure (.int 1))) (M.pure (.int 1)))])) (gN 17) q26)
noncomputable def q28 : M Fl := (sIf (lift2 oNotX (mVar 16) (M.pure .none)) q27 sSkip)
noncomputable def q29 : M Fl := (sSet 18 (mDat (mFrz (mLc [20] (mRng1 (lift2 oAdd (lift2 oMul (M.pure (.int 2)) (mVar 3)) (M.pure (.int 1)))) (gN 20) (lift2 oNotX (mFrz (mCall φ__law_range (mSeqA [(agD (mVar 3)), (agD (mVar 4)), (agD (mVar 14)), (agD (mVar 20)), (agD (mVar 7))]))) (M.pure .none)) (mVar 20)))))
noncomputable def q30 : M Fl := (sRet (mDat (M.pure (.bool false))))
noncomputable def q31 : M Fl := (sIf (lift2 oEq (mVar 18) (mFrz (mLst []))) q30 sSkip)
noncomputable def q32 : M Fl := (sSet 10 (mDat (mFrz (mLst [(mFrz (mCall φ_recipe_to (mSeqA [(agD (mVar 3)), (agD (mVar 4)), (agD (mVar 14)), (agD (mVar 7))]))), (mFrz (mCall φ_shift_saved (mSeqA [(agD (mVar 3)), (agD (mVar 4)), (agD (mVar 14)), (agD (mVar 7))])))]))))
noncomputable def q33 : M Fl := (sRet (mDat (M.pure (.bool false))))
noncomputable def q34 : M Fl := (sIf (DL.tNot (tTru (mFrz (mCall (φ__law_same 6) (mSeqA [(agD (mVar 10)), (agD (mFrz (mLst [(mTup [(mVar 14), (lift2 oIx (mFrz (mCall φ__law_range (mSeqA [(agD (mVar 3)), (agD (mVar 4)), (agD (mVar 14)), (agD (lift2 oIx (mVar 18) (M.pure (.int 0)))), (agD (mVar 7))]))) (M.pure (.int 0))), (lift2 oIx (mVar 18) (M.pure (.int 0)))]), (lift2 oSub (mFrz (mCall φ_least_shift (mSeqA [(agD (mVar 3)), (agD (mVar 4)), (agD (mVar 14))]))) (lift2 oIx (mVar 18) (M.pure (.int 0))))])))]))))) q33 sSkip)
noncomputable def q35 : M Fl := (sRet (mDat (M.pure (.bool false))))
noncomputable def q36 : M Fl := (sIf (DL.tOr (lift2 oNe (mFrz (mCall φ_shift_saved (mSeqA [(agD (mVar 3)), (agD (mVar 4)), (agD (mVar 14)), (agD (mVar 5))]))) (M.pure (.int 0))) (lift2 oLt (mFrz (mCall φ_shift_saved (mSeqA [(agD (mVar 3)), (agD (mVar 4)), (agD (mVar 14)), (agD (mVar 7))]))) (M.pure (.int 0)))) q35 sSkip)
noncomputable def q37 : M Fl := (sFor (mRng1 (M.pure (.int 4))) (gN 2) (sSeq q2 (sSeq q3 (sSeq q4 (sSeq q5 (sSeq q6 (sSeq q7 (sSeq q8 (sSeq q10 (sSeq q17 (sSeq q18 (sSeq q20 (sSeq q21 (sSeq q22 (sSeq q24 (sSeq q28 (sSeq q29 (sSeq q31 (sSeq q32 (sSeq q34 q36))))))))))))))))))))
noncomputable def q38 : M Fl := (sRet (mDat (M.pure (.bool true))))
noncomputable def m_law : M Fl := (sSeq q1 (sSeq q37 q38))
noncomputable def φ_law : Sl → Res C := run 1 21 [0] m_law
end L40

set_option linter.all false
set_option maxRecDepth 100000
set_option exponentiation.threshold 10000
namespace L40
open PySem PySem.Spec L2 DL
theorem eq_take (n : Nat) (t : List PyData) (k : Int) (T : Tin n t) (hn : n ≤ 1000000000000) (hk : 0 < k) (hk2 : Builtin.Int.intBits k ≤ 8000) :
    ∃ v t', φ__law_take [some (.l t), dI k] = .ok (.d (.int v)) [some (.l t'), dI k] ∧ 0 ≤ v ∧ v < k ∧ Tin (n + 1) t' := by
  obtain ⟨a, b, c, rfl, h1, h2, h3, h4, h5, h6⟩ := T
  have ok : okSl 2 [0, 1] [some (C.l [.int a, .int b, .int c]), dI k] = true := rfl
  by_cases ha : 0 < a
  · refine ⟨a % k, [.int (a / k), .int b, .int c], ?_, Int.emod_nonneg _ (by omega), Int.emod_lt_of_pos _ hk, ⟨a / k, b, c, rfl, Int.ediv_nonneg h1 (Int.le_of_lt hk), bits_div h1 hk h2, h3, h4, h5, by omega⟩⟩
    have hd : divOk k = true := divOk_b hk hk2 (by decide)
    rw [φ__law_take, run_ap _ _ _ _ _ ok]
    simp -implicitDefEqProofs [m__law_take, lsAt_ap, atI_3_0, ixOf_3_0, ha, hk, hd, finSl, List.range, List.range.loop]
  · have hn' : (n : Int) ≤ 1000000000000 := by omega
    have m1 : mulOk 48271 (c + 1) = true := mulOk_s (by omega) (by omega) (by omega) (by omega)
    have m2 : mulOk (b + 48271 * (c + 1)) (39373 + (c + 1)) = true := mulOk_s (by omega) (by omega) (by omega) (by omega)
    generalize ho : (b + 48271 * (c + 1)) * (39373 + (c + 1)) % 2147483647 = o
    have o1 : 0 ≤ o := by rw [← ho]; exact Int.emod_nonneg _ (by decide)
    have o2 : o < 2147483647 := by rw [← ho]; exact Int.emod_lt_of_pos _ (by decide)
    have m3 : mulOk (o + (c + 1) + b / 1000003) (o % 40009 + 7) = true := mulOk_s (by omega) (by omega) (by omega) (by omega)
    generalize ht : (o + (c + 1) + b / 1000003) * (o % 40009 + 7) % 2147483629 = u
    have u1 : 0 ≤ u := by rw [← ht]; exact Int.emod_nonneg _ (by decide)
    have u2 : u < 2147483629 := by rw [← ht]; exact Int.emod_lt_of_pos _ (by decide)
    have m4 : mulOk u 48271 = true := mulOk_s (by omega) (by omega) (by omega) (by omega)
    have d1 : divOk 1000003 = true := divOk_s (by decide) (by decide)
    have d2 : divOk 64 = true := divOk_s (by decide) (by decide)
    refine ⟨(u * 48271 + o) % 2147483587 / 64 % k, [.int a, .int b, .int (c + 1)], ?_, Int.emod_nonneg _ (by omega), Int.emod_lt_of_pos _ hk, ⟨a, b, c + 1, rfl, h1, h2, h3, h4, by omega, by omega⟩⟩
    rw [φ__law_take, run_ap _ _ _ _ _ ok]
    simp -implicitDefEqProofs [m__law_take, lsAt_ap, atI_3_0, atI_3_1, atI_3_2, ixOf_3_2, ha, hk, m1, m2, ho, m3, ht, m4, d1, d2, finSl, List.range, List.range.loop]
theorem same_row (n : Nat) (a b : PyData) (ih : ∀ x, dep x < n → plainD x = true → φ__law_same n [some (.d x), some (.d x)] = .ok (.d (.bool true)) [some (.d x), some (.d x)]) :
    ∀ (xs : List PyData) (acc : List PyData), dep.depL xs < n → plainD.plainL xs = true → acc.length + xs.length ≤ sizeLine →
      mLcL [2, 3] (gT [(gN 2), (gN 3)]) mYes (mFrz (mCall (φ__law_same n) (mSeqA [(agD (mVar 2)), (agD (mVar 3))]))) (zipL xs xs) acc [some (.d a), some (.d b), none, none] =
        .ok (acc ++ xs.map fun _ => .bool true) [some (.d a), some (.d b), none, none]
  | [], acc, _, _, _ => by simp [zipL, mLcL]
  | x :: r, acc, hd, hp, hl => by
    have hx : dep x < n := Nat.lt_of_le_of_lt (Nat.le_max_left _ _) hd
    have hr : dep.depL r < n := Nat.lt_of_le_of_lt (Nat.le_max_right _ _) hd
    have hp' : (plainD x && plainD.plainL r) = true := hp
    rw [Bool.and_eq_true] at hp'
    have e1 := ih x hx hp'.1
    have e2 := same_row n a b ih r (acc ++ [.bool true]) hr hp'.2 (by simp at hl ⊢; omega)
    have hz : acc.length < sizeLine := by simp at hl; omega
    show mLcL _ _ _ _ (.tuple [x, x] :: zipL r r) acc _ = _
    simp -implicitDefEqProofs [mLcL, e1, hz, wipeS, e2]
theorem eq_same : ∀ (n : Nat) (x : PyData), dep x < n → plainD x = true → φ__law_same n [some (.d x), some (.d x)] = .ok (.d (.bool true)) [some (.d x), some (.d x)]
  | 0, x, h, _ => absurd h (Nat.not_lt_zero _)
  | n + 1, x, h, hp => by
    have ok : okSl 2 [0, 1] [some (.d x), some (.d x)] = true := rfl
    rw [φ__law_same, run_ap _ _ _ _ _ ok]
    cases x with
    | dict xs => cases hp
    | none => simp -implicitDefEqProofs [m__law_same, finSl, List.range, List.range.loop]
    | bool b => simp -implicitDefEqProofs [m__law_same, finSl, List.range, List.range.loop]
    | int b => simp -implicitDefEqProofs [m__law_same, finSl, List.range, List.range.loop]
    | str b => simp -implicitDefEqProofs [m__law_same, finSl, List.range, List.range.loop]
    | list xs =>
      have hp' : (decide (xs.length ≤ sizeLine) && plainD.plainL xs) = true := hp
      rw [Bool.and_eq_true, decide_eq_true_eq] at hp'
      have h' : dep.depL xs + 1 < n + 1 := h
      have e := same_row n (.list xs) (.list xs) (eq_same n) xs [] (by omega) hp'.2 (by simpa using hp'.1)
      simp only [List.nil_append] at e
      simp -implicitDefEqProofs [m__law_same, noOwn, wipeS, e, oAll_map, restS, finSl, List.range, List.range.loop]
    | tuple xs =>
      have hp' : (decide (xs.length ≤ sizeLine) && plainD.plainL xs) = true := hp
      rw [Bool.and_eq_true, decide_eq_true_eq] at hp'
      have h' : dep.depL xs + 1 < n + 1 := h
      have e := same_row n (.tuple xs) (.tuple xs) (eq_same n) xs [] (by omega) hp'.2 (by simpa using hp'.1)
      simp only [List.nil_append] at e
      simp -implicitDefEqProofs [m__law_same, noOwn, wipeS, e, oAll_map, restS, finSl, List.range, List.range.loop]
theorem eq_two (k : Int) (h0 : 0 ≤ k) (h1 : k ≤ 100000000) : φ__law_two [dI k] = .ok (.d (.int (2 ^ k.toNat))) [dI k] := by
  have ok : okSl 1 [0] [dI k] = true := rfl
  have s : shlOk 1 k = true := shlOk_1 h0 h1
  rw [φ__law_two, run_ap _ _ _ _ _ ok]
  simp -implicitDefEqProofs [m__law_two, s, finSl, List.range, List.range.loop]
theorem eq_of (n : Nat) (t : List PyData) (gs : List PyData) (T : Tin n t) (hn : n ≤ 1000000000000) (hg : 0 < gs.length) (hg2 : gs.length ≤ 1000000000) :
    ∃ x t', φ__law_of [some (.l t), some (.d (.list gs))] = .ok (.d x) [some (.l t'), some (.d (.list gs))] ∧ x ∈ gs ∧ Tin (n + 1) t' := by
  obtain ⟨v, t', h1, h2, h3, h4⟩ := eq_take n t gs.length T hn (by omega) (Nat.le_trans (bits_s (i := (gs.length : Int)) (by omega) (by omega)) (by decide))
  have hv : v.toNat < gs.length := by omega
  have e : atI gs v = some (gs[v.toNat]) := atI_nat h2 hv
  have ok : okSl 2 [0, 1] [some (C.l t), some (.d (.list gs))] = true := rfl
  refine ⟨gs[v.toNat], t', ?_, List.getElem_mem _, h4⟩
  rw [φ__law_of, run_ap _ _ _ _ _ ok]
  simp -implicitDefEqProofs [m__law_of, h1, e, finSl, List.range, List.range.loop]
theorem eq_box (xs : List Int) (k : Int) (hk : 0 ≤ k) (hk2 : k ≤ 1000) (hb : ∀ z ∈ xs, Builtin.Int.intBits z ≤ 1500000) :
    ∃ t, φ__law_box [some (.d (.list (xs.map .int))), dI k] = .ok (.l t) [some (.d (.list (xs.map .int))), dI k] ∧ Tin 0 t := by
  have ok : okSl 2 [0, 1] [some (.d (.list (xs.map .int))), dI k] = true := rfl
  have p18 : powOk 10 18 = true := by decide
  have e18 : (10 : Int) ^ (18 : Int).toNat = 1000000000000000000 := by decide
  have go : ∀ z : Int, Builtin.Int.intBits z ≤ 1500000 → (mIf (lift2 oLt (mVar 1) (lift1 oLen (mVar 0))) (lift2 oIx (mVar 0) (mVar 1)) (M.pure (.int 0))) [some (.d (.list (xs.map .int))), dI k, none] = .ok (.int z) [some (.d (.list (xs.map .int))), dI k, none] →
      ∃ t, φ__law_box [some (.d (.list (xs.map .int))), dI k] = .ok (.l t) [some (.d (.list (xs.map .int))), dI k] ∧ Tin 0 t := fun z hz e => by
    have m1 : ∀ b : Bool, mulOk (if z < 0 then -z else z) (if b = true then 1 else 0) = true := fun b => mulOk_of (p := 1500000) (q := 41) (by rw [bits_abs]; exact hz) (bits_small (by split <;> omega) (by split <;> omega)) (by decide)
    have m2 : mulOk 39373 k = true := mulOk_s (by omega) (by omega) (by omega) (by omega)
    refine ⟨[.int ((if z < 0 then -z else z) * (if decide (1000000000000000000 ≤ (if z < 0 then -z else z)) = true then 1 else 0)), .int (z % 2305843009213693951 + 39373 * k + 263000), .int 0], ?_, ⟨_, _, _, rfl, ?_, ?_, ?_, ?_, by decide, by decide⟩⟩
    · rw [φ__law_box, run_ap _ _ _ _ _ ok, m__law_box]
      have e' : sSet 2 (mDat (mIf (lift2 oLt (mVar 1) (lift1 oLen (mVar 0))) (lift2 oIx (mVar 0) (mVar 1)) (M.pure (.int 0)))) [some (.d (.list (xs.map .int))), dI k, none] = .ok .nx [some (.d (.list (xs.map .int))), dI k, dI z] := by
        rw [sSet_ap, mDat_ap, e]; rfl
      show runR 2 [0, 1] _ (sSeq _ _ [some (.d (.list (xs.map .int))), dI k, none]) = _
      rw [sSeq_ap, e']
      have m1' := m1 (decide (1000000000000000000 ≤ (if z < 0 then -z else z)))
      simp only [decide_eq_true_eq] at m1'
      simp -implicitDefEqProofs [p18, e18, m1', m2, finSl, List.range, List.range.loop]
    · have h0 : 0 ≤ (if z < 0 then -z else z) := by split <;> omega
      exact Int.mul_nonneg h0 (by split <;> omega)
    · refine Nat.le_trans (bits_mul (p := 1500000) (q := 41) (by rw [bits_abs]; exact hz) (bits_small (by split <;> omega) (by split <;> omega))) (by decide)
    · have := Int.emod_nonneg z (b := 2305843009213693951) (by decide)
      omega
    · have := Int.emod_lt_of_pos z (b := 2305843009213693951) (by decide)
      omega
  by_cases hl : k < xs.length
  · have hv : k.toNat < xs.length := by omega
    refine go (xs[k.toNat]) (hb _ (List.getElem_mem _)) ?_
    have e : atI (xs.map PyData.int) k = some (.int (xs[k.toNat])) := by
      rw [atI_nat hk (by rw [List.length_map]; exact hv), List.getElem_map]
    simp -implicitDefEqProofs [hl, e]
  · refine go 0 (by decide) ?_
    simp -implicitDefEqProofs [hl]
theorem eq_cells (xs : List Int) (m : Int) (hm : 1 ≤ m) (hm2 : m ≤ 1000) (hl : xs.length ≤ 63) (hb : ∀ z ∈ xs, Builtin.Int.intBits z ≤ 1048576) :
    ∃ ys : List Int, φ__law_cells [some (.d (.list (xs.map .int))), dI m] = .ok (.l (ys.map .int)) [some (.d (.list (xs.map .int))), dI m] ∧ 0 < ys.length ∧ ys.length ≤ m ∧ ∀ z ∈ ys, Builtin.Int.intBits z ≤ 1500000 := by
  have ok : okSl 2 [0, 1] [some (.d (.list (xs.map .int))), dI m] = true := rfl
  obtain ⟨y0, hy0, hlen, hfull, hyb⟩ : ∃ y0 : List Int, (sSet 2 (mOrC (lift1 oListC (mFrz (mSl (mVar 0) pNo (pInt (mVar 1))))) (mLst [(M.pure (.int 0))]))) [some (.d (.list (xs.map .int))), dI m, none, none, none, none] = .ok .nx [some (.d (.list (xs.map .int))), dI m, some (.l (y0.map .int)), none, none, none] ∧ (0 < y0.length ∧ y0.length ≤ m) ∧ (m < xs.length → y0.length = m.toNat) ∧ ∀ z ∈ y0, Builtin.Int.intBits z ≤ 1048576 := by
    have ec : cutL (xs.map PyData.int) none (some m) = (xs.take m.toNat).map .int := by rw [cut_hi (by omega), List.map_take]
    by_cases he : xs.take m.toNat = []
    · refine ⟨[0], ?_, ⟨by decide, by show ((1 : Nat) : Int) ≤ m; omega⟩, fun h => ?_, fun z hz => ?_⟩
      · simp -implicitDefEqProofs [ec, he]
      · have h5 : (xs.take m.toNat).length = 0 := by rw [he]; rfl
        rw [List.length_take] at h5
        omega
      · have : z = 0 := by simpa using hz
        subst this
        decide
    · refine ⟨xs.take m.toNat, ?_, ⟨List.length_pos_iff.mpr he, by rw [List.length_take]; omega⟩, fun h => by rw [List.length_take]; omega, fun z hz => hb z (List.mem_of_mem_take hz)⟩
      have he' : (List.map PyData.int (xs.take m.toNat)).isEmpty = false := by
        cases h : xs.take m.toNat with
        | nil => exact absurd h he
        | cons a r => rfl
      simp -implicitDefEqProofs only [sSet_ap, mOrC_ap, lift1_ap, mFrz_ap, mSl_ap, mVar_ap, pNo_ap, pInt_ap, bind_ap, pure_ap, then_ok, of_some, oSl_l, frz_l, oListC_l, truC_l, he', ec, List.getElem?_cons_zero, List.getElem?_cons_succ, Bool.not_false, sPut_ap, List.set_cons_zero, List.set_cons_succ]
  rw [φ__law_cells, run_ap _ _ _ _ _ ok, m__law_cells]
  show ∃ ys : List Int, runR 2 [0, 1] _ (sSeq _ _ [some (.d (.list (xs.map .int))), dI m, none, none, none, none]) = _ ∧ _
  rw [sSeq_ap, hy0]
  let I : Nat → Sl → Prop := fun i ρ => ∃ (ys : List Int) (o3 o4 o5 : Option C), ρ = [some (.d (.list (xs.map .int))), dI m, some (.l (ys.map .int)), o3, o4, o5] ∧ ys.length = y0.length ∧ ∀ z ∈ ys, Builtin.Int.intBits z ≤ 1048700 + i
  have hI0 : I 0 [some (.d (.list (xs.map .int))), dI m, some (.l (y0.map .int)), none, none, none] := ⟨y0, none, none, none, rfl, rfl, fun z hz => by have := hyb z hz; omega⟩
  have stp : ∀ i x ρ, (enumL (cutL (xs.map PyData.int) (some m) (some 63)))[i]? = some x → I i ρ → ∃ ρ', M.bind (gT [(gN 3), (gN 4)] x) (fun _ => (sSeq (sSet 5 (mDat (lift2 oMod (lift1 oInt (mVar 3)) (mVar 1)))) (sSetIx 2 (mVar 5) (lift2 oAdd (mIxV 2 (mVar 5)) (lift2 oMul (mVar 4) (lift2 oAdd (mVar 3) (M.pure (.int 2)))))))) ρ = .ok .nx ρ' ∧ I (i + 1) ρ' := by
    rintro i x ρ hx ⟨ys, o3, o4, o5, rfl, hyl, hyz⟩
    obtain ⟨d, hd, rfl⟩ := enumL_at' hx
    obtain ⟨z, hz, rfl⟩ := mem_ints (List.mem_of_getElem? hd)
    have hi : i < 63 := by
      have h1 := (List.getElem?_eq_some_iff.mp hd).1
      have h2 := cut_len (xs := xs.map PyData.int) (lo := some m) (hi := some 63)
      rw [List.length_map] at h2
      omega
    have hmx : m < xs.length := by
      by_cases h : (xs.length : Int) ≤ m
      · rw [cut_len0 (by omega) (by rw [List.length_map]; exact h)] at hd
        cases hd
      · omega
    have hym : ys.length = m.toNat := by rw [hyl, hfull hmx]
    have hm0 : 0 < m := by omega
    have a1 := Int.emod_nonneg (i : Int) (b := m) (by omega)
    have a2 := Int.emod_lt_of_pos (i : Int) hm0
    have hv : ((i : Int) % m).toNat < ys.length := by omega
    have e1 := atI_ints (xs := ys) a1 hv
    have e2 : ixOf (ys.map PyData.int).length (.int ((i : Int) % m)) = some ((i : Int) % m).toNat := ixOf_nat a1 (by rw [List.length_map]; omega)
    have e2' : ixOf ys.length (.int ((i : Int) % m)) = some ((i : Int) % m).toNat := by rw [List.length_map] at e2; exact e2
    have mo : mulOk z ((i : Int) + 2) = true := mulOk_of (hb z hz) (bits_small (by omega) (by omega)) (by decide)
    refine ⟨[some (.d (.list (xs.map .int))), dI m, some (.l ((ys.set ((i : Int) % m).toNat (ys[((i : Int) % m).toNat] + z * ((i : Int) + 2))).map .int)), dI i, dI z, dI ((i : Int) % m)], ?_, _, _, _, _, rfl, by rw [List.length_set]; exact hyl, fun q hq => ?_⟩
    · simp -implicitDefEqProofs [lsAt_ap, e1, e2', mo, hm0]
    · rcases List.mem_or_eq_of_mem_set hq with h | h
      · have := hyz q h; omega
      · subst h
        have b1 := hyz _ (List.getElem_mem hv)
        have b2 := bits_mul (hb z hz) (bits_small (i := (i : Int) + 2) (by omega) (by omega))
        have b3 := bits_add (p := 1048700 + i) b1 (Nat.le_trans b2 (by omega))
        omega
  obtain ⟨ρ1, e3, ys, o3, o4, o5, rfl, hyl, hyz⟩ := sForL_inv I hI0 stp
  refine ⟨ys, ?_, by omega, by omega, fun z hz => ?_⟩
  · simp -implicitDefEqProofs [e3, finSl, List.range, List.range.loop]
  · have h1 := hyz z hz
    have h2 : (enumL (cutL (xs.map PyData.int) (some m) (some 63))).length ≤ 63 := by
      have h3 := cut_len (xs := xs.map PyData.int) (lo := some m) (hi := some 63)
      rw [List.length_map] at h3
      unfold enumL
      rw [List.length_zipWith, List.length_range, Nat.min_self]
      omega
    omega
theorem eq_takeS (n : Nat) (t : List PyData) (k : Int) (T : Tin n t) (hn : n ≤ 1000000000000) (hk : 0 < k) (hk2 : k < 10000000000000000000000000000000000000000) :
    ∃ v t', φ__law_take [some (.l t), dI k] = .ok (.d (.int v)) [some (.l t'), dI k] ∧ 0 ≤ v ∧ v < k ∧ Tin (n + 1) t' := eq_take n t k T hn hk (Nat.le_trans (bits_s (by omega) hk2) (by decide))
theorem eq_wide (n : Nat) (t : List PyData) (T : Tin n t) (hn : n ≤ 100000000000) :
    ∃ w t', φ__law_wide [some (.l t)] = .ok (.d (.int w)) [some (.l t')] ∧ 1 ≤ w ∧ w ≤ 64 ∧ Tin (n + 3) t' := by
  obtain ⟨v1, t1, e1, a1, b1, T1⟩ := eq_takeS n t 64 T (by omega) (by omega) (by omega)
  obtain ⟨v2, t2, e2, a2, b2, T2⟩ := eq_takeS _ t1 12 T1 (by omega) (by omega) (by omega)
  obtain ⟨x, t3, e3, hx, T3⟩ := eq_of _ t2 [.int 8, .int 16, .int 32, .int 64, .int (1 + v1), .int (1 + v2)] T2 (by omega) (by simp) (by simp)
  have ok : okSl 1 [0] [some (C.l t)] = true := rfl
  obtain ⟨w, rfl, hw1, hw2⟩ : ∃ w : Int, x = .int w ∧ 1 ≤ w ∧ w ≤ 64 := by
    simp only [List.mem_cons, List.not_mem_nil, or_false] at hx
    rcases hx with h | h | h | h | h | h <;> exact ⟨_, h, by omega, by omega⟩
  refine ⟨w, t3, ?_, hw1, hw2, T3⟩
  rw [φ__law_wide, run_ap _ _ _ _ _ ok]
  simp -implicitDefEqProofs [m__law_wide, e1, e2, e3, finSl, List.range, List.range.loop]
theorem eq_divisor (n : Nat) (t : List PyData) (w : Int) (T : Tin n t) (hn : n ≤ 100000000000) (h1 : 1 ≤ w) (h2 : w ≤ 64) :
    ∃ d t', φ__law_divisor [some (.l t), dI w] = .ok (.d (.int d)) [some (.l t'), dI w] ∧ 1 ≤ d ∧ d < 2 ^ w.toNat ∧ Tin (n + 7) t' := by
  have p1 : (2 : Int) ≤ 2 ^ w.toNat := two_le_pow (by omega)
  have p2 : (2 : Int) ^ w.toNat ≤ 18446744073709551616 := pow_le64 (by omega)
  obtain ⟨v1, t1, e1, a1, b1, T1⟩ := eq_takeS n t 20 T (by omega) (by omega) (by omega)
  obtain ⟨v2, t2, e2, a2, b2, T2⟩ := eq_takeS _ t1 (2 ^ w.toNat - 1) T1 (by omega) (by omega) (by omega)
  obtain ⟨v3, t3, e3, a3, b3, T3⟩ := eq_takeS _ t2 10 T2 (by omega) (by omega) (by omega)
  obtain ⟨v4, t4, e4, a4, b4, T4⟩ := eq_takeS _ t3 w T3 (by omega) (by omega) (by omega)
  obtain ⟨v5, t5, e5, a5, b5, T5⟩ := eq_takeS _ t4 3 T4 (by omega) (by omega) (by omega)
  obtain ⟨v6, t6, e6, a6, b6, T6⟩ := eq_takeS _ t5 1000 T5 (by omega) (by omega) (by omega)
  have q1 := eq_two w (by omega) (by omega)
  have q2 := eq_two v4 a4 (by omega)
  obtain ⟨x, t7, e7, hx, T7⟩ := eq_of _ t6 [.int (1 + v1), .int (1 + v2), .int (2 ^ w.toNat - 1 - v3), .int (2 ^ v4.toNat + v5 - 1), .int (1 + v6)] T6 (by omega) (by simp) (by simp)
  have ok : okSl 2 [0, 1] [some (C.l t), dI w] = true := rfl
  obtain ⟨f, rfl⟩ : ∃ w : Int, x = .int w := by
    simp only [List.mem_cons, List.not_mem_nil, or_false] at hx
    rcases hx with h | h | h | h | h <;> exact ⟨_, h⟩
  generalize hmn : min f (2 ^ w.toNat - 1) = mn
  refine ⟨max 1 mn, t7, ?_, by omega, by omega, T7⟩
  rw [φ__law_divisor, run_ap _ _ _ _ _ ok]
  simp -implicitDefEqProofs [m__law_divisor, e1, e2, e3, e4, e5, e6, e7, q1, q2, hmn, finSl, List.range, List.range.loop]
theorem eq_is_number (i : Int) : φ_is_number [dI i] = .ok (.d (.bool true)) [dI i] := by
  have ok : okSl 1 [0] [dI i] = true := rfl
  rw [φ_is_number, run_ap _ _ _ _ _ ok]
  simp -implicitDefEqProofs [m_is_number, finSl, List.range, List.range.loop]
theorem eq_is_within (i a b : Int) : φ_is_within [dI i, dI a, dI b] = .ok (.d (.bool (decide (a ≤ i) && decide (i ≤ b)))) [dI i, dI a, dI b] := by
  have ok : okSl 3 [0, 1, 2] [dI i, dI a, dI b] = true := rfl
  rw [φ_is_within, run_ap _ _ _ _ _ ok]
  by_cases h : a ≤ i <;> simp -implicitDefEqProofs [m_is_within, eq_is_number, h, finSl, List.range, List.range.loop]
theorem eq_sure_within (i a b : Int) (h1 : a ≤ i) (h2 : i ≤ b) : φ_sure_within [dI i, dI a, dI b] = .ok (.d (.int i)) [dI i, dI a, dI b] := by
  have ok : okSl 3 [0, 1, 2] [dI i, dI a, dI b] = true := rfl
  rw [φ_sure_within, run_ap _ _ _ _ _ ok]
  simp -implicitDefEqProofs [m_sure_within, eq_is_within, h1, h2, finSl, List.range, List.range.loop]
theorem eq_top_in (w : Int) (h0 : 0 ≤ w) (h1 : w ≤ 100000000) : φ_top_in [dI w] = .ok (.d (.int (2 ^ w.toNat - 1))) [dI w] := by
  have ok : okSl 1 [0] [dI w] = true := rfl
  have s : shlOk 1 w = true := shlOk_1 h0 h1
  rw [φ_top_in, run_ap _ _ _ _ _ ok]
  simp -implicitDefEqProofs [m_top_in, s, finSl, List.range, List.range.loop]
theorem eq_sure_width (w : Int) (h0 : 1 ≤ w) (h1 : w ≤ 64) : φ_sure_width [dI w] = .ok (.d (.int w)) [dI w] := by
  have ok : okSl 1 [0] [dI w] = true := rfl
  rw [φ_sure_width, run_ap _ _ _ _ _ ok]
  simp -implicitDefEqProofs [m_sure_width, eq_sure_within w 1 64 h0 h1, finSl, List.range, List.range.loop]
theorem eq_sure_word (w v : Int) (h0 : 1 ≤ w) (h1 : w ≤ 64) (h2 : 0 ≤ v) (h3 : v < 2 ^ w.toNat) : φ_sure_word [dI w, dI v] = .ok (.d (.int v)) [dI w, dI v] := by
  have ok : okSl 2 [0, 1] [dI w, dI v] = true := rfl
  rw [φ_sure_word, run_ap _ _ _ _ _ ok]
  simp -implicitDefEqProofs [m_sure_word, eq_top_in w (by omega) (by omega), eq_sure_within v 0 (2 ^ w.toNat - 1) h2 (by omega), finSl, List.range, List.range.loop]
end L40

set_option linter.all false
set_option maxRecDepth 100000
set_option exponentiation.threshold 10000
namespace L40
open PySem PySem.Spec L2 DL
/-! ## recipes -/
def kd (b : Bool) : Str := if b then Str.ofString "more" else Str.ofString "up"
def ci (b : Bool) : Int := if b then 1 else 0
def rc (b : Bool) (m s : Int) : PyData := .tuple [.str (kd b), .int m, .int s]
@[simp] theorem kd_up (b : Bool) : oEq (.str (kd b)) (.str (Str.ofString "up")) = some (!b) := by cases b <;> rfl
@[simp] theorem kd_more (b : Bool) : oEq (.str (kd b)) (.str (Str.ofString "more")) = some b := by cases b <;> rfl
@[simp] theorem kd_in (b : Bool) : oNotIn (.str (kd b)) k_KINDS = some false := by cases b <;> rfl
@[simp] theorem rc_0 (b : Bool) (m s : Int) : oIx (rc b m s) (.int 0) = some (.str (kd b)) := rfl
@[simp] theorem rc_1 (b : Bool) (m s : Int) : oIx (rc b m s) (.int 1) = some (.int m) := rfl
@[simp] theorem rc_2 (b : Bool) (m s : Int) : oIx (rc b m s) (.int 2) = some (.int s) := rfl
theorem ci_b (b : Bool) : 0 ≤ ci b ∧ ci b ≤ 1 := by cases b <;> decide
theorem ci_or (b : Bool) : ci b = 0 ∨ ci b = 1 := by cases b <;> simp [ci]
theorem eq_upper (a k : Int) (h0 : 0 < k) (h : k < 1000000000000000000000000000000000000000000000000000000000000000000000000000000000000000000) : φ_upper [dI a, dI k] = .ok (.d (.int (PE.up a k))) [dI a, dI k] := by
  have dk : divOk k = true := divOk_l h0 h
  (rw [φ_upper, run_ap _ _ _ _ _ (by rfl)]; simp -implicitDefEqProofs [m_upper, finSl, List.range, List.range.loop, dk, PE.up])
theorem eq_value_of {b : Bool} {m s : Int} (h0 : 0 ≤ m) (hm : m < 100000000000000000000000) (hs : 0 ≤ s) (n : Int) (n0 : 0 ≤ n) (n1 : n ≤ 18446744073709551616) : φ_value_of [some (.d (rc b m s)), dI n] = .ok (.d (.int (PE.tl (ci b) m (2 ^ s.toNat) n))) [some (.d (rc b m s)), dI n] := by
  have k1 : mulOk n m = true := mulOk_s (by omega) (by omega) (by omega) (by omega)
  have k2 : mulOk (n + 1) m = true := mulOk_s (by omega) (by omega) (by omega) (by omega)
  cases b <;> (rw [φ_value_of, run_ap _ _ _ _ _ (by rfl)]; simp -implicitDefEqProofs [m_value_of, finSl, List.range, List.range.loop, rc, k1, k2, hs, PE.tl, ci])
structure Rq (w d : Int) (b : Bool) (m s : Int) : Prop where
  w1 : 1 ≤ w
  w2 : w ≤ 64
  d1 : 1 ≤ d
  d2 : d < 2 ^ w.toNat
  m0 : 0 ≤ m
  m1 : m < 2 * 2 ^ w.toNat
  s0 : 0 ≤ s
  s1 : s ≤ 2 * w
section
variable {w d m s : Int} {b : Bool}
theorem Rq.W (R : Rq w d b m s) : (2 : Int) ≤ 2 ^ w.toNat ∧ (2 : Int) ^ w.toNat ≤ 18446744073709551616 := ⟨two_le_pow (by have := R.w1; omega), pow_le64 (by have := R.w2; omega)⟩
theorem Rq.P (R : Rq w d b m s) : (1 : Int) ≤ 2 ^ s.toNat ∧ (2 : Int) ^ s.toNat ≤ 340282366920938463463374607431768211456 := ⟨one_le_pow _, pow_le128 (by have := R.w2; have := R.s1; omega)⟩
theorem Rq.rc (R : Rq w d b m s) : PE.Rc (ci b) m (2 ^ s.toNat) d := ⟨(ci_b b).1, (ci_b b).2, R.m0, by have := R.P; omega, by have := R.d1; omega⟩
theorem Rq.e (R : Rq w d b m s) : -340282366920938463463374607431768211456 ≤ m * d - 2 ^ s.toNat ∧ m * d - 2 ^ s.toNat ≤ 680564733841876926926749214863536422912 := by
  have p := R.W
  have q := R.P
  have := bnd R.m0 (by have := R.m1; omega : m ≤ 36893488147419103232) (by have := R.d1; omega : 0 ≤ d) (by have := R.d2; omega : d ≤ 18446744073709551616)
  omega
theorem eq_more_of : φ_more_of [some (.d (rc b m s))] = .ok (.d (.int (ci b))) [some (.d (rc b m s))] := by
  (rw [φ_more_of, run_ap _ _ _ _ _ (by rfl)]; simp -implicitDefEqProofs [m_more_of, finSl, List.range, List.range.loop])
  cases b <;> rfl
/-- the excess -/
def xs (d m s : Int) : Int := m * d - 2 ^ s.toNat
theorem eq_excess_in (R : Rq w d b m s) : φ_excess_in [dI d, some (.d (rc b m s))] = .ok (.d (.int (xs d m s))) [dI d, some (.d (rc b m s))] := by
  have p := R.W
  have := R.m0; have := R.m1; have := R.d1; have := R.d2; have := R.s0; have := R.s1; have := R.w2
  have k1 : mulOk m d = true := mulOk_s (by omega) (by omega) (by omega) (by omega)
  (rw [φ_excess_in, run_ap _ _ _ _ _ (by rfl)]; simp -implicitDefEqProofs [m_excess_in, finSl, List.range, List.range.loop, k1, shlOk_1 (k := s) (by omega) (by omega), xs])
theorem Rq.x (R : Rq w d b m s) : -340282366920938463463374607431768211456 ≤ xs d m s ∧ xs d m s ≤ 680564733841876926926749214863536422912 := R.e
theorem eq_late (R : Rq w d b m s) (he : 0 ≤ xs d m s) (q : Int) (q0 : 0 ≤ q) (q1 : q ≤ 18446744073709551616) :
    φ_late_count [dI d, some (.d (rc b m s)), dI (xs d m s), dI q] = .ok (.d (.int (PE.late (ci b) m (2 ^ s.toNat) d q))) [dI d, some (.d (rc b m s)), dI (xs d m s), dI q] := by
  have p := R.W
  have e := R.x
  have mp := R.rc.mp he
  have := R.m1
  have k1 : mulOk (q + 1) (xs d m s) = true := mulOk_l (by omega) (by omega) (by omega) (by omega)
  have dm : divOk m = true := divOk_s (by omega) (by omega)
  have el : min d ((q + 1) * xs d m s / m + ci b) = PE.late (ci b) m (2 ^ s.toNat) d q := rfl
  (rw [φ_late_count, run_ap _ _ _ _ _ (by rfl)]; simp -implicitDefEqProofs [m_late_count, finSl, List.range, List.range.loop, eq_more_of, k1, dm, el])
theorem eq_early (R : Rq w d b m s) (he : xs d m s < 0) (q : Int) (q0 : 0 ≤ q) (q1 : q ≤ 18446744073709551616) :
    φ_early_count [dI d, some (.d (rc b m s)), dI (xs d m s), dI q] = .ok (.d (.int (PE.early (ci b) m (2 ^ s.toNat) d q))) [dI d, some (.d (rc b m s)), dI (xs d m s), dI q] := by
  have p := R.W
  have e := R.x
  have := R.m0
  have := R.m1
  unfold PE.early
  by_cases h0 : q = 0
  · subst h0
    (rw [φ_early_count, run_ap _ _ _ _ _ (by rfl)]; simp -implicitDefEqProofs [m_early_count, finSl, List.range, List.range.loop])
  · have qp : 0 < q := by omega
    by_cases hm : m = 0
    · subst hm
      (rw [φ_early_count, run_ap _ _ _ _ _ (by rfl)]; simp -implicitDefEqProofs [m_early_count, finSl, List.range, List.range.loop, h0, qp])
    · have k1 : mulOk (-q) (xs d m s) = true := mulOk_l (by omega) (by omega) (by omega) (by omega)
      have u := eq_upper (-q * xs d m s) m (by omega) (by omega)
      have eu : -q * xs d m s = q * (2 ^ s.toNat - m * d) := by rw [Int.neg_mul]; unfold xs; rw [Int.mul_sub, Int.mul_sub]; omega
      have e2 : min d (PE.up (-q * xs d m s) m - ci b) = min d (PE.up (q * (2 ^ s.toNat - m * d)) m - ci b) := by rw [eu]
      generalize hz : -q * xs d m s = z at *
      rw [← e2]
      (rw [φ_early_count, run_ap _ _ _ _ _ (by rfl)]; simp -implicitDefEqProofs [m_early_count, finSl, List.range, List.range.loop, h0, hm, k1, hz, u, eq_more_of])
/-- the words of a quotient at which it errs -/
def pcF (w d : Int) (b : Bool) (m s q : Int) : Int := q * d + PE.lo (ci b) m (2 ^ s.toNat) d q
def pcL (w d : Int) (b : Bool) (m s q : Int) : Int := min (q * d + PE.hi (ci b) m (2 ^ s.toNat) d q - 1) (2 ^ w.toNat - 1)
def pc (w d : Int) (b : Bool) (m s q : Int) : PyData := if pcF w d b m s q ≤ pcL w d b m s q then .tuple [.int (pcF w d b m s q), .int (pcL w d b m s q)] else .none
theorem eq_piece_in (R : Rq w d b m s) (q : Int) (q0 : 0 ≤ q) (q1 : q ≤ 18446744073709551616) :
    φ_piece_in [dI w, dI d, some (.d (rc b m s)), dI q] = .ok (.d (pc w d b m s q)) [dI w, dI d, some (.d (rc b m s)), dI q] := by
  have p := R.W
  have := R.w1; have := R.w2; have := R.d1; have := R.d2
  have k1 : mulOk q d = true := mulOk_s (by omega) (by omega) (by omega) (by omega)
  have tp := eq_top_in w (by omega) (by omega)
  by_cases he : 0 ≤ xs d m s
  · have a1 : q * d + d - PE.late (ci b) m (2 ^ s.toNat) d q = pcF w d b m s q := by unfold pcF PE.lo; rw [if_pos (show 0 ≤ m * d - 2 ^ s.toNat from he)]; omega
    have a2 : min (q * d + d - 1) (2 ^ w.toNat - 1) = pcL w d b m s q := by unfold pcL PE.hi; rw [if_pos (show 0 ≤ m * d - 2 ^ s.toNat from he)]
    have l := eq_late R he q q0 q1
    unfold pc
    generalize pcF w d b m s q = F at *
    generalize pcL w d b m s q = L at *
    by_cases hf : F ≤ L <;> (rw [φ_piece_in, run_ap _ _ _ _ _ (by rfl)]; simp -implicitDefEqProofs [m_piece_in, finSl, List.range, List.range.loop, eq_excess_in R, k1, tp, he, l, a1, a2, hf])
  · have a1 : q * d = pcF w d b m s q := by unfold pcF PE.lo; rw [if_neg (show ¬ 0 ≤ m * d - 2 ^ s.toNat from he)]; omega
    have a2 : min (q * d + PE.early (ci b) m (2 ^ s.toNat) d q - 1) (2 ^ w.toNat - 1) = pcL w d b m s q := by unfold pcL PE.hi; rw [if_neg (show ¬ 0 ≤ m * d - 2 ^ s.toNat from he)]
    have l := eq_early R (by omega) q q0 q1
    unfold pc
    rw [a1] at a2
    generalize pcF w d b m s q = F at *
    generalize pcL w d b m s q = L at *
    by_cases hf : F ≤ L <;> (rw [φ_piece_in, run_ap _ _ _ _ _ (by rfl)]; simp -implicitDefEqProofs [m_piece_in, finSl, List.range, List.range.loop, eq_excess_in R, k1, tp, he, l, a1, a2, hf])
end
/-! ## sums of quotients -/
abbrev fsl (N M A B : Option C) (f n m a b : Int) (o6 o7 o8 o9 o10 : Option C) : Sl := [N, M, A, B, dI f, some (.d (.tuple [.int n, .int m, .int a, .int b])), o6, o7, o8, o9, o10]
abbrev fsT : M Bool := (lift2 oGt (lift2 oIx (mVar 5) (M.pure (.int 0))) (M.pure (.int 0)))
abbrev fsB : M Fl := (sSeq (sAsg (mVar 5) (gT [(gN 6), (gN 7), (gN 8), (gN 9)])) (sSeq (sSet 4 (mDat (lift2 oAdd (lift2 oAdd (mVar 4) (lift2 oMul (lift2 oDiv (lift2 oMul (mVar 6) (lift2 oSub (mVar 6) (M.pure (.int 1)))) (M.pure (.int 2))) (lift2 oDiv (mVar 8) (mVar 7)))) (lift2 oMul (mVar 6) (lift2 oDiv (mVar 9) (mVar 7)))))) (sSeq (sSet2 8 9 (mDat (lift2 oMod (mVar 8) (mVar 7))) (mDat (lift2 oMod (mVar 9) (mVar 7)))) (sSeq (sSet 10 (mDat (lift2 oAdd (lift2 oMul (mVar 8) (mVar 6)) (mVar 9)))) (sSet 5 (mDat (mIf (lift2 oGe (mVar 10) (mVar 7)) (mTup [(lift2 oDiv (mVar 10) (mVar 7)), (mVar 8), (mVar 7), (lift2 oMod (mVar 10) (mVar 7))]) (mTup [(M.pure (.int 0)), (M.pure (.int 0)), (M.pure (.int 0)), (M.pure (.int 0))]))))))))
theorem fs_turn (N M A B : Option C) : ∀ (k : Nat) (f n m a b : Int) (o6 o7 o8 o9 o10 : Option C), 0 ≤ n → n ≤ 1180591620717411303424 → 0 ≤ a → a ≤ 1393796574908163946345982392040522594123776 → 0 ≤ b → b ≤ 1393796574908163946345982392040522594123776 → (n ≠ 0 → 0 < m ∧ m ≤ 1180591620717411303424 ∧ m.toNat + 2 ≤ k) → 1 ≤ k →
    ∃ l p6 p7 p8 p9 p10, sWhileN fsT fsB k (fsl N M A B f n m a b o6 o7 o8 o9 o10) = .ok .nx [N, M, A, B, dI (f + PE.fsum n.toNat m a b), l, p6, p7, p8, p9, p10]
  | 0, _, _, _, _, _, _, _, _, _, _, _, _, _, _, _, _, _, h => absurd h (by decide)
  | k + 1, f, n, m, a, b, o6, o7, o8, o9, o10, n0, n1, a0, a1, b0, b1, hm, _ => by
    by_cases hn : n = 0
    · subst hn
      refine ⟨some (.d (.tuple [.int 0, .int m, .int a, .int b])), o6, o7, o8, o9, o10, ?_⟩
      have z : f + PE.fsum (0 : Int).toNat m a b = f := by
        show f + 0 = f
        omega
      rw [z]
      simp -implicitDefEqProofs [sWhileN]
    · obtain ⟨m0, m1, m2⟩ := hm hn
      have np : 0 < n := by omega
      have red := PE.fsum_red n.toNat (a := a) (b := b) m0
      rw [Int.toNat_of_nonneg n0] at red
      have x1 := bnd n0 n1 (by omega : 0 ≤ n - 1) (by omega : n - 1 ≤ 1180591620717411303424)
      have x2 := div_b x1.1 x1.2 (by decide : (0 : Int) < 2)
      have x3 := div_b a0 a1 m0
      have x4 := div_b b0 b1 m0
      have x5 := mod_b a m0
      have x6 := mod_b b m0
      have x7 := bnd x5.1 (by omega : a % m ≤ 1180591620717411303424) n0 n1
      have k1 : mulOk n (n - 1) = true := mulOk_l (by omega) (by omega) (by omega) (by omega)
      have k2 : mulOk (n * (n - 1) / 2) (a / m) = true := mulOk_l (by omega) (by omega) (by omega) (by omega)
      have k3 : mulOk n (b / m) = true := mulOk_l (by omega) (by omega) (by omega) (by omega)
      have k4 : mulOk (a % m) n = true := mulOk_l (by omega) (by omega) (by omega) (by omega)
      have dm : divOk m = true := divOk_l m0 (by omega)
      have d2 : divOk 2 = true := divOk_s (by decide) (by decide)
      generalize h1 : n * (n - 1) / 2 = q1 at *
      generalize h2 : a / m = q2 at *
      generalize h3 : b / m = q3 at *
      generalize h4 : a % m = q4 at *
      generalize h5 : b % m = q5 at *
      by_cases hl : m ≤ q4 * n + q5
      · have t := PE.fsum_turn x5.1 x5.2 x6.1 x6.2 n.toNat
        rw [Int.toNat_of_nonneg n0] at t
        generalize h6 : q4 * n + q5 = L at *
        have L2 : L < m * (n + 1) := by
          have := Int.mul_le_mul_of_nonneg_right (by omega : q4 ≤ m) n0
          rw [Int.mul_add]
          omega
        have y1 := Int.ediv_lt_of_lt_mul m0 (by rw [Int.mul_comm]; exact L2)
        have y2 := Int.ediv_nonneg (by omega : 0 ≤ L) (Int.le_of_lt m0)
        have y3 := mod_b L m0
        have q4p : 0 < q4 := by
          by_cases h : q4 = 0
          · rw [h, Int.zero_mul] at h6; omega
          · omega
        generalize h7 : L / m = q6 at *
        generalize h8 : L % m = q7 at *
        obtain ⟨l, p6, p7, p8, p9, p10, ih⟩ := fs_turn N M A B k (f + q1 * q2 + n * q3) q6 q4 m q7 (dI n) (dI m) (dI q4) (dI q5) (dI L) y2 (by omega) (by omega) (by omega) y3.1 (by omega) (fun _ => ⟨q4p, by omega, by omega⟩) (by omega)
        refine ⟨l, p6, p7, p8, p9, p10, ?_⟩
        have e : f + PE.fsum n.toNat m a b = f + q1 * q2 + n * q3 + PE.fsum q6.toNat q4 m q7 := by rw [red, t]; omega
        rw [e, ← ih]
        simp -implicitDefEqProofs [sWhileN, np, k1, k2, k3, k4, dm, d2, m0, h1, h2, h3, h4, h5, h6, h7, h8, hl]
      · have t := PE.fsum_none (m := m) (a := q4) (b := q5) (n := n.toNat) x5.1 x6.1 (by rw [Int.toNat_of_nonneg n0]; omega)
        obtain ⟨l, p6, p7, p8, p9, p10, ih⟩ := fs_turn N M A B k (f + q1 * q2 + n * q3) 0 0 0 0 (dI n) (dI m) (dI q4) (dI q5) (dI (q4 * n + q5)) (by decide) (by decide) (by decide) (by decide) (by decide) (by decide) (fun h => absurd rfl h) (by omega)
        refine ⟨l, p6, p7, p8, p9, p10, ?_⟩
        have z : PE.fsum (0 : Int).toNat 0 0 0 = 0 := rfl
        have e : f + PE.fsum n.toNat m a b = f + q1 * q2 + n * q3 + PE.fsum (0 : Int).toNat 0 0 0 := by rw [red, t, z]; omega
        rw [e, ← ih]
        generalize h6 : q4 * n + q5 = L at *
        simp -implicitDefEqProofs [sWhileN, np, k1, k2, k3, k4, dm, d2, m0, h1, h2, h3, h4, h5, h6, hl]
theorem eq_floor_sum (n m a b : Int) (n0 : 0 ≤ n) (n1 : n ≤ 1180591620717411303424) (a0 : 0 ≤ a) (a1 : a ≤ 1393796574908163946345982392040522594123776) (b0 : 0 ≤ b) (b1 : b ≤ 1393796574908163946345982392040522594123776) (m0 : 0 < m) (m1 : m ≤ 1180591620717411303424) :
    φ_floor_sum [dI n, dI m, dI a, dI b] = .ok (.d (.int (PE.fsum n.toNat m a b))) [dI n, dI m, dI a, dI b] := by
  obtain ⟨l, p6, p7, p8, p9, p10, e⟩ := fs_turn (dI n) (dI m) (dI a) (dI b) (m.toNat + 2) 0 n m a b none none none none none n0 n1 a0 a1 b0 b1 (fun _ => ⟨m0, m1, Nat.le_refl _⟩) (by omega)
  have e2 := sWhile_eq e
  rw [Int.zero_add] at e2
  (rw [φ_floor_sum, run_ap _ _ _ _ _ (by rfl)]; simp -implicitDefEqProofs [m_floor_sum, finSl, List.range, List.range.loop, e2])
section
variable {w d m s : Int} {b : Bool}
theorem eq_full_count (R : Rq w d b m s) (q : Int) (q0 : 0 ≤ q) (q1 : q ≤ 18446744073709551616) :
    φ_full_count [dI d, some (.d (rc b m s)), dI (xs d m s), dI q] = .ok (.d (.int (PE.fullC (ci b) m (2 ^ s.toNat) d q))) [dI d, some (.d (rc b m s)), dI (xs d m s), dI q] := by
  have p := R.W
  have P := R.P
  have e := R.x
  have := R.m0; have := R.m1; have := R.d1; have := R.d2; have := ci_b b
  have F := PE.fullN_b R.rc q0
  have k3 : mulOk (PE.fullN (ci b) m (2 ^ s.toNat) d q) (ci b) = true := mulOk_l (by omega) (by omega) (by omega) (by omega)
  have k4 : mulOk (q - PE.fullN (ci b) m (2 ^ s.toNat) d q) d = true := mulOk_l (by omega) (by omega) (by omega) (by omega)
  by_cases he : 0 ≤ xs d m s
  · have mp := R.rc.mp he
    have k1 : mulOk (d - ci b) m = true := mulOk_l (by omega) (by omega) (by omega) (by omega)
    have eC : PE.fullC (ci b) m (2 ^ s.toNat) d q = PE.fsum (PE.fullN (ci b) m (2 ^ s.toNat) d q).toNat m (xs d m s) (xs d m s) + PE.fullN (ci b) m (2 ^ s.toNat) d q * ci b + (q - PE.fullN (ci b) m (2 ^ s.toNat) d q) * d := by
      unfold PE.fullC; rw [if_pos (show 0 ≤ m * d - 2 ^ s.toNat from he)]; rfl
    have eN : PE.fullN (ci b) m (2 ^ s.toNat) d q = if xs d m s = 0 then q else min q (max 0 (PE.up ((d - ci b) * m) (xs d m s) - 1)) := by
      unfold PE.fullN; rw [if_pos (show 0 ≤ m * d - 2 ^ s.toNat from he)]; rfl
    rw [eC]
    generalize PE.fullN (ci b) m (2 ^ s.toNat) d q = N at *
    have fs := eq_floor_sum N m (xs d m s) (xs d m s) F.1 (by omega) he (by omega) he (by omega) mp (by omega)
    by_cases hz : xs d m s = 0
    · rw [if_pos hz] at eN
      generalize xs d m s = E at *
      subst hz
      subst eN
      rw [Int.sub_self] at k4
      (rw [φ_full_count, run_ap _ _ _ _ _ (by rfl)]; simp -implicitDefEqProofs [m_full_count, finSl, List.range, List.range.loop, eq_more_of, k3, k4, fs])
    · rw [if_neg hz] at eN
      have u := eq_upper ((d - ci b) * m) (xs d m s) (by omega) (by omega)
      generalize xs d m s = E at *
      (rw [φ_full_count, run_ap _ _ _ _ _ (by rfl)]; simp -implicitDefEqProofs [m_full_count, finSl, List.range, List.range.loop, eq_more_of, he, hz, k1, u, ← eN, k3, k4, fs])
  · have hm0 : 0 ≤ (d + ci b - 1) := by omega
    by_cases hq : q = 0
    · subst hq
      have eC : PE.fullC (ci b) m (2 ^ s.toNat) d 0 = 0 := by unfold PE.fullC; rw [if_neg (show ¬ 0 ≤ m * d - 2 ^ s.toNat from he), if_pos rfl]
      rw [eC]
      (rw [φ_full_count, run_ap _ _ _ _ _ (by rfl)]; simp -implicitDefEqProofs [m_full_count, finSl, List.range, List.range.loop, eq_more_of, he])
    · by_cases hm : m = 0
      · have k1 : mulOk (q - 1) d = true := mulOk_l (by omega) (by omega) (by omega) (by omega)
        have eC : PE.fullC (ci b) m (2 ^ s.toNat) d q = (q - 1) * d := by unfold PE.fullC; rw [if_neg (show ¬ 0 ≤ m * d - 2 ^ s.toNat from he), if_neg hq, if_pos hm]
        rw [eC]
        subst hm
        generalize xs d 0 s = E at *
        (rw [φ_full_count, run_ap _ _ _ _ _ (by rfl)]; simp -implicitDefEqProofs [m_full_count, finSl, List.range, List.range.loop, eq_more_of, he, hq, k1])
      · have en : -xs d m s = 2 ^ s.toNat - m * d := by unfold xs; omega
        have k1 : mulOk (d + ci b - 1) m = true := mulOk_l (by omega) (by omega) (by omega) (by omega)
        have dd : divOk (-xs d m s) = true := divOk_l (by omega) (by omega)
        have eC : PE.fullC (ci b) m (2 ^ s.toNat) d q = PE.fsum (PE.fullN (ci b) m (2 ^ s.toNat) d q).toNat m (-xs d m s) (m - 1) - (PE.fullN (ci b) m (2 ^ s.toNat) d q - 1) * ci b + (q - PE.fullN (ci b) m (2 ^ s.toNat) d q) * d := by
          unfold PE.fullC; rw [if_neg (show ¬ 0 ≤ m * d - 2 ^ s.toNat from he), if_neg hq, if_neg hm, en]
        have eN : PE.fullN (ci b) m (2 ^ s.toNat) d q = min q ((d + ci b - 1) * m / (-xs d m s) + 1) := by
          unfold PE.fullN; rw [if_neg (show ¬ 0 ≤ m * d - 2 ^ s.toNat from he), en]
        rw [eC]
        generalize PE.fullN (ci b) m (2 ^ s.toNat) d q = N at *
        have k5 : mulOk (N - 1) (ci b) = true := mulOk_l (by omega) (by omega) (by omega) (by omega)
        have fs := eq_floor_sum N m (-xs d m s) (m - 1) F.1 (by omega) (by omega) (by omega) (by omega) (by omega) (by omega) (by omega)
        generalize hE : -xs d m s = E at *
        (rw [φ_full_count, run_ap _ _ _ _ _ (by rfl)]; simp -implicitDefEqProofs [m_full_count, finSl, List.range, List.range.loop, eq_more_of, he, hq, hm, k1, dd, hE, ← eN, k5, k3, k4, fs])
end
end L40

set_option linter.all false
set_option maxRecDepth 100000
set_option exponentiation.threshold 10000
namespace L40
open PySem PySem.Spec L2 DL
theorem tup_row (n : Nat) (a : PyData) (ih : ∀ x, dep x < n → plainD x = true → φ_tupled n [some (.d x)] = .ok (.d (tupD x)) [some (.d x)]) :
    ∀ (xs : List PyData) (acc : List PyData), dep.depL xs < n → plainD.plainL xs = true → acc.length + xs.length ≤ sizeLine →
      mLcL [1] (gN 1) mYes (mFrz (mCall (φ_tupled n) (mSeqA [(agD (mVar 1))]))) xs acc [some (.d a), none] = .ok (acc ++ tupL xs) [some (.d a), none]
  | [], acc, _, _, _ => by simp [mLcL, tupL]
  | x :: r, acc, hd, hp, hl => by
    have hx : dep x < n := Nat.lt_of_le_of_lt (Nat.le_max_left _ _) hd
    have hr : dep.depL r < n := Nat.lt_of_le_of_lt (Nat.le_max_right _ _) hd
    have hp' : (plainD x && plainD.plainL r) = true := hp
    rw [Bool.and_eq_true] at hp'
    have e1 := ih x hx hp'.1
    have e2 := tup_row n a ih r (acc ++ [tupD x]) hr hp'.2 (by simp at hl ⊢; omega)
    have hz : acc.length < sizeLine := by simp at hl; omega
    simp -implicitDefEqProofs [mLcL, e1, hz, wipeS, e2, tupL]
theorem eq_tupled : ∀ (n : Nat) (x : PyData), dep x < n → plainD x = true → φ_tupled n [some (.d x)] = .ok (.d (tupD x)) [some (.d x)]
  | 0, x, h, _ => absurd h (Nat.not_lt_zero _)
  | n + 1, x, h, hp => by
    rw [φ_tupled, run_ap _ _ _ _ _ (by rfl)]
    cases x with
    | dict xs => cases hp
    | none => simp -implicitDefEqProofs [m_tupled, tupD, finSl, List.range, List.range.loop]
    | bool b => simp -implicitDefEqProofs [m_tupled, tupD, finSl, List.range, List.range.loop]
    | int b => simp -implicitDefEqProofs [m_tupled, tupD, finSl, List.range, List.range.loop]
    | str b => simp -implicitDefEqProofs [m_tupled, tupD, finSl, List.range, List.range.loop]
    | list xs =>
      have hp' : (decide (xs.length ≤ sizeLine) && plainD.plainL xs) = true := hp
      rw [Bool.and_eq_true, decide_eq_true_eq] at hp'
      have h' : dep.depL xs + 1 < n + 1 := h
      have e := tup_row n (.list xs) (eq_tupled n) xs [] (by omega) hp'.2 (by simpa using hp'.1)
      simp only [List.nil_append] at e
      simp -implicitDefEqProofs [m_tupled, noOwn, wipeS, e, restS, oTuple, tupD, finSl, List.range, List.range.loop]
    | tuple xs =>
      have hp' : (decide (xs.length ≤ sizeLine) && plainD.plainL xs) = true := hp
      rw [Bool.and_eq_true, decide_eq_true_eq] at hp'
      have h' : dep.depL xs + 1 < n + 1 := h
      have e := tup_row n (.tuple xs) (eq_tupled n) xs [] (by omega) hp'.2 (by simpa using hp'.1)
      simp only [List.nil_append] at e
      simp -implicitDefEqProofs [m_tupled, noOwn, wipeS, e, restS, oTuple, tupD, finSl, List.range, List.range.loop]
/-! ## what is passed in, counts, the first one -/
theorem eq_sure_divisor (w v : Int) (h0 : 1 ≤ w) (h1 : w ≤ 64) (h2 : 1 ≤ v) (h3 : v < 2 ^ w.toNat) : φ_sure_divisor [dI w, dI v] = .ok (.d (.int v)) [dI w, dI v] := by
  (rw [φ_sure_divisor, run_ap _ _ _ _ _ (by rfl)]; simp -implicitDefEqProofs [m_sure_divisor, finSl, List.range, List.range.loop, eq_top_in w (by omega) (by omega), eq_sure_within v 1 (2 ^ w.toNat - 1) h2 (by omega)])
section
variable {w d m s : Int} {b : Bool}
theorem eq_is_long3 (a x y : PyData) : φ_is_long [some (.d (.tuple [a, x, y])), dI 3] = .ok (.d (.bool true)) [some (.d (.tuple [a, x, y])), dI 3] := by
  (rw [φ_is_long, run_ap _ _ _ _ _ (by rfl)]; simp -implicitDefEqProofs [m_is_long, finSl, List.range, List.range.loop])
theorem eq_is_recipe_in (R : Rq w d b m s) : φ_is_recipe_in [dI w, some (.d (rc b m s))] = .ok (.d (.bool true)) [dI w, some (.d (rc b m s))] := by
  have := R.w1; have := R.w2; have := R.m0; have := R.m1; have := R.s0; have := R.s1
  have p := R.W
  have l : φ_is_long [some (.d (rc b m s)), dI 3] = .ok (.d (.bool true)) [some (.d (rc b m s)), dI 3] := eq_is_long3 _ _ _
  have k1 : mulOk 2 (2 ^ w.toNat - 1) = true := mulOk_s (by omega) (by omega) (by omega) (by omega)
  have k2 : mulOk 2 w = true := mulOk_s (by omega) (by omega) (by omega) (by omega)
  have i1 := eq_is_within m 0 (2 * (2 ^ w.toNat - 1) + 1)
  have i2 := eq_is_within s 0 (2 * w)
  have t1 : (decide (0 ≤ m) && decide (m ≤ 2 * (2 ^ w.toNat - 1) + 1)) = true := by rw [Bool.and_eq_true, decide_eq_true_eq, decide_eq_true_eq]; omega
  have t2 : (decide (0 ≤ s) && decide (s ≤ 2 * w)) = true := by rw [Bool.and_eq_true, decide_eq_true_eq, decide_eq_true_eq]; omega
  rw [t1] at i1
  rw [t2] at i2
  (rw [φ_is_recipe_in, run_ap _ _ _ _ _ (by rfl)]; simp -implicitDefEqProofs [m_is_recipe_in, finSl, List.range, List.range.loop, l, eq_top_in w (by omega) (by omega), k1, k2, i1, i2])
theorem eq_tupled_rc (b : Bool) (m s : Int) : φ_tupled 6 [some (.d (rc b m s))] = .ok (.d (rc b m s)) [some (.d (rc b m s))] := eq_tupled 6 (rc b m s) (show (1 : Nat) < 6 by decide) (show (decide (3 ≤ sizeLine) && true) = true by decide +kernel)
theorem eq_sure_recipe (R : Rq w d b m s) : φ_sure_recipe [dI w, some (.d (rc b m s))] = .ok (.d (rc b m s)) [dI w, some (.d (rc b m s))] := by
  (rw [φ_sure_recipe, run_ap _ _ _ _ _ (by rfl)]; simp -implicitDefEqProofs [m_sure_recipe, finSl, List.range, List.range.loop, eq_tupled_rc, eq_is_recipe_in R])
theorem eq_sure_three (R : Rq w d b m s) : φ_sure_three [dI w, dI d, some (.d (rc b m s))] = .ok (.d (.tuple [.int w, .int d, rc b m s])) [dI w, dI d, some (.d (rc b m s))] := by
  (rw [φ_sure_three, run_ap _ _ _ _ _ (by rfl)]; simp -implicitDefEqProofs [m_sure_three, finSl, List.range, List.range.loop, eq_sure_width w R.w1 R.w2, eq_sure_divisor w d R.w1 R.w2 R.d1 R.d2, eq_sure_recipe R])
abbrev tlR (b : Bool) (m s n : Int) : Int := PE.tl (ci b) m (2 ^ s.toNat) n
@[simp] theorem pc_0 (q : Int) (h : pcF w d b m s q ≤ pcL w d b m s q) : oIx (pc w d b m s q) (.int 0) = some (.int (pcF w d b m s q)) := by unfold pc; rw [if_pos h]; rfl
@[simp] theorem pc_1 (q : Int) (h : pcF w d b m s q ≤ pcL w d b m s q) : oIx (pc w d b m s q) (.int 1) = some (.int (pcL w d b m s q)) := by unfold pc; rw [if_pos h]; rfl
@[simp] theorem pc_n (q : Int) : isNone (pc w d b m s q) = !decide (pcF w d b m s q ≤ pcL w d b m s q) := by
  unfold pc
  by_cases h : pcF w d b m s q ≤ pcL w d b m s q <;> simp [h]
theorem eq_first_place (R : Rq w d b m s) : φ_first_place [dI w, dI d, some (.d (rc b m s))] = .ok (.d (.int (PE.firstQ (ci b) m (2 ^ s.toNat) d (2 ^ w.toNat - 1)))) [dI w, dI d, some (.d (rc b m s))] := by
  have p := R.W
  have x := R.x
  have := R.d1; have := R.d2; have := R.w1; have := R.w2; have := R.m0; have := R.m1
  have tp := eq_top_in w (by omega) (by omega)
  unfold PE.firstQ
  have ex : m * d - 2 ^ s.toNat = xs d m s := rfl
  have en : 2 ^ s.toNat - m * d = -xs d m s := by unfold xs; omega
  rw [ex, en]
  have ee := eq_excess_in R
  by_cases he : 0 ≤ xs d m s
  · by_cases hp : 0 < xs d m s
    · have u := eq_upper m (xs d m s) hp (by omega)
      generalize xs d m s = E at *
      cases b <;> (rw [φ_first_place, run_ap _ _ _ _ _ (by rfl)]; simp -implicitDefEqProofs [m_first_place, finSl, List.range, List.range.loop, ee, tp, he, hp, u, ci])
    · generalize xs d m s = E at *
      cases b <;> (rw [φ_first_place, run_ap _ _ _ _ _ (by rfl)]; simp -implicitDefEqProofs [m_first_place, finSl, List.range, List.range.loop, ee, tp, he, hp, ci])
  · have dn : divOk (-xs d m s) = true := divOk_l (by omega) (by omega)
    generalize xs d m s = E at *
    cases b <;> (rw [φ_first_place, run_ap _ _ _ _ _ (by rfl)]; simp -implicitDefEqProofs [m_first_place, finSl, List.range, List.range.loop, ee, tp, he, dn, ci])
def NoErr (d : Int) (b : Bool) (m s N : Int) : Prop := ∀ n, 0 ≤ n → n < N → tlR b m s n = n / d
theorem err_in (R : Rq w d b m s) {n : Int} (n0 : 0 ≤ n) : tlR b m s n = n / d ↔ ¬ (PE.lo (ci b) m (2 ^ s.toNat) d (n / d) ≤ n % d ∧ n % d < PE.hi (ci b) m (2 ^ s.toNat) d (n / d)) := by
  have := R.d1
  have e1 := Int.emod_add_mul_ediv n d
  have e2 := mod_b n (by omega : 0 < d)
  have := PE.ok_iff R.rc (q := n / d) (r := n % d) (Int.ediv_nonneg n0 (by omega)) e2.1 e2.2
  have e3 : n / d * d + n % d = n := by rw [Int.mul_comm]; omega
  rwa [e3] at this
/-- the first word at which it errs -/
theorem first_ex (R : Rq w d b m s) : ∃ x, φ_first_in [dI w, dI d, some (.d (rc b m s))] = .ok (.d x) [dI w, dI d, some (.d (rc b m s))] ∧
    (x = .none ∧ NoErr d b m s (2 ^ w.toNat) ∨ ∃ n : Int, x = .int n ∧ 0 ≤ n ∧ n < 2 ^ w.toNat ∧ tlR b m s n ≠ n / d ∧ NoErr d b m s n) := by
  have p := R.W
  have := R.d1; have := R.d2; have := R.w1; have := R.w2
  have dd : divOk d = true := divOk_s (by omega) (by omega)
  have tp := eq_top_in w (by omega) (by omega)
  have T0 : 0 ≤ (2 : Int) ^ w.toNat - 1 := by omega
  have fp := eq_first_place R
  have q0 := PE.firstQ_nonneg R.rc T0
  have none := fun q => PE.first_none R.rc (ci_or b) (q := q) T0
  have some' := PE.first_some R.rc (ci_or b) T0
  have td := div_b T0 (Int.le_refl _) (by omega : 0 < d)
  have quo : ∀ n : Int, 0 ≤ n → n < 2 ^ w.toNat → n / d ≤ (2 ^ w.toNat - 1) / d := fun n _ h => Int.ediv_le_ediv (by omega) (by omega)
  have clean : ∀ n : Int, 0 ≤ n → n < 2 ^ w.toNat → n / d < PE.firstQ (ci b) m (2 ^ s.toNat) d (2 ^ w.toNat - 1) → tlR b m s n = n / d := fun n n0 n1 hn => by
    rw [err_in R n0]
    have a1 := quo n n0 n1
    have a2 := Int.ediv_nonneg n0 (by omega : 0 ≤ d)
    have := none (n / d) a2 hn (by omega)
    omega
  generalize PE.firstQ (ci b) m (2 ^ s.toNat) d (2 ^ w.toNat - 1) = f at *
  generalize hq : (2 ^ w.toNat - 1) / d = q at *
  by_cases hf : q < f
  · exact ⟨.none, by (rw [φ_first_in, run_ap _ _ _ _ _ (by rfl)]; simp -implicitDefEqProofs [m_first_in, finSl, List.range, List.range.loop, fp, tp, dd, hq, hf]), .inl ⟨rfl, fun n n0 n1 => clean n n0 n1 (by have := quo n n0 n1; omega)⟩⟩
  · have pi := eq_piece_in R f q0 (by omega)
    have L := some' (by omega)
    have hF : pcF w d b m s f = f * d + PE.lo (ci b) m (2 ^ s.toNat) d f := rfl
    have hL : pcL w d b m s f = min (f * d + PE.hi (ci b) m (2 ^ s.toNat) d f - 1) (2 ^ w.toNat - 1) := rfl
    have lh := PE.lohi R.rc q0
    have fd : 0 ≤ f * d := Int.mul_nonneg q0 (by omega)
    have upto : ∀ n : Int, 0 ≤ n → n < 2 ^ w.toNat → n < pcF w d b m s f → tlR b m s n = n / d := fun n n0 n1 n2 => by
      rcases Int.lt_or_le (n / d) f with h | h
      · exact clean n n0 n1 h
      · have e1 := Int.emod_add_mul_ediv n d
        have e2 := mod_b n (by omega : 0 < d)
        have h2 : n / d = f := by
          by_cases h3 : n / d = f
          · exact h3
          · exfalso
            have := Int.mul_le_mul_of_nonneg_left (by omega : f + 1 ≤ n / d) (by omega : 0 ≤ d)
            rw [Int.mul_add, Int.mul_comm d f] at this
            omega
        rw [err_in R n0, h2]
        rw [h2, Int.mul_comm d f] at e1
        omega
    by_cases h : pcF w d b m s f ≤ pcL w d b m s f
    · refine ⟨.int (pcF w d b m s f), by (rw [φ_first_in, run_ap _ _ _ _ _ (by rfl)]; simp -implicitDefEqProofs [m_first_in, finSl, List.range, List.range.loop, fp, tp, dd, hq, hf, pi, h]), .inr ⟨_, rfl, by omega, by omega, ?_, fun n n0 n1 => upto n n0 (by omega) n1⟩⟩
      have e : (f * d + PE.lo (ci b) m (2 ^ s.toNat) d f) / d = f := PE.quot (by omega) lh.1 (by omega)
      have := PE.ok_iff R.rc q0 lh.1 (by omega : PE.lo (ci b) m (2 ^ s.toNat) d f < d)
      rw [hF, e]
      exact fun z => this.mp z ⟨Int.le_refl _, L⟩
    · refine ⟨.none, by (rw [φ_first_in, run_ap _ _ _ _ _ (by rfl)]; simp -implicitDefEqProofs [m_first_in, finSl, List.range, List.range.loop, fp, tp, dd, hq, hf, pi, h]), .inl ⟨rfl, fun n n0 n1 => upto n n0 n1 (by omega)⟩⟩
end
/-! ## all multipliers of a shift; the recipe whose multiplier is a word -/
def tmLo (w d : Int) (b : Bool) (s : Int) : Int := max 0 (if b then PE.up (2 ^ s.toNat - 2 ^ s.toNat / ((2 ^ w.toNat - 1) / d * d + 1)) d else PE.up (2 ^ s.toNat) d)
def tmHi (w d : Int) (b : Bool) (s : Int) : Int := min (if b then PE.up (2 ^ s.toNat) d - 1 else (2 ^ s.toNat + (2 ^ s.toNat - 1) / (2 ^ w.toNat / d * d - 1)) / d) (2 * (2 ^ w.toNat - 1) + 1)
def tm (w d : Int) (b : Bool) (s : Int) : PyData := if tmLo w d b s ≤ tmHi w d b s then .tuple [.int (tmLo w d b s), .int (tmHi w d b s)] else .none
section
variable {w d s : Int} {b : Bool}
theorem tm_n : isNone (tm w d b s) = !decide (tmLo w d b s ≤ tmHi w d b s) := by
  unfold tm
  by_cases h : tmLo w d b s ≤ tmHi w d b s <;> simp [h]
theorem tm_0 (h : tmLo w d b s ≤ tmHi w d b s) : oIx (tm w d b s) (.int 0) = some (.int (tmLo w d b s)) := by unfold tm; rw [if_pos h]; rfl
theorem tm_1 (h : tmLo w d b s ≤ tmHi w d b s) : oIx (tm w d b s) (.int 1) = some (.int (tmHi w d b s)) := by unfold tm; rw [if_pos h]; rfl
theorem eq_times_in (w1 : 1 ≤ w) (w2 : w ≤ 64) (d1 : 1 ≤ d) (d2 : d < 2 ^ w.toNat) (b : Bool) (s0 : 0 ≤ s) (s1 : s ≤ 128) : φ_times_in [dI w, dI d, some (.d (.str (kd b))), dI s] = .ok (.d (tm w d b s)) [dI w, dI d, some (.d (.str (kd b))), dI s] := by
  have p1 : (2 : Int) ≤ 2 ^ w.toNat := two_le_pow (by omega)
  have p2 : (2 : Int) ^ w.toNat ≤ 18446744073709551616 := pow_le64 (by omega)
  have q1 := one_le_pow s.toNat
  have q2 := pow_le128 (n := s.toNat) (by omega)
  have dd : divOk d = true := divOk_s (by omega) (by omega)
  have k2 : mulOk 2 (2 ^ w.toNat - 1) = true := mulOk_s (by omega) (by omega) (by omega) (by omega)
  have tp := eq_top_in w (by omega) (by omega)
  have sw := shlOk_1 (k := w) (by omega) (by omega)
  have ss := shlOk_1 (k := s) (by omega) (by omega)
  have E0 := div_b (by omega : 0 ≤ (2 : Int) ^ w.toNat) (Int.le_refl _) (by omega : 0 < d)
  have E1 := div_b (by omega : 0 ≤ (2 : Int) ^ w.toNat - 1) (Int.le_refl _) (by omega : 0 < d)
  have k3 : mulOk (2 ^ w.toNat / d) d = true := mulOk_s (by omega) (by omega) (by omega) (by omega)
  have k4 : mulOk ((2 ^ w.toNat - 1) / d) d = true := mulOk_s (by omega) (by omega) (by omega) (by omega)
  have hE := PE.dm (by omega : 0 < d) (2 ^ w.toNat)
  have hM := PE.dm (by omega : 0 < d) (2 ^ w.toNat - 1)
  have u1 := eq_upper (2 ^ s.toNat) d (by omega) (by omega)
  unfold tm
  cases b with
  | false =>
    have eL : tmLo w d false s = max 0 (PE.up (2 ^ s.toNat) d) := rfl
    have eH : tmHi w d false s = min ((2 ^ s.toNat + (2 ^ s.toNat - 1) / (2 ^ w.toNat / d * d - 1)) / d) (2 * (2 ^ w.toNat - 1) + 1) := rfl
    have Lp : 0 < 2 ^ w.toNat / d * d - 1 := by
      have k1 : 1 ≤ (2 : Int) ^ w.toNat / d := by
        have h2 := Int.le_ediv_iff_mul_le (a := 1) (b := 2 ^ w.toNat) (by omega : 0 < d)
        omega
      have h3 : 1 * d ≤ 2 ^ w.toNat / d * d := Int.mul_le_mul_of_nonneg_right k1 (by omega)
      rcases Int.lt_or_le 1 d with c | c
      · omega
      · have : d = 1 := by omega
        subst this
        rw [Int.ediv_one] at *
        omega
    have dL : divOk (2 ^ w.toNat / d * d - 1) = true := divOk_s Lp (by omega)
    generalize hlo : tmLo w d false s = lo at *
    generalize hhi : tmHi w d false s = hi at *
    generalize hL : (2 : Int) ^ w.toNat / d * d - 1 = L at *
    generalize hX : ((2 : Int) ^ s.toNat + (2 ^ s.toNat - 1) / L) / d = X at *
    have eLs := eL.symm
    have eHs := eH.symm
    generalize PE.up (2 ^ s.toNat) d = U at *
    generalize hT : 2 * ((2 : Int) ^ w.toNat - 1) + 1 = T at *
    by_cases h : lo ≤ hi <;> (rw [φ_times_in, run_ap _ _ _ _ _ (by rfl)]; simp -implicitDefEqProofs [m_times_in, finSl, List.range, List.range.loop, sw, ss, tp, k2, dd, k3, hL, dL, u1, hX, hT, eLs, eHs, h])
  | true =>
    have eL : tmLo w d true s = max 0 (PE.up (2 ^ s.toNat - 2 ^ s.toNat / ((2 ^ w.toNat - 1) / d * d + 1)) d) := rfl
    have eH : tmHi w d true s = min (PE.up (2 ^ s.toNat) d - 1) (2 * (2 ^ w.toNat - 1) + 1) := rfl
    have kd0 : 0 ≤ ((2 : Int) ^ w.toNat - 1) / d * d := Int.mul_nonneg E1.1 (by omega)
    have dL : divOk ((2 ^ w.toNat - 1) / d * d + 1) = true := divOk_s (by omega) (by omega)
    have u2 := eq_upper (2 ^ s.toNat - 2 ^ s.toNat / ((2 ^ w.toNat - 1) / d * d + 1)) d (by omega) (by omega)
    generalize hlo : tmLo w d true s = lo at *
    generalize hhi : tmHi w d true s = hi at *
    generalize hL : ((2 : Int) ^ w.toNat - 1) / d * d + 1 = L at *
    generalize hX : (2 : Int) ^ s.toNat - 2 ^ s.toNat / L = X at *
    have eLs := eL.symm
    have eHs := eH.symm
    generalize PE.up (2 ^ s.toNat) d = U at *
    generalize PE.up X d = V at *
    generalize hT : 2 * ((2 : Int) ^ w.toNat - 1) + 1 = T at *
    by_cases h : lo ≤ hi <;> (rw [φ_times_in, run_ap _ _ _ _ _ (by rfl)]; simp -implicitDefEqProofs [m_times_in, finSl, List.range, List.range.loop, sw, ss, tp, k2, dd, k4, hL, dL, u1, u2, hX, hT, eLs, eHs, h])
/-- a multiplier of the run is right, and no other -/
theorem tm_right (w1 : 1 ≤ w) (d1 : 1 ≤ d) (d2 : d < 2 ^ w.toNat) (b : Bool) (s : Int) {m : Int} (m0 : 0 ≤ m) (m1 : m ≤ 2 * (2 ^ w.toNat - 1) + 1) :
    PE.okB (ci b) m (2 ^ s.toNat) d (2 ^ w.toNat - 1) ↔ tmLo w d b s ≤ m ∧ m ≤ tmHi w d b s := by
  have R : PE.Rc (ci b) m (2 ^ s.toNat) d := ⟨(ci_b b).1, (ci_b b).2, m0, by have := one_le_pow s.toNat; omega, by omega⟩
  unfold tmLo tmHi
  cases b with
  | false =>
    have := PE.up_range (m := m) (P := 2 ^ s.toNat) (d := d) R d2
    show PE.okB 0 m _ _ _ ↔ _
    rw [this]
    simp only [Bool.false_eq_true, if_false]
    omega
  | true =>
    have := PE.more_range (m := m) (P := 2 ^ s.toNat) (d := d) R d2
    show PE.okB 1 m _ _ _ ↔ _
    rw [this]
    simp only [if_true]
    omega
end
end L40

set_option linter.all false
set_option maxRecDepth 100000
set_option exponentiation.threshold 10000
namespace L40
open PySem PySem.Spec L2 DL
/-! ## up to a bound -/
def rgLo (d : Int) (k : Bool) (s t : Int) : Int := if k then PE.up (2 ^ s.toNat * (PE.lastM d t / d)) (PE.lastM d t + 1) else if d ≤ t then PE.up (2 ^ s.toNat) d else 0
def rgHi (w d : Int) (k : Bool) (s t : Int) : Int := min (if k then (2 ^ s.toNat - 1) / min d (t + 1) else if 0 < PE.lastU d t then (2 ^ s.toNat * (PE.lastU d t / d + 1) - 1) / PE.lastU d t else 2 * (2 ^ w.toNat - 1) + 1) (2 * (2 ^ w.toNat - 1) + 1)
def rg (w d : Int) (k : Bool) (s t : Int) : PyData := if rgLo d k s t ≤ rgHi w d k s t then .tuple [.int (rgLo d k s t), .int (rgHi w d k s t)] else .none
/-- a width, a divisor, a bound -/
structure Bd (w d t : Int) : Prop where
  w1 : 1 ≤ w
  w2 : w ≤ 64
  d1 : 1 ≤ d
  d2 : d < 2 ^ w.toNat
  t0 : 0 ≤ t
  t1 : t < 2 ^ w.toNat
section
variable {w d s t : Int} {k : Bool}
theorem Bd.p (B : Bd w d t) : (2 : Int) ≤ 2 ^ w.toNat ∧ (2 : Int) ^ w.toNat ≤ 18446744073709551616 := ⟨two_le_pow (by have := B.w1; omega), pow_le64 (by have := B.w2; omega)⟩
theorem rg_n : isNone (rg w d k s t) = !decide (rgLo d k s t ≤ rgHi w d k s t) := by
  unfold rg
  by_cases h : rgLo d k s t ≤ rgHi w d k s t <;> simp [h]
theorem rg_0 (h : rgLo d k s t ≤ rgHi w d k s t) : oIx (rg w d k s t) (.int 0) = some (.int (rgLo d k s t)) := by unfold rg; rw [if_pos h]; rfl
theorem rg_1 (h : rgLo d k s t ≤ rgHi w d k s t) : oIx (rg w d k s t) (.int 1) = some (.int (rgHi w d k s t)) := by unfold rg; rw [if_pos h]; rfl
theorem rg_b (B : Bd w d t) (k : Bool) (s : Int) : 0 ≤ rgLo d k s t ∧ rgHi w d k s t ≤ 2 * (2 ^ w.toNat - 1) + 1 := by
  have p := one_le_pow s.toNat
  have d0 : 0 < d := by have := B.d1; omega
  have L := PE.lastM_b d0 B.t0
  refine ⟨?_, by unfold rgHi; omega⟩
  unfold rgLo
  cases k with
  | true =>
    rw [if_pos rfl]
    exact PE.up_nonneg (Int.mul_nonneg (by omega) (Int.ediv_nonneg L.1 (by omega))) (by omega)
  | false =>
    rw [if_neg Bool.false_ne_true]
    split
    · exact PE.up_nonneg (by omega) d0
    · omega
/-- right up to the bound exactly if of the run -/
theorem rg_right (B : Bd w d t) (k : Bool) (s : Int) {m : Int} (m0 : 0 ≤ m) (m1 : m ≤ 2 * (2 ^ w.toNat - 1) + 1) :
    PE.okB (ci k) m (2 ^ s.toNat) d t ↔ rgLo d k s t ≤ m ∧ m ≤ rgHi w d k s t := by
  have d0 : 0 < d := by have := B.d1; omega
  have p := one_le_pow s.toNat
  have R : PE.Rc (ci k) m (2 ^ s.toNat) d := ⟨(ci_b k).1, (ci_b k).2, m0, by omega, d0⟩
  unfold rgLo rgHi
  cases k with
  | false =>
    have a1 := PE.up_iff (m := m) (P := 2 ^ s.toNat) (d := d) R B.t0
    have a2 := PE.upC_range (m := m) (P := 2 ^ s.toNat) d0 B.t0 (by omega) m0
    show PE.okB 0 m _ _ _ ↔ _
    rw [a1, a2]
    simp only [Bool.false_eq_true, if_false]
    by_cases hl : 0 < PE.lastU d t
    · simp only [hl, if_true, true_imp_iff]
      omega
    · simp only [hl, if_false, false_imp_iff, and_true]
      omega
  | true =>
    have a1 := PE.more_iff (m := m) (P := 2 ^ s.toNat) (d := d) R B.t0
    have a2 := PE.moreC_range (m := m) (P := 2 ^ s.toNat) d0 B.t0 (by omega) m0
    show PE.okB 1 m _ _ _ ↔ _
    rw [a1, a2]
    simp only [if_true]
    omega
theorem rg_some (B : Bd w d t) (k : Bool) (s : Int) : rgLo d k s t ≤ rgHi w d k s t ↔ ∃ m, 0 ≤ m ∧ m ≤ 2 * (2 ^ w.toNat - 1) + 1 ∧ PE.okB (ci k) m (2 ^ s.toNat) d t := by
  have b := rg_b B k s
  constructor
  · intro h
    exact ⟨rgLo d k s t, b.1, by omega, (rg_right B k s b.1 (by omega)).mpr ⟨Int.le_refl _, h⟩⟩
  · rintro ⟨m, m0, m1, h⟩
    have := (rg_right B k s m0 m1).mp h
    omega
theorem eq_times_to_in (B : Bd w d t) (k : Bool) (s0 : 0 ≤ s) (s1 : s ≤ 128) : φ_times_to_in [dI w, dI d, some (.d (.str (kd k))), dI s, dI t] = .ok (.d (rg w d k s t)) [dI w, dI d, some (.d (.str (kd k))), dI s, dI t] := by
  have p := B.p
  have q1 := one_le_pow s.toNat
  have q2 := pow_le128 (n := s.toNat) (by omega)
  have := B.w1; have := B.w2; have := B.d1; have := B.d2; have := B.t0; have := B.t1
  have d0 : 0 < d := by omega
  have dd : divOk d = true := divOk_s (by omega) (by omega)
  have k2 : mulOk 2 (2 ^ w.toNat - 1) = true := mulOk_s (by omega) (by omega) (by omega) (by omega)
  have tp := eq_top_in w (by omega) (by omega)
  have ss := shlOk_1 (k := s) (by omega) (by omega)
  unfold rg
  cases k with
  | false =>
    have u1 := eq_upper (2 ^ s.toNat) d (by omega) (by omega)
    have LU := PE.lastU_b d0 B.t0
    have LD := div_b LU.1 (by omega : PE.lastU d t ≤ 18446744073709551616) d0
    have hE := PE.dm d0 (t + 1)
    have E1 := div_b (by omega : 0 ≤ t + 1) (by omega : t + 1 ≤ 18446744073709551616) d0
    have k3 : mulOk ((t + 1) / d) d = true := mulOk_s (by omega) (by omega) (by omega) (by omega)
    have k4 : mulOk (2 ^ s.toNat) (PE.lastU d t / d + 1) = true := mulOk_l (by omega) (by omega) (by omega) (by omega)
    have eL : rgLo d false s t = if d ≤ t then PE.up (2 ^ s.toNat) d else 0 := rfl
    have eH : rgHi w d false s t = min (if 0 < PE.lastU d t then (2 ^ s.toNat * (PE.lastU d t / d + 1) - 1) / PE.lastU d t else 2 * (2 ^ w.toNat - 1) + 1) (2 * (2 ^ w.toNat - 1) + 1) := rfl
    have eU1 : d - 1 ≤ t → (t + 1) / d * d - 1 = PE.lastU d t := fun h => by unfold PE.lastU; rw [if_pos h]
    have eU2 : ¬ d - 1 ≤ t → t = PE.lastU d t := fun h => by unfold PE.lastU; rw [if_neg h]
    have nb : ¬ d - 1 ≤ t → ¬ d ≤ t := by omega
    have dn : d - 1 ≤ t ↔ d ≤ t + 1 := by omega
    generalize rgLo d false s t = lo at *
    generalize rgHi w d false s t = hi at *
    generalize PE.lastU d t = L at *
    generalize hP : (2 : Int) ^ s.toNat = P at *
    generalize PE.up P d = U at *
    generalize hT : 2 * ((2 : Int) ^ w.toNat - 1) + 1 = T at *
    generalize hX : (P * (L / d + 1) - 1) / L = X at *
    by_cases h1 : d - 1 ≤ t
    · have e1 := eU1 h1
      by_cases hl : 0 < L
      · have dL : divOk L = true := divOk_s hl (by omega)
        rw [if_pos hl] at eH
        have eHs := eH.symm
        by_cases h2 : d ≤ t
        · rw [if_pos h2] at eL
          subst eL
          by_cases h : lo ≤ hi <;> (rw [φ_times_to_in, run_ap _ _ _ _ _ (by rfl)]; simp -implicitDefEqProofs [m_times_to_in, finSl, List.range, List.range.loop, ss, hP, tp, k2, hT, h2, u1, h1, dn.mp h1, dd, k3, e1, hl, k4, dL, hX, eHs, h])
        · rw [if_neg h2] at eL
          subst eL
          by_cases h : 0 ≤ hi <;> (rw [φ_times_to_in, run_ap _ _ _ _ _ (by rfl)]; simp -implicitDefEqProofs [m_times_to_in, finSl, List.range, List.range.loop, ss, hP, tp, k2, hT, h2, h1, dn.mp h1, dd, k3, e1, hl, k4, dL, hX, eHs, h])
      · rw [if_neg hl, Int.min_self] at eH
        subst eH
        by_cases h2 : d ≤ t
        · rw [if_pos h2] at eL
          subst eL
          by_cases h : lo ≤ hi <;> (rw [φ_times_to_in, run_ap _ _ _ _ _ (by rfl)]; simp -implicitDefEqProofs [m_times_to_in, finSl, List.range, List.range.loop, ss, hP, tp, k2, hT, h2, u1, h1, dn.mp h1, dd, k3, e1, hl, h])
        · rw [if_neg h2] at eL
          subst eL
          by_cases h : 0 ≤ hi <;> (rw [φ_times_to_in, run_ap _ _ _ _ _ (by rfl)]; simp -implicitDefEqProofs [m_times_to_in, finSl, List.range, List.range.loop, ss, hP, tp, k2, hT, h2, h1, dn.mp h1, dd, k3, e1, hl, h])
    · have e1 := eU2 h1
      have h2 := nb h1
      have h1' : ¬ d ≤ t + 1 := fun z => h1 (dn.mpr z)
      rw [if_neg h2] at eL
      subst eL
      subst e1
      by_cases hl : 0 < t
      · have dL : divOk t = true := divOk_s hl (by omega)
        rw [if_pos hl] at eH
        have eHs := eH.symm
        by_cases h : 0 ≤ hi <;> (rw [φ_times_to_in, run_ap _ _ _ _ _ (by rfl)]; simp -implicitDefEqProofs [m_times_to_in, finSl, List.range, List.range.loop, ss, hP, tp, k2, hT, h2, h1, h1', dd, hl, k4, dL, hX, eHs, h])
      · rw [if_neg hl, Int.min_self] at eH
        subst eH
        by_cases h : 0 ≤ hi <;> (rw [φ_times_to_in, run_ap _ _ _ _ _ (by rfl)]; simp -implicitDefEqProofs [m_times_to_in, finSl, List.range, List.range.loop, ss, hP, tp, k2, hT, h2, h1, h1', hl, h])
  | true =>
    have LM := PE.lastM_b d0 B.t0
    have LD := div_b LM.1 (by omega : PE.lastM d t ≤ 18446744073709551616) d0
    have E1 := div_b B.t0 (by omega : t ≤ 18446744073709551616) d0
    have k3 : mulOk (t / d) d = true := mulOk_s (by omega) (by omega) (by omega) (by omega)
    have k4 : mulOk (2 ^ s.toNat) (PE.lastM d t / d) = true := mulOk_l (by omega) (by omega) (by omega) (by omega)
    have u1 := eq_upper (2 ^ s.toNat * (PE.lastM d t / d)) (PE.lastM d t + 1) (by omega) (by omega)
    have eL : rgLo d true s t = PE.up (2 ^ s.toNat * (PE.lastM d t / d)) (PE.lastM d t + 1) := rfl
    have eH : rgHi w d true s t = min ((2 ^ s.toNat - 1) / min d (t + 1)) (2 * (2 ^ w.toNat - 1) + 1) := rfl
    have eM : t / d * d = PE.lastM d t := rfl
    have dm : divOk (min d (t + 1)) = true := divOk_s (by omega) (by omega)
    have z0 : PE.lastM d t = 0 → PE.up (2 ^ s.toNat * (PE.lastM d t / d)) (PE.lastM d t + 1) = 0 := fun h => by
      rw [h, Int.zero_ediv, Int.mul_zero]; rfl
    generalize rgLo d true s t = lo at *
    generalize rgHi w d true s t = hi at *
    generalize PE.lastM d t = L at *
    generalize hP : (2 : Int) ^ s.toNat = P at *
    generalize hT : 2 * ((2 : Int) ^ w.toNat - 1) + 1 = T at *
    generalize hD : min d (t + 1) = D at *
    generalize hX : (P - 1) / D = X at *
    have eHs := eH.symm
    by_cases hl : 0 < L
    · generalize PE.up (P * (L / d)) (L + 1) = U at *
      subst eL
      by_cases h : lo ≤ hi <;> (rw [φ_times_to_in, run_ap _ _ _ _ _ (by rfl)]; simp -implicitDefEqProofs [m_times_to_in, finSl, List.range, List.range.loop, ss, hP, tp, k2, hT, dd, k3, eM, hl, k4, u1, hD, dm, hX, eHs, h])
    · rw [z0 (by omega)] at eL
      subst eL
      by_cases h : 0 ≤ hi <;> (rw [φ_times_to_in, run_ap _ _ _ _ _ (by rfl)]; simp -implicitDefEqProofs [m_times_to_in, finSl, List.range, List.range.loop, ss, hP, tp, k2, hT, dd, k3, eM, hl, hD, dm, hX, eHs, h])
end
end L40

set_option linter.all false
set_option maxRecDepth 100000
set_option exponentiation.threshold 10000
namespace L40
open PySem PySem.Spec L2 DL
/-! ## the words looked at -/
def lkL (d t : Int) (k : Bool) : List Int := if t < d - 1 then [t] else sortU (if k then [d - 1, PE.lastM d t] else if d ≤ t then [PE.lastU d t, d] else [PE.lastU d t])
theorem so_1 (a : Int) : oSortSet (.list [.int a]) = some (.l ((sortU [a]).map .int)) := oSortSet_i [a] (show (1 : Nat) < 64 by decide)
theorem so_2 (a b : Int) : oSortSet (.list [.int a, .int b]) = some (.l ((sortU [a, b]).map .int)) := oSortSet_i [a, b] (show (2 : Nat) < 64 by decide)
theorem oT_l (xs : List PyData) : oTuple (.list xs) = some (.tuple xs) := rfl
theorem oC_11 (a b : PyData) : oCat (.l [a]) (.l [b]) = some (.l [a, b]) := oCat_l (xs := [a]) (ys := [b]) (show (1 : Nat) + 1 ≤ sizeLine by decide +kernel)
theorem oC_10 (a : PyData) : oCat (.l [a]) (.l []) = some (.l [a]) := oCat_l (xs := [a]) (ys := []) (show (1 : Nat) + 0 ≤ sizeLine by decide +kernel)
section
variable {w d t m s : Int} {k : Bool}
theorem lk_m {n : Int} : n ∈ lkL d t k ↔ (t < d - 1 ∧ n = t) ∨ (d - 1 ≤ t ∧ ((k = true ∧ (n = d - 1 ∨ n = PE.lastM d t)) ∨ (k = false ∧ (n = PE.lastU d t ∨ (d ≤ t ∧ n = d))))) := by
  unfold lkL
  by_cases h : t < d - 1
  · rw [if_pos h]
    constructor
    · intro g; exact .inl ⟨h, List.mem_singleton.mp g⟩
    · rintro (g | g)
      · exact List.mem_singleton.mpr g.2
      · omega
  · rw [if_neg h, sortU_m]
    have h2 : d - 1 ≤ t := by omega
    cases k with
    | true => simp [h, h2]
    | false =>
      by_cases h3 : d ≤ t
      · simp [h, h2, h3]
      · simp [h, h2, h3]
theorem lk_b (d1 : 1 ≤ d) (t0 : 0 ≤ t) {n : Int} (h : n ∈ lkL d t k) : 0 ≤ n ∧ n ≤ t := by
  have a1 := PE.lastM_b (by omega : 0 < d) t0
  have a2 := PE.lastU_b (by omega : 0 < d) t0
  rcases lk_m.mp h with h | h
  · omega
  · rcases h with ⟨h1, ⟨_, h2 | h2⟩ | ⟨_, h2 | h2⟩⟩ <;> omega
theorem lk_len : (lkL d t k).length ≤ 2 := by
  unfold lkL
  split
  · exact Nat.le_succ 1
  · refine Nat.le_trans (sortU_len _) ?_
    split
    · exact Nat.le_refl 2
    · split <;> simp
/-- right at the words looked at: right at each word up to the bound -/
theorem lk_ok (R : PE.Rc (ci k) m (2 ^ s.toNat) d) (t0 : 0 ≤ t) : (∀ n ∈ lkL d t k, tlR k m s n = n / d) ↔ PE.okB (ci k) m (2 ^ s.toNat) d t := by
  have d0 := R.d0
  have d1 : 1 ≤ d := by omega
  constructor
  · intro h
    have a1 := PE.lastM_b d0 t0
    have a2 := PE.lastU_b d0 t0
    cases k with
    | false =>
      refine PE.up_all R t0 (PE.up_looks R t0 (fun hd => h d (lk_m.mpr (.inr ⟨by omega, .inr ⟨rfl, .inr ⟨hd, rfl⟩⟩⟩))) ?_)
      by_cases c : t < d - 1
      · have e : PE.lastU d t = t := by unfold PE.lastU; rw [if_neg (by omega)]
        rw [e]
        exact h t (lk_m.mpr (.inl ⟨c, rfl⟩))
      · exact h _ (lk_m.mpr (.inr ⟨by omega, .inr ⟨rfl, .inl rfl⟩⟩))
    | true =>
      by_cases c : t < d - 1
      · have e := h t (lk_m.mpr (.inl ⟨c, rfl⟩))
        have e1 : min (d - 1) t = t := by omega
        have e2 : t / d = 0 := Int.ediv_eq_zero_of_lt t0 (by omega)
        have e3 : PE.lastM d t = 0 := by unfold PE.lastM; rw [e2, Int.zero_mul]
        have hP : (0 : Int) < 2 ^ s.toNat := by have := one_le_pow s.toNat; omega
        refine PE.more_all R t0 (PE.more_looks R t0 (by rw [e1]; exact e) ?_)
        rw [e3, Int.zero_ediv]
        have u1 := (PE.tl_le (c := 1) (m := m) (n := t) (k := 0) hP).mp (by have : PE.tl 1 m (2 ^ s.toNat) t = t / d := e; omega)
        have u2 := (PE.tl_le (c := 1) (m := m) (n := 0) (k := 0) hP).mpr (by
          have := Int.mul_le_mul_of_nonneg_right (by omega : (0 : Int) + 1 ≤ t + 1) R.m0
          omega)
        have u3 := (PE.le_tl (c := 1) (m := m) (n := 0) (k := 0) hP).mpr (by
          rw [Int.mul_zero]
          exact Int.mul_nonneg (by decide) R.m0)
        omega
      · refine PE.more_all R t0 (PE.more_looks R t0 ?_ (h _ (lk_m.mpr (.inr ⟨by omega, .inl ⟨rfl, .inr rfl⟩⟩))))
        have e1 : min (d - 1) t = d - 1 := by omega
        rw [e1]
        exact h _ (lk_m.mpr (.inr ⟨by omega, .inl ⟨rfl, .inl rfl⟩⟩))
  · intro h n hn
    have b := lk_b d1 t0 hn
    exact h n b.1 b.2
theorem eq_looks_to_in (d1 : 1 ≤ d) (d2 : d ≤ 18446744073709551616) (t0 : 0 ≤ t) (t1 : t ≤ 18446744073709551616) : φ_looks_to_in [dI d, some (.d (rc k m s)), dI t] = .ok (.d (.tuple ((lkL d t k).map .int))) [dI d, some (.d (rc k m s)), dI t] := by
  have dd : divOk d = true := divOk_s (by omega) (by omega)
  have E0 := div_b t0 t1 (by omega : 0 < d)
  have E1 := div_b (by omega : 0 ≤ t + 1) (by omega : t + 1 ≤ 18446744073709551617) (by omega : 0 < d)
  have k3 : mulOk (t / d) d = true := mulOk_s (by omega) (by omega) (by omega) (by omega)
  have k4 : mulOk ((t + 1) / d) d = true := mulOk_s (by omega) (by omega) (by omega) (by omega)
  by_cases h : t < d - 1
  · have e : lkL d t k = [t] := by unfold lkL; rw [if_pos h]
    rw [e]
    (rw [φ_looks_to_in, run_ap _ _ _ _ _ (by rfl)]; simp -implicitDefEqProofs [m_looks_to_in, finSl, List.range, List.range.loop, h])
  · cases k with
    | true =>
      have e : lkL d t true = sortU [d - 1, PE.lastM d t] := by unfold lkL; rw [if_neg h, if_pos rfl]
      have eM : t / d * d = PE.lastM d t := rfl
      rw [e]
      generalize hD : d - 1 = D at *
      generalize PE.lastM d t = M at *
      have so := so_2 D M
      generalize sortU [D, M] = l at *
      (rw [φ_looks_to_in, run_ap _ _ _ _ _ (by rfl)]; simp -implicitDefEqProofs [m_looks_to_in, finSl, List.range, List.range.loop, hD, h, dd, k3, eM, so, oT_l])
    | false =>
      have eU : (t + 1) / d * d - 1 = PE.lastU d t := by unfold PE.lastU; rw [if_pos (by omega)]
      by_cases h3 : d ≤ t
      · have e : lkL d t false = sortU [PE.lastU d t, d] := by unfold lkL; rw [if_neg h, if_neg Bool.false_ne_true, if_pos h3]
        rw [e]
        generalize hD : d - 1 = D at *
        generalize PE.lastU d t = U at *
        have so := so_2 U d
        generalize sortU [U, d] = l at *
        (rw [φ_looks_to_in, run_ap _ _ _ _ _ (by rfl)]; simp -implicitDefEqProofs [m_looks_to_in, finSl, List.range, List.range.loop, hD, h, h3, dd, k4, eU, so, oT_l, oC_11, oC_10])
      · have e : lkL d t false = sortU [PE.lastU d t] := by unfold lkL; rw [if_neg h, if_neg Bool.false_ne_true, if_neg h3]
        rw [e]
        generalize hD : d - 1 = D at *
        generalize PE.lastU d t = U at *
        have so := so_1 U
        generalize sortU [U] = l at *
        (rw [φ_looks_to_in, run_ap _ _ _ _ _ (by rfl)]; simp -implicitDefEqProofs [m_looks_to_in, finSl, List.range, List.range.loop, hD, h, h3, dd, k4, eU, so, oT_l, oC_11, oC_10])
def okA (d : Int) (k : Bool) (m s t : Int) : Bool := (lkL d t k).all fun n => decide (tlR k m s n = n / d)
theorem okA_iff (R : PE.Rc (ci k) m (2 ^ s.toNat) d) (t0 : 0 ≤ t) : okA d k m s t = true ↔ PE.okB (ci k) m (2 ^ s.toNat) d t := by
  rw [← lk_ok R t0]
  unfold okA
  rw [List.all_eq_true]
  simp only [decide_eq_true_eq]
theorem eq_right_to_in (R : Rq w d k m s) (t0 : 0 ≤ t) (t1 : t < 2 ^ w.toNat) : φ_right_to_in [dI d, some (.d (rc k m s)), dI t] = .ok (.d (.bool (okA d k m s t))) [dI d, some (.d (rc k m s)), dI t] := by
  have p := R.W
  have := R.m1; have := R.d1; have := R.d2
  have dd : divOk d = true := divOk_s (by omega) (by omega)
  have lk := eq_looks_to_in (k := k) (m := m) (s := s) R.d1 (by omega) t0 (by omega)
  have e3 := lc_map (vs := [3]) (g := gN 3) (t := mYes) (e := bD (lift2 oEq (mFrz (mCall φ_value_of (mSeqA [(agD (mVar 1)), (agD (mVar 3))]))) (lift2 oDiv (mVar 3) (mVar 0)))) (fun n => .bool (decide (tlR k m s n = n / d))) [dI d, some (.d (rc k m s)), dI t, none] (lkL d t k) [] (fun n hn => by
    have b := lk_b R.d1 t0 hn
    have v := eq_value_of (b := k) R.m0 (by omega) R.s0 n b.1 (by omega)
    refine ⟨[dI d, some (.d (rc k m s)), dI t, dI n], lcStep_ok (g := gN 3) (show gN 3 (.int n) _ = .ok () [dI d, some (.d (rc k m s)), dI t, dI n] from rfl) rfl ?_, rfl⟩
    have v' : φ_value_of [some (.d (rc k m s)), dI n] = .ok (.d (.int (tlR k m s n))) [some (.d (rc k m s)), dI n] := v
    generalize tlR k m s n = T at *
    simp -implicitDefEqProofs [v', dd]) (by have := lk_len (d := d) (t := t) (k := k); exact Nat.le_of_lt (sizeL_lt (by simp; omega)))
  have e4 := mLc_ok (mi := mItems (mFrz (mCall φ_looks_to_in (mSeqA [(agD (mVar 0)), (agD (mVar 1)), (agD (mVar 2))])))) (ρ := [dI d, some (.d (rc k m s)), dI t, none]) (ρ1 := [dI d, some (.d (rc k m s)), dI t, none]) (xs := (lkL d t k).map .int) (by simp -implicitDefEqProofs [lk]) rfl e3
  have al := oAll_b ((lkL d t k).map fun n => decide (tlR k m s n = n / d))
  rw [List.map_map] at al
  have ea : ((lkL d t k).map fun n => decide (tlR k m s n = n / d)).all id = okA d k m s t := by
    unfold okA
    rw [List.all_map]; rfl
  rw [ea] at al
  rw [φ_right_to_in, run_ap _ _ _ _ _ (by rfl), m_right_to_in]
  generalize okA d k m s t = A at *
  rw [List.nil_append] at e4
  have er : restS [3] [dI d, some (.d (rc k m s)), dI t, none] [dI d, some (.d (rc k m s)), dI t, none] = [dI d, some (.d (rc k m s)), dI t, none] := rfl
  rw [er] at e4
  have e5 : mFrz (mLc [3] (mItems (mFrz (mCall φ_looks_to_in (mSeqA [(agD (mVar 0)), (agD (mVar 1)), (agD (mVar 2))])))) (gN 3) mYes (bD (lift2 oEq (mFrz (mCall φ_value_of (mSeqA [(agD (mVar 1)), (agD (mVar 3))]))) (lift2 oDiv (mVar 3) (mVar 0))))) [dI d, some (.d (rc k m s)), dI t, none] = .ok (.list ((lkL d t k).map (PyData.bool ∘ fun n => decide (tlR k m s n = n / d)))) [dI d, some (.d (rc k m s)), dI t, none] := by
    rw [mFrz_ap, e4, then_ok]; rfl
  generalize (lkL d t k).map (PyData.bool ∘ fun n => decide (tlR k m s n = n / d)) = l at *
  have e6 : ([dI d, some (.d (rc k m s)), dI t] ++ List.replicate (4 - 3) none : Sl) = [dI d, some (.d (rc k m s)), dI t, none] := rfl
  rw [e6]
  rw [sRet_ap, mDat_ap, lift1_ap, e5, then_ok, al]; rfl
end
section
variable {w d t m s : Int} {k : Bool}
theorem eq_sure_bound (R : Rq w d k m s) (t0 : 0 ≤ t) (t1 : t < 2 ^ w.toNat) : φ_sure_bound [dI w, dI d, some (.d (rc k m s)), dI t] = .ok (.d (.tuple [.int w, .int d, rc k m s, .int t])) [dI w, dI d, some (.d (rc k m s)), dI t] := by
  (rw [φ_sure_bound, run_ap _ _ _ _ _ (by rfl)]; simp -implicitDefEqProofs [m_sure_bound, finSl, List.range, List.range.loop, eq_sure_three R, eq_sure_word w t R.w1 R.w2 t0 t1])
theorem eq_looks_to (R : Rq w d k m s) (t0 : 0 ≤ t) (t1 : t < 2 ^ w.toNat) : φ_looks_to [dI w, dI d, some (.d (rc k m s)), dI t] = .ok (.d (.tuple ((lkL d t k).map .int))) [dI w, dI d, some (.d (rc k m s)), dI t] := by
  have p := R.W
  have := R.d2
  (rw [φ_looks_to, run_ap _ _ _ _ _ (by rfl)]; simp -implicitDefEqProofs [m_looks_to, finSl, List.range, List.range.loop, eq_sure_bound R t0 t1, eq_looks_to_in (k := k) (m := m) (s := s) R.d1 (by omega) t0 (by omega)])
theorem eq_is_right_to (R : Rq w d k m s) (t0 : 0 ≤ t) (t1 : t < 2 ^ w.toNat) : φ_is_right_to [dI w, dI d, some (.d (rc k m s)), dI t] = .ok (.d (.bool (okA d k m s t))) [dI w, dI d, some (.d (rc k m s)), dI t] := by
  have e1 := eq_sure_bound R t0 t1
  have e2 := eq_right_to_in R t0 t1
  generalize okA d k m s t = A at *
  (rw [φ_is_right_to, run_ap _ _ _ _ _ (by rfl)]; simp -implicitDefEqProofs [m_is_right_to, finSl, List.range, List.range.loop, e1, e2])
/-! ## errors up to a bound -/
theorem count_to (R : Rq w d k m s) (t0 : 0 ≤ t) (t1 : t < 2 ^ w.toNat) : PE.fullC (ci k) m (2 ^ s.toNat) d (t / d) + (if pcF w d k m s (t / d) ≤ pcL w d k m s (t / d) then max 0 (min t (pcL w d k m s (t / d)) + 1 - pcF w d k m s (t / d)) else 0) = PE.cnt (ci k) m (2 ^ s.toNat) d (t.toNat + 1) := by
  have p := R.W
  have := R.d1
  have e1 := Int.emod_add_mul_ediv t d
  have e2 := mod_b t (by omega : 0 < d)
  have q0 : 0 ≤ t / d := Int.ediv_nonneg (by omega) (by omega)
  generalize hq : t / d = q at *
  obtain ⟨Q, rfl⟩ := Int.eq_ofNat_of_zero_le q0
  obtain ⟨D, rfl⟩ := Int.eq_ofNat_of_zero_le (by omega : 0 ≤ d)
  obtain ⟨r, hr⟩ := Int.eq_ofNat_of_zero_le e2.1
  have em : ((D * Q : Nat) : Int) = (D : Int) * Q := Int.natCast_mul D Q
  have eN : t.toNat + 1 = Q * D + (r + 1) := by rw [Nat.mul_comm]; omega
  have L := PE.lohi R.rc (q := Q) (by omega)
  have c := PE.cnt_in R.rc (q := Q) (D := D) rfl (r + 1) (by omega)
  have f := PE.cnt_full R.rc (D := D) rfl Q
  rw [eN, c, f, PE.full_ok R.rc]
  have em2 : (Q : Int) * D = (D : Int) * Q := Int.mul_comm _ _
  have hF : pcF w D k m s Q = Q * D + PE.lo (ci k) m (2 ^ s.toNat) D Q := rfl
  have hL : pcL w D k m s Q = min (Q * D + PE.hi (ci k) m (2 ^ s.toNat) D Q - 1) (2 ^ w.toNat - 1) := rfl
  generalize PE.lo (ci k) m (2 ^ s.toNat) D Q = x at *
  generalize PE.hi (ci k) m (2 ^ s.toNat) D Q = y at *
  rw [hF, hL]
  split <;> omega
theorem eq_errs_to (R : Rq w d k m s) (t0 : 0 ≤ t) (t1 : t < 2 ^ w.toNat) : φ_errs_to [dI w, dI d, some (.d (rc k m s)), dI t] = .ok (.d (.int (PE.cnt (ci k) m (2 ^ s.toNat) d (t.toNat + 1)))) [dI w, dI d, some (.d (rc k m s)), dI t] := by
  have p := R.W
  have := R.d1; have := R.d2
  have dd : divOk d = true := divOk_s (by omega) (by omega)
  have q0 := div_b t0 (Int.le_refl _) (by omega : 0 < d)
  have pi := eq_piece_in R (t / d) q0.1 (by omega)
  have fc := eq_full_count R (t / d) q0.1 (by omega)
  have e := count_to R t0 t1
  have sb := eq_sure_bound R t0 t1
  have ex := eq_excess_in R
  have i0 := pc_0 (b := k) (w := w) (d := d) (m := m) (s := s) (t / d)
  have i1 := pc_1 (b := k) (w := w) (d := d) (m := m) (s := s) (t / d)
  have iN := pc_n (b := k) (w := w) (d := d) (m := m) (s := s) (t / d)
  rw [← e]
  generalize PE.fullC (ci k) m (2 ^ s.toNat) d (t / d) = F at *
  generalize pc w d k m s (t / d) = pcv at *
  generalize hq : t / d = q at *
  generalize pcF w d k m s q = a at *
  generalize pcL w d k m s q = b at *
  by_cases h : a ≤ b
  · have i0 := i0 h
    have i1 := i1 h
    rw [if_pos h]
    generalize hM : max 0 (min t b + 1 - a) = M at *
    (rw [φ_errs_to, run_ap _ _ _ _ _ (by rfl)]; simp -implicitDefEqProofs [m_errs_to, finSl, List.range, List.range.loop, sb, dd, hq, pi, ex, fc, h, i0, i1, iN, hM])
  · rw [if_neg h]
    (rw [φ_errs_to, run_ap _ _ _ _ _ (by rfl)]; simp -implicitDefEqProofs [m_errs_to, finSl, List.range, List.range.loop, sb, dd, hq, pi, ex, fc, h, iN])
/-- how far it is right -/
theorem right_ex (R : Rq w d k m s) : ∃ x, φ_right_up_to [dI w, dI d, some (.d (rc k m s))] = .ok (.d x) [dI w, dI d, some (.d (rc k m s))] ∧
    (x = .int (2 ^ w.toNat - 1) ∧ NoErr d k m s (2 ^ w.toNat) ∨ (∃ n : Int, x = .int (n - 1) ∧ 0 < n ∧ n < 2 ^ w.toNat ∧ tlR k m s n ≠ n / d ∧ NoErr d k m s n) ∨ x = .none ∧ tlR k m s 0 ≠ 0 / d) := by
  have := R.w1; have := R.w2
  have e1 := eq_sure_three R
  have tp := eq_top_in w (by omega) (by omega)
  obtain ⟨x, e, h⟩ := first_ex R
  rcases h with ⟨rfl, h⟩ | ⟨n, rfl, n0, n1, h1, h2⟩
  · exact ⟨_, by (rw [φ_right_up_to, run_ap _ _ _ _ _ (by rfl)]; simp -implicitDefEqProofs [m_right_up_to, finSl, List.range, List.range.loop, e1, e, tp]), .inl ⟨rfl, h⟩⟩
  · by_cases c : 0 < n
    · exact ⟨_, by (rw [φ_right_up_to, run_ap _ _ _ _ _ (by rfl)]; simp -implicitDefEqProofs [m_right_up_to, finSl, List.range, List.range.loop, e1, e, c]), .inr (.inl ⟨n, rfl, c, n1, h1, h2⟩)⟩
    · have : n = 0 := by omega
      subst this
      exact ⟨_, by (rw [φ_right_up_to, run_ap _ _ _ _ _ (by rfl)]; simp -implicitDefEqProofs [m_right_up_to, finSl, List.range, List.range.loop, e1, e]), .inr (.inr ⟨rfl, h1⟩)⟩
end
end L40

set_option linter.all false
set_option maxRecDepth 100000
set_option exponentiation.threshold 10000
namespace L40
open PySem PySem.Spec L2 DL
/-! ## the least shift -/
/-- there is a multiplier at this shift -/
def Sg (w d t : Int) (k : Bool) (s : Nat) : Prop := rgLo d k s t ≤ rgHi w d k s t
/-- the least shift -/
structure Fs (w d t : Int) (k : Bool) (s : Nat) : Prop where
  s1 : (s : Int) ≤ 2 * w
  yes : Sg w d t k s
  no : ∀ j : Nat, j < s → ¬ Sg w d t k j
section
variable {w d t : Int} {k : Bool}
theorem sg_iff (B : Bd w d t) (k : Bool) (s : Nat) : Sg w d t k s ↔ ∃ m, 0 ≤ m ∧ m ≤ 2 * (2 ^ w.toNat - 1) + 1 ∧ PE.okB (ci k) m (2 ^ s) d t := rg_some B k (s : Int)
theorem Bd.tp (B : Bd w d t) : Bd w d (2 ^ w.toNat - 1) := ⟨B.w1, B.w2, B.d1, B.d2, by have := B.p; omega, by omega⟩
theorem sg_tp (B : Bd w d t) (k : Bool) {s : Nat} (h : Sg w d (2 ^ w.toNat - 1) k s) : Sg w d t k s := by
  obtain ⟨m, m0, m1, h⟩ := (sg_iff B.tp k s).mp h
  exact (sg_iff B k s).mpr ⟨m, m0, m1, PE.okB_mono h (by have := B.t1; omega)⟩
theorem fs_ex (B : Bd w d t) (k : Bool) : ∃ s, Fs w d t k s := by
  obtain ⟨s, m, h1, h2, h3, h4⟩ := PE.kind_ex (w := w.toNat) B.d1 B.d2 (ci k) (ci_or k)
  have g : Sg w d t k s := sg_tp B k ((sg_iff B.tp k s).mpr ⟨m, h2, h3, h4⟩)
  obtain ⟨j, j1, j2⟩ := least_ex ⟨s, g⟩
  have := B.w1
  refine ⟨j, ?_, j1, j2⟩
  rcases Nat.lt_or_ge s j with c | c
  · exact absurd g (j2 s c)
  · omega
theorem fs_le (B : Bd w d t) {s s' : Nat} (F : Fs w d t k s) (F' : Fs w d (2 ^ w.toNat - 1) k s') : s ≤ s' := by
  rcases Nat.lt_or_ge s' s with c | c
  · exact absurd (sg_tp B k F'.yes) (F.no s' c)
  · exact c
theorem fs_eq {s s' : Nat} (F : Fs w d t k s) (F' : Fs w d t k s') : s = s' := by
  rcases Nat.lt_or_ge s' s with c | c
  · exact absurd F'.yes (F.no s' c)
  · rcases Nat.lt_or_ge s s' with c' | c'
    · exact absurd F.yes (F'.no s c')
    · omega
theorem tm_sg (B : Bd w d t) (k : Bool) (s : Nat) : tmLo w d k s ≤ tmHi w d k s ↔ Sg w d (2 ^ w.toNat - 1) k s := by
  rw [sg_iff B.tp]
  have p := B.p
  have hi : tmHi w d k s ≤ 2 * (2 ^ w.toNat - 1) + 1 := by unfold tmHi; omega
  have lo : 0 ≤ tmLo w d k s := by unfold tmLo; omega
  constructor
  · intro h
    exact ⟨tmLo w d k s, lo, by omega, (tm_right B.w1 B.d1 B.d2 k s lo (by omega)).mpr ⟨Int.le_refl _, h⟩⟩
  · rintro ⟨m, m0, m1, h⟩
    have := (tm_right B.w1 B.d1 B.d2 k s m0 m1).mp h
    omega
theorem eq_recipe_to_in (B : Bd w d t) (k : Bool) {s : Nat} (F : Fs w d t k s) : φ_recipe_to_in [dI w, dI d, some (.d (.str (kd k))), dI t] = .ok (.d (rc k (rgLo d k s t) s)) [dI w, dI d, some (.d (.str (kd k))), dI t] := by
  have := B.w1; have := B.w2; have f1 := F.s1
  let st : Option C → Option C → Sl := fun o4 o5 => [dI w, dI d, some (.d (.str (kd k))), dI t, o4, o5]
  let I : Nat → Sl → Prop := fun i ρ => (∃ o4 o5, ρ = st o4 o5) ∧ i ≤ s
  let J : Fl → Sl → Prop := fun fl ρ => fl = .rt (.d (rc k (rgLo d k s t) s)) ∧ ∃ o4 o5, ρ = st o4 o5
  have stp : ∀ i x ρ, (intsL 0 (2 * w + 1).toNat)[i]? = some x → I i ρ → ∃ fl ρ', M.bind (gN 4 x) (fun _ => (sSeq (sSet 5 (mDat (mFrz (mCall φ_times_to_in (mSeqA [(agD (mVar 0)), (agD (mVar 1)), (agD (mVar 2)), (agD (mVar 4)), (agD (mVar 3))]))))) (sIf (lift2 oNotX (mVar 5) (M.pure .none)) (sRet (mDat (mTup [(mVar 2), (lift2 oIx (mVar 5) (M.pure (.int 0))), (mVar 4)]))) sSkip))) ρ = .ok fl ρ' ∧ ((fl = .nx ∨ fl = .ct) ∧ I (i + 1) ρ' ∨ fl = .bk ∧ J .nx ρ' ∨ ∃ c, fl = .rt c ∧ J (.rt c) ρ') := by
    rintro i x ρ hx ⟨⟨o4, o5, rfl⟩, hn⟩
    obtain ⟨hi, rfl⟩ := intsL_at hx
    have e0 : gN 4 (.int (0 + i)) (st o4 o5) = .ok () (st (dI (0 + i)) o5) := rfl
    rw [bind_ok e0]
    have ez : (0 + (i : Int)) = i := by omega
    rw [ez]
    have tt := eq_times_to_in (s := i) B k (by omega) (by omega)
    by_cases c : i = s
    · subst c
      have h : rgLo d k i t ≤ rgHi w d k i t := F.yes
      have r0 := rg_0 h
      refine ⟨.rt (.d (rc k (rgLo d k i t) i)), st (dI i) (some (.d (rg w d k i t))), ?_, .inr (.inr ⟨_, rfl, rfl, _, _, rfl⟩)⟩
      simp -implicitDefEqProofs [st, tt, rg_n, h, r0, rc]
    · have h : ¬ rgLo d k i t ≤ rgHi w d k i t := F.no i (by omega)
      refine ⟨.nx, st (dI i) (some (.d (rg w d k i t))), ?_, .inl ⟨.inl rfl, ⟨_, _, rfl⟩, by omega⟩⟩
      simp -implicitDefEqProofs [st, tt, rg_n, h]
  obtain ⟨fl, ρ1, e, h⟩ := sForL_ex (xs := intsL 0 (2 * w + 1).toNat) (ρ := st none none) I J ⟨⟨_, _, rfl⟩, Nat.zero_le _⟩ stp
  have k1 : mulOk 2 w = true := mulOk_s (by omega) (by omega) (by omega) (by omega)
  have hr : (mRng1 (lift2 oAdd (lift2 oMul (M.pure (.int 2)) (mVar 0)) (M.pure (.int 1)))) (st none none) = .ok (intsL 0 (2 * w + 1).toNat) (st none none) := by
    have r := oRng1_i (j := 2 * w + 1) (by omega) (by omega)
    simp -implicitDefEqProofs [st, k1, r]
  have E := sFor_ok hr e
  rcases h with ⟨_, _, hn⟩ | ⟨rfl, o4, o5, rfl⟩
  · rw [intsL_len] at hn
    omega
  · rw [φ_recipe_to_in, run_ap _ _ _ _ _ (by rfl), m_recipe_to_in, sSeq_ap]
    show runR 4 [0, 1, 2, 3] _ ((sFor _ _ _ (st none none)).then _) = _
    rw [E]
    rfl
theorem rg2w (B : Bd w d t) {s : Option C → Sl} (hs : ∀ o, (s o)[0]? = some (dI w)) (o : Option C) : (mRng1 (lift2 oAdd (lift2 oMul (M.pure (.int 2)) (mVar 0)) (M.pure (.int 1)))) (s o) = .ok (intsL 0 (2 * w + 1).toNat) (s o) := by
  have := B.w1; have := B.w2
  have k1 : mulOk 2 w = true := mulOk_s (by omega) (by omega) (by omega) (by omega)
  have r := oRng1_i (j := 2 * w + 1) (by omega) (by omega)
  simp -implicitDefEqProofs [hs, k1, r]
theorem eq_shift_in (B : Bd w d t) (k : Bool) {s : Nat} (F : Fs w d (2 ^ w.toNat - 1) k s) : φ_shift_in [dI w, dI d, some (.d (.str (kd k)))] = .ok (.d (.int s)) [dI w, dI d, some (.d (.str (kd k)))] := by
  have := B.w1; have := B.w2; have f1 := F.s1
  let st : Option C → Sl := fun o => [dI w, dI d, some (.d (.str (kd k))), o]
  have e3 := lc_filter (vs := [3]) (g := gN 3) (t := lift2 oNotX (mFrz (mCall φ_times_in (mSeqA [(agD (mVar 0)), (agD (mVar 1)), (agD (mVar 2)), (agD (mVar 3))]))) (M.pure .none)) (e := mVar 3) (fun n => decide (tmLo w d k n ≤ tmHi w d k n)) (st none) (rgI 0 (2 * w + 1).toNat) [] (fun n hn => by
    have b := rgI_mem.mp hn
    have t := eq_times_in B.w1 B.w2 B.d1 B.d2 k (s := n) b.1 (by omega)
    have g : gN 3 (.int n) (st none) = .ok () (st (dI n)) := rfl
    by_cases h : tmLo w d k n ≤ tmHi w d k n
    · rw [if_pos (by rw [decide_eq_true_eq]; exact h)]
      exact ⟨st (dI n), lcStep_ok g (ρ2 := st (dI n)) (by simp -implicitDefEqProofs [st, t, tm_n, h]) rfl, rfl⟩
    · rw [if_neg (by rw [decide_eq_true_eq]; exact h)]
      exact ⟨st (dI n), lcStep_no g (ρ2 := st (dI n)) (by simp -implicitDefEqProofs [st, t, tm_n, h]), rfl⟩) (by rw [rgI_len]; exact Nat.le_of_lt (sizeL_lt (by simp; omega)))
  rw [← intsL_rg] at e3
  obtain ⟨r, er⟩ := filter_first (fun n => decide (tmLo w d k n ≤ tmHi w d k n)) s (by rw [decide_eq_true_eq]; exact (tm_sg B k s).mpr F.yes) (fun j hj => by rw [decide_eq_false_iff_not]; exact fun z => F.no j hj ((tm_sg B k j).mp z)) (2 * w + 1).toNat (by omega)
  rw [er] at e3
  have e4 := mLc_ok (mi := mRng1 (lift2 oAdd (lift2 oMul (M.pure (.int 2)) (mVar 0)) (M.pure (.int 1)))) (ρ := st none) (rg2w B (s := st) (fun _ => rfl) none) rfl e3
  have e5 : mFrz (mLc [3] (mRng1 (lift2 oAdd (lift2 oMul (M.pure (.int 2)) (mVar 0)) (M.pure (.int 1)))) (gN 3) (lift2 oNotX (mFrz (mCall φ_times_in (mSeqA [(agD (mVar 0)), (agD (mVar 1)), (agD (mVar 2)), (agD (mVar 3))]))) (M.pure .none)) (mVar 3)) (st none) = .ok (.list (.int s :: r.map .int)) (st none) := by
    rw [mFrz_ap, e4, then_ok]; rfl
  rw [φ_shift_in, run_ap _ _ _ _ _ (by rfl), m_shift_in]
  have e6 : ([dI w, dI d, some (.d (.str (kd k)))] ++ List.replicate (4 - 3) none : Sl) = st none := rfl
  rw [e6]
  rw [sRet_ap, mDat_ap, lift2_ap, e5, then_ok, bind_ok (pure_ap (a := PyData.int 0) (ρ := st none)), oIx_l, at_0]
  rfl
theorem eq_sure_kind (k : Bool) : φ_sure_kind [some (.d (.str (kd k)))] = .ok (.d (.str (kd k))) [some (.d (.str (kd k)))] := by
  cases k <;> (rw [φ_sure_kind, run_ap _ _ _ _ _ (by rfl)]; simp -implicitDefEqProofs [m_sure_kind, finSl, List.range, List.range.loop])
theorem eq_least_shift (B : Bd w d t) (k : Bool) {s : Nat} (F : Fs w d (2 ^ w.toNat - 1) k s) : φ_least_shift [dI w, dI d, some (.d (.str (kd k)))] = .ok (.d (.int s)) [dI w, dI d, some (.d (.str (kd k)))] := by
  (rw [φ_least_shift, run_ap _ _ _ _ _ (by rfl)]; simp -implicitDefEqProofs [m_least_shift, finSl, List.range, List.range.loop, eq_sure_width w B.w1 B.w2, eq_sure_divisor w d B.w1 B.w2 B.d1 B.d2, eq_sure_kind, eq_shift_in B k F])
theorem eq_recipe_to (B : Bd w d t) (k : Bool) {s : Nat} (F : Fs w d t k s) : φ_recipe_to [dI w, dI d, some (.d (.str (kd k))), dI t] = .ok (.d (rc k (rgLo d k s t) s)) [dI w, dI d, some (.d (.str (kd k))), dI t] := by
  (rw [φ_recipe_to, run_ap _ _ _ _ _ (by rfl)]; simp -implicitDefEqProofs [m_recipe_to, finSl, List.range, List.range.loop, eq_sure_width w B.w1 B.w2, eq_sure_divisor w d B.w1 B.w2 B.d1 B.d2, eq_sure_kind, eq_sure_word w t B.w1 B.w2 B.t0 B.t1, eq_recipe_to_in B k F])
theorem eq_shift_saved (B : Bd w d t) (k : Bool) {s s' : Nat} (F : Fs w d t k s) (F' : Fs w d (2 ^ w.toNat - 1) k s') : φ_shift_saved [dI w, dI d, some (.d (.str (kd k))), dI t] = .ok (.d (.int ((s' : Int) - s))) [dI w, dI d, some (.d (.str (kd k))), dI t] := by
  have := B.w1; have := B.w2
  (rw [φ_shift_saved, run_ap _ _ _ _ _ (by rfl)]; simp -implicitDefEqProofs [m_shift_saved, finSl, List.range, List.range.loop, eq_sure_width w B.w1 B.w2, eq_sure_divisor w d B.w1 B.w2 B.d1 B.d2, eq_sure_kind, eq_sure_word w t B.w1 B.w2 B.t0 B.t1, eq_top_in w (by omega) (by omega), eq_recipe_to_in B k F, eq_recipe_to_in B.tp k F'])
theorem eq_times_to (B : Bd w d t) (k : Bool) {s : Int} (s0 : 0 ≤ s) (s1 : s ≤ 2 * w) : φ_times_to [dI w, dI d, some (.d (.str (kd k))), dI s, dI t] = .ok (.d (rg w d k s t)) [dI w, dI d, some (.d (.str (kd k))), dI s, dI t] := by
  have := B.w1; have := B.w2
  have k1 : mulOk 2 w = true := mulOk_s (by omega) (by omega) (by omega) (by omega)
  have tt := eq_times_to_in (s := s) B k s0 (by omega)
  have sw := eq_sure_within s 0 (2 * w) s0 s1
  generalize hW : 2 * w = W at *
  (rw [φ_times_to, run_ap _ _ _ _ _ (by rfl)]; simp -implicitDefEqProofs [m_times_to, finSl, List.range, List.range.loop, eq_sure_width w B.w1 B.w2, eq_sure_divisor w d B.w1 B.w2 B.d1 B.d2, eq_sure_kind, eq_sure_word w t B.w1 B.w2 B.t0 B.t1, k1, hW, sw, tt])
end
end L40

set_option linter.all false
set_option maxRecDepth 100000
set_option exponentiation.threshold 10000
namespace L40
open PySem PySem.Spec L2 DL
theorem eq_law_told (b : Bool) {m s : Int} (h0 : 0 ≤ m) (hm : m < 100000000000000000000000) (hs : 0 ≤ s) (hs2 : s ≤ 128) (n : Int) (n0 : 0 ≤ n) (n1 : n ≤ 18446744073709551616) : φ__law_told [some (.d (rc b m s)), dI n] = .ok (.d (.int (tlR b m s n))) [some (.d (rc b m s)), dI n] := by
  have k1 : mulOk n m = true := mulOk_s (by omega) (by omega) (by omega) (by omega)
  have k2 : mulOk (n + 1) m = true := mulOk_s (by omega) (by omega) (by omega) (by omega)
  have p := pow_le128 (n := s.toNat) (by omega)
  have p1 := one_le_pow s.toNat
  have dd : divOk (2 ^ s.toNat) = true := divOk_s (by omega) (by omega)
  have tw := eq_two s (by omega) (by omega)
  cases b <;> (rw [φ__law_told, run_ap _ _ _ _ _ (by rfl)]; simp -implicitDefEqProofs [m__law_told, finSl, List.range, List.range.loop, rc, k1, k2, tw, dd, tlR, PE.tl, ci])
/-! ## the law's own counting -/
theorem up_alt {a k : Int} (hk : 0 < k) : (a + k - 1) / k = PE.up a k := by
  apply Int.le_antisymm
  · have h1 := (PE.up_le (a := a) (b := k) (k := PE.up a k) hk).mp (Int.le_refl _)
    have h2 := (Int.ediv_lt_iff_lt_mul (a := a + k - 1) (b := PE.up a k + 1) hk).mpr (by rw [Int.add_mul, Int.one_mul]; omega)
    omega
  · rw [PE.up_le hk]
    have := PE.dm hk (a + k - 1)
    omega
theorem eq_law_upper (a k : Int) (h0 : 0 < k) (h : k < 1000000000000000000000000000000000000000000000000000000000000000000000000000000000000000000) : φ__law_upper [dI a, dI k] = .ok (.d (.int (PE.up a k))) [dI a, dI k] := by
  have dk : divOk k = true := divOk_l h0 h
  have e := up_alt (a := a) h0
  generalize hX : a + k - 1 = X at *
  (rw [φ__law_upper, run_ap _ _ _ _ _ (by rfl)]; simp -implicitDefEqProofs [m__law_upper, finSl, List.range, List.range.loop, dk, hX, e])
theorem sd_1 (a : Int) : oSortDict (.list [.tuple [.int a, .int 1]]) = some (.l ((sortU [a]).map .int)) := oSortDict_i [a] (fun _ => .int 1) (show (1 : Nat) < 64 by decide)
theorem sd_2 (a b : Int) : oSortDict (.list [.tuple [.int a, .int 1], .tuple [.int b, .int 1]]) = some (.l ((sortU [a, b]).map .int)) := oSortDict_i [a, b] (fun _ => .int 1) (show (2 : Nat) < 64 by decide)
section
variable {w d s t m : Int} {k : Bool}
theorem pairs_ok (a b c : Option C) (ns : List Int) (hl : ns.length ≤ 2) : mFrz (mLc [4] (mItems (mVar 3)) (gN 4) mYes (mTup [(mVar 4), (M.pure (.int 1))])) [a, b, c, some (.d (.list (ns.map .int))), none] = .ok (.list (ns.map fun k => .tuple [.int k, .int 1])) [a, b, c, some (.d (.list (ns.map .int))), none] := by
  have e3 := lc_map (vs := [4]) (g := gN 4) (t := mYes) (e := mTup [(mVar 4), (M.pure (.int 1))]) (fun k => .tuple [.int k, .int 1]) [a, b, c, some (.d (.list (ns.map .int))), none] ns [] (fun n _ => ⟨[a, b, c, some (.d (.list (ns.map .int))), dI n], lcStep_ok (g := gN 4) (show gN 4 (.int n) _ = .ok () [a, b, c, some (.d (.list (ns.map .int))), dI n] from rfl) rfl rfl, rfl⟩) (Nat.le_of_lt (sizeL_lt (by simp; omega)))
  have e4 := mLc_ok (mi := mItems (mVar 3)) (ρ := [a, b, c, some (.d (.list (ns.map .int))), none]) (ρ1 := [a, b, c, some (.d (.list (ns.map .int))), none]) (xs := ns.map .int) rfl rfl e3
  rw [mFrz_ap, e4, then_ok]; rfl
theorem eq_law_looks (d1 : 1 ≤ d) (d2 : d ≤ 18446744073709551616) (t0 : 0 ≤ t) (t1 : t ≤ 18446744073709551616) : φ__law_looks [dI d, some (.d (rc k m s)), dI t] = .ok (.d (.tuple ((lkL d t k).map .int))) [dI d, some (.d (rc k m s)), dI t] := by
  have dd : divOk d = true := divOk_s (by omega) (by omega)
  have E0 := div_b t0 t1 (by omega : 0 < d)
  have E1 := div_b (by omega : 0 ≤ t + 1) (by omega : t + 1 ≤ 18446744073709551617) (by omega : 0 < d)
  have k3 : mulOk (t / d) d = true := mulOk_s (by omega) (by omega) (by omega) (by omega)
  have k4 : mulOk ((t + 1) / d) d = true := mulOk_s (by omega) (by omega) (by omega) (by omega)
  by_cases h : t < d - 1
  · have e : lkL d t k = [t] := by unfold lkL; rw [if_pos h]
    rw [e]
    (rw [φ__law_looks, run_ap _ _ _ _ _ (by rfl)]; simp -implicitDefEqProofs [m__law_looks, finSl, List.range, List.range.loop, h])
  · have fin : ∀ l : List Int, l.length ≤ 2 → oSortDict (.list (l.map fun k => .tuple [.int k, .int 1])) = some (.l ((sortU l).map .int)) := fun l hl => oSortDict_i l (fun _ => .int 1) (by omega)
    have last : ∀ l : List Int, l.length ≤ 2 → runR 3 [0, 1, 2] [dI d, some (.d (rc k m s)), dI t] ((sRet (mDat (lift1 oTuple (mFrz (lift1 oSortDict (mFrz (mLc [4] (mItems (mVar 3)) (gN 4) mYes (mTup [(mVar 4), (M.pure (.int 1))])))))))) [dI d, some (.d (rc k m s)), dI t, some (.d (.list (l.map .int))), none]) = .ok (.d (.tuple ((sortU l).map .int))) [dI d, some (.d (rc k m s)), dI t] := fun l hl => by
      rw [sRet_ap, mDat_ap, lift1_ap, mFrz_ap, lift1_ap, pairs_ok _ _ _ l hl, then_ok, fin l hl]
      rfl
    have e : lkL d t k = sortU (if k then [d - 1, PE.lastM d t] else if d ≤ t then [PE.lastU d t, d] else [PE.lastU d t]) := by unfold lkL; rw [if_neg h]
    rw [e]
    have eM : t / d * d = PE.lastM d t := rfl
    have eU : (t + 1) / d * d - 1 = PE.lastU d t := by unfold PE.lastU; rw [if_pos (by omega)]
    clear e
    generalize hD : d - 1 = D at *
    generalize PE.lastM d t = Mv at *
    generalize PE.lastU d t = U at *
    rw [φ__law_looks, run_ap _ _ _ _ _ (by rfl), m__law_looks]
    have e6 : ([dI d, some (.d (rc k m s)), dI t] ++ List.replicate (5 - 3) none : Sl) = [dI d, some (.d (rc k m s)), dI t, none, none] := rfl
    rw [e6]
    have s1 : sIf (lift2 oLt (mVar 2) (lift2 oSub (mVar 0) (M.pure (.int 1)))) (sRet (mDat (mTup [(mVar 2)]))) sSkip [dI d, some (.d (rc k m s)), dI t, none, none] = .ok .nx [dI d, some (.d (rc k m s)), dI t, none, none] := by
      simp -implicitDefEqProofs [hD, h]
    rw [seq_ok s1]
    cases k with
    | true =>
      have g := last [D, Mv] (Nat.le_refl _)
      rw [if_pos rfl]
      refine (congrArg _ (seq_ok ?_)).trans g
      simp -implicitDefEqProofs [hD, dd, k3, eM]
    | false =>
      rw [if_neg Bool.false_ne_true]
      by_cases h3 : d ≤ t
      · have g := last [U, d] (Nat.le_refl _)
        rw [if_pos h3]
        refine (congrArg _ (seq_ok ?_)).trans g
        simp -implicitDefEqProofs [h3, dd, k4, eU, oC_11]
      · have g := last [U] (Nat.le_succ _)
        rw [if_neg h3]
        refine (congrArg _ (seq_ok ?_)).trans g
        simp -implicitDefEqProofs [h3, dd, k4, eU, oC_10]
theorem eq_law_range (B : Bd w d t) (k : Bool) (s0 : 0 ≤ s) (s1 : s ≤ 128) : φ__law_range [dI w, dI d, some (.d (.str (kd k))), dI s, dI t] = .ok (.d (rg w d k s t)) [dI w, dI d, some (.d (.str (kd k))), dI s, dI t] := by
  have p := B.p
  have q1 := one_le_pow s.toNat
  have q2 := pow_le128 (n := s.toNat) (by omega)
  have := B.w1; have := B.w2; have := B.d1; have := B.d2; have := B.t0; have := B.t1
  have d0 : 0 < d := by omega
  have dd : divOk d = true := divOk_s (by omega) (by omega)
  have k2 : mulOk 2 (2 ^ w.toNat) = true := mulOk_s (by omega) (by omega) (by omega) (by omega)
  have tw := eq_two w (by omega) (by omega)
  have ts := eq_two s (by omega) (by omega)
  have eT : 2 * ((2 : Int) ^ w.toNat - 1) + 1 = 2 * 2 ^ w.toNat - 1 := by omega
  unfold rg
  cases k with
  | false =>
    have u1 := eq_law_upper (2 ^ s.toNat) d (by omega) (by omega)
    have LU := PE.lastU_b d0 B.t0
    have LD := div_b LU.1 (by omega : PE.lastU d t ≤ 18446744073709551616) d0
    have hE := PE.dm d0 (t + 1)
    have E1 := div_b (by omega : 0 ≤ t + 1) (by omega : t + 1 ≤ 18446744073709551616) d0
    have k3 : mulOk ((t + 1) / d) d = true := mulOk_s (by omega) (by omega) (by omega) (by omega)
    have k4 : mulOk (2 ^ s.toNat) (PE.lastU d t / d + 1) = true := mulOk_l (by omega) (by omega) (by omega) (by omega)
    have eL : rgLo d false s t = if d ≤ t then PE.up (2 ^ s.toNat) d else 0 := rfl
    have eH : rgHi w d false s t = min (if 0 < PE.lastU d t then (2 ^ s.toNat * (PE.lastU d t / d + 1) - 1) / PE.lastU d t else 2 * (2 ^ w.toNat - 1) + 1) (2 * (2 ^ w.toNat - 1) + 1) := rfl
    have eU1 : d - 1 ≤ t → (t + 1) / d * d - 1 = PE.lastU d t := fun h => by unfold PE.lastU; rw [if_pos h]
    have eU2 : ¬ d - 1 ≤ t → t = PE.lastU d t := fun h => by unfold PE.lastU; rw [if_neg h]
    have nb : ¬ d - 1 ≤ t → ¬ d ≤ t := by omega
    have dn : d - 1 ≤ t ↔ d ≤ t + 1 := by omega
    rw [eT] at eH
    generalize rgLo d false s t = lo at *
    generalize rgHi w d false s t = hi at *
    generalize PE.lastU d t = L at *
    generalize hP : (2 : Int) ^ s.toNat = P at *
    generalize PE.up P d = U at *
    generalize hT : 2 * (2 : Int) ^ w.toNat - 1 = T at *
    generalize hX : (P * (L / d + 1) - 1) / L = X at *
    by_cases h1 : d - 1 ≤ t
    · have e1 := eU1 h1
      by_cases hl : 0 < L
      · have dL : divOk L = true := divOk_s hl (by omega)
        rw [if_pos hl, Int.min_comm] at eH
        have eHs := eH.symm
        by_cases h2 : d ≤ t
        · rw [if_pos h2] at eL
          subst eL
          by_cases h : lo ≤ hi <;> (rw [φ__law_range, run_ap _ _ _ _ _ (by rfl)]; simp -implicitDefEqProofs [m__law_range, finSl, List.range, List.range.loop, ts, hP, tw, k2, hT, h2, u1, h1, dn.mp h1, dd, k3, e1, hl, k4, dL, hX, eHs, h])
        · rw [if_neg h2] at eL
          subst eL
          by_cases h : 0 ≤ hi <;> (rw [φ__law_range, run_ap _ _ _ _ _ (by rfl)]; simp -implicitDefEqProofs [m__law_range, finSl, List.range, List.range.loop, ts, hP, tw, k2, hT, h2, h1, dn.mp h1, dd, k3, e1, hl, k4, dL, hX, eHs, h])
      · rw [if_neg hl, Int.min_self] at eH
        subst eH
        by_cases h2 : d ≤ t
        · rw [if_pos h2] at eL
          subst eL
          by_cases h : lo ≤ hi <;> (rw [φ__law_range, run_ap _ _ _ _ _ (by rfl)]; simp -implicitDefEqProofs [m__law_range, finSl, List.range, List.range.loop, ts, hP, tw, k2, hT, h2, u1, h1, dn.mp h1, dd, k3, e1, hl, h])
        · rw [if_neg h2] at eL
          subst eL
          by_cases h : 0 ≤ hi <;> (rw [φ__law_range, run_ap _ _ _ _ _ (by rfl)]; simp -implicitDefEqProofs [m__law_range, finSl, List.range, List.range.loop, ts, hP, tw, k2, hT, h2, h1, dn.mp h1, dd, k3, e1, hl, h])
    · have e1 := eU2 h1
      have h2 := nb h1
      have h1' : ¬ d ≤ t + 1 := fun z => h1 (dn.mpr z)
      rw [if_neg h2] at eL
      subst eL
      subst e1
      by_cases hl : 0 < t
      · have dL : divOk t = true := divOk_s hl (by omega)
        rw [if_pos hl, Int.min_comm] at eH
        have eHs := eH.symm
        by_cases h : 0 ≤ hi <;> (rw [φ__law_range, run_ap _ _ _ _ _ (by rfl)]; simp -implicitDefEqProofs [m__law_range, finSl, List.range, List.range.loop, ts, hP, tw, k2, hT, h2, h1, h1', dd, hl, k4, dL, hX, eHs, h])
      · rw [if_neg hl, Int.min_self] at eH
        subst eH
        by_cases h : 0 ≤ hi <;> (rw [φ__law_range, run_ap _ _ _ _ _ (by rfl)]; simp -implicitDefEqProofs [m__law_range, finSl, List.range, List.range.loop, ts, hP, tw, k2, hT, h2, h1, h1', hl, h])
  | true =>
    have LM := PE.lastM_b d0 B.t0
    have LD := div_b LM.1 (by omega : PE.lastM d t ≤ 18446744073709551616) d0
    have E1 := div_b B.t0 (by omega : t ≤ 18446744073709551616) d0
    have k3 : mulOk (t / d) d = true := mulOk_s (by omega) (by omega) (by omega) (by omega)
    have k4 : mulOk (2 ^ s.toNat) (PE.lastM d t / d) = true := mulOk_l (by omega) (by omega) (by omega) (by omega)
    have u1 := eq_law_upper (2 ^ s.toNat * (PE.lastM d t / d)) (PE.lastM d t + 1) (by omega) (by omega)
    have eL : rgLo d true s t = PE.up (2 ^ s.toNat * (PE.lastM d t / d)) (PE.lastM d t + 1) := rfl
    have eH : rgHi w d true s t = min ((2 ^ s.toNat - 1) / min d (t + 1)) (2 * (2 ^ w.toNat - 1) + 1) := rfl
    have eM : t / d * d = PE.lastM d t := rfl
    have dm : divOk (min d (t + 1)) = true := divOk_s (by omega) (by omega)
    rw [eT] at eH
    generalize rgLo d true s t = lo at *
    generalize rgHi w d true s t = hi at *
    generalize PE.lastM d t = L at *
    generalize hP : (2 : Int) ^ s.toNat = P at *
    generalize hT : 2 * (2 : Int) ^ w.toNat - 1 = T at *
    generalize hD : min d (t + 1) = D at *
    generalize hX : (P - 1) / D = X at *
    rw [Int.min_comm] at eH
    have eHs := eH.symm
    generalize PE.up (P * (L / d)) (L + 1) = U at *
    subst eL
    by_cases h : lo ≤ hi <;> (rw [φ__law_range, run_ap _ _ _ _ _ (by rfl)]; simp -implicitDefEqProofs [m__law_range, finSl, List.range, List.range.loop, ts, hP, tw, k2, hT, dd, k3, eM, k4, u1, hD, dm, hX, eHs, h])
end
end L40

set_option linter.all false
set_option maxRecDepth 100000
set_option exponentiation.threshold 10000
namespace L40
open PySem PySem.Spec L2 DL
section
variable {w d s : Int} {b : Bool}
theorem eq_law_run (w1 : 1 ≤ w) (w2 : w ≤ 64) (d1 : 1 ≤ d) (d2 : d < 2 ^ w.toNat) (b : Bool) (s0 : 0 ≤ s) (s1 : s ≤ 128) : φ__law_run [dI w, dI d, some (.d (.str (kd b))), dI s] = .ok (.d (tm w d b s)) [dI w, dI d, some (.d (.str (kd b))), dI s] := by
  have p1 : (2 : Int) ≤ 2 ^ w.toNat := two_le_pow (by omega)
  have p2 : (2 : Int) ^ w.toNat ≤ 18446744073709551616 := pow_le64 (by omega)
  have q1 := one_le_pow s.toNat
  have q2 := pow_le128 (n := s.toNat) (by omega)
  have dd : divOk d = true := divOk_s (by omega) (by omega)
  have k2 : mulOk 2 (2 ^ w.toNat) = true := mulOk_s (by omega) (by omega) (by omega) (by omega)
  have sw := eq_two w (by omega) (by omega)
  have ss := eq_two s (by omega) (by omega)
  have E0 := div_b (by omega : 0 ≤ (2 : Int) ^ w.toNat) (Int.le_refl _) (by omega : 0 < d)
  have E1 := div_b (by omega : 0 ≤ (2 : Int) ^ w.toNat - 1) (Int.le_refl _) (by omega : 0 < d)
  have k3 : mulOk (2 ^ w.toNat / d) d = true := mulOk_s (by omega) (by omega) (by omega) (by omega)
  have k4 : mulOk ((2 ^ w.toNat - 1) / d) d = true := mulOk_s (by omega) (by omega) (by omega) (by omega)
  have hE := PE.dm (by omega : 0 < d) (2 ^ w.toNat)
  have hM := PE.dm (by omega : 0 < d) (2 ^ w.toNat - 1)
  have u1 := eq_law_upper (2 ^ s.toNat) d (by omega) (by omega)
  have eT : 2 * ((2 : Int) ^ w.toNat - 1) + 1 = 2 * 2 ^ w.toNat - 1 := by omega
  unfold tm
  cases b with
  | false =>
    have eL : tmLo w d false s = max 0 (PE.up (2 ^ s.toNat) d) := rfl
    have eH : tmHi w d false s = min ((2 ^ s.toNat + (2 ^ s.toNat - 1) / (2 ^ w.toNat / d * d - 1)) / d) (2 * (2 ^ w.toNat - 1) + 1) := rfl
    have Lp : 0 < 2 ^ w.toNat / d * d - 1 := by
      have k1 : 1 ≤ (2 : Int) ^ w.toNat / d := by
        have h2 := Int.le_ediv_iff_mul_le (a := 1) (b := 2 ^ w.toNat) (by omega : 0 < d)
        omega
      have h3 : 1 * d ≤ 2 ^ w.toNat / d * d := Int.mul_le_mul_of_nonneg_right k1 (by omega)
      rcases Int.lt_or_le 1 d with c | c
      · omega
      · have : d = 1 := by omega
        subst this
        rw [Int.ediv_one] at *
        omega
    have dL : divOk (2 ^ w.toNat / d * d - 1) = true := divOk_s Lp (by omega)
    rw [eT] at eH
    generalize hlo : tmLo w d false s = lo at *
    generalize hhi : tmHi w d false s = hi at *
    generalize hL : (2 : Int) ^ w.toNat / d * d - 1 = L at *
    generalize hX : ((2 : Int) ^ s.toNat + (2 ^ s.toNat - 1) / L) / d = X at *
    have eLs := eL.symm
    have eHs := eH.symm
    generalize PE.up (2 ^ s.toNat) d = U at *
    generalize hT : 2 * (2 : Int) ^ w.toNat - 1 = T at *
    by_cases h : lo ≤ hi <;> (rw [φ__law_run, run_ap _ _ _ _ _ (by rfl)]; simp -implicitDefEqProofs [m__law_run, finSl, List.range, List.range.loop, sw, ss, k2, dd, k3, hL, dL, u1, hX, hT, eLs, eHs, h])
  | true =>
    have eL : tmLo w d true s = max 0 (PE.up (2 ^ s.toNat - 2 ^ s.toNat / ((2 ^ w.toNat - 1) / d * d + 1)) d) := rfl
    have eH : tmHi w d true s = min (PE.up (2 ^ s.toNat) d - 1) (2 * (2 ^ w.toNat - 1) + 1) := rfl
    have kd0 : 0 ≤ ((2 : Int) ^ w.toNat - 1) / d * d := Int.mul_nonneg E1.1 (by omega)
    have dL : divOk ((2 ^ w.toNat - 1) / d * d + 1) = true := divOk_s (by omega) (by omega)
    have u2 := eq_law_upper (2 ^ s.toNat - 2 ^ s.toNat / ((2 ^ w.toNat - 1) / d * d + 1)) d (by omega) (by omega)
    rw [eT] at eH
    generalize hlo : tmLo w d true s = lo at *
    generalize hhi : tmHi w d true s = hi at *
    generalize hL : ((2 : Int) ^ w.toNat - 1) / d * d + 1 = L at *
    generalize hX : (2 : Int) ^ s.toNat - 2 ^ s.toNat / L = X at *
    have eLs := eL.symm
    have eHs := eH.symm
    generalize PE.up (2 ^ s.toNat) d = U at *
    generalize PE.up X d = V at *
    generalize hT : 2 * (2 : Int) ^ w.toNat - 1 = T at *
    by_cases h : lo ≤ hi <;> (rw [φ__law_run, run_ap _ _ _ _ _ (by rfl)]; simp -implicitDefEqProofs [m__law_run, finSl, List.range, List.range.loop, sw, ss, k2, dd, k4, hL, dL, u1, u2, hX, hT, eLs, eHs, h])
theorem kd_of {x : PyData} (h : x ∈ [PyData.str (Str.ofString "up"), PyData.str (Str.ofString "more")]) : ∃ b, x = .str (kd b) := by
  simp only [List.mem_cons, List.not_mem_nil, or_false] at h
  rcases h with h | h
  · exact ⟨false, h⟩
  · exact ⟨true, h⟩
theorem eq_law_recipe (n : Nat) (t : List PyData) (T : Tin n t) (hn : n ≤ 100000000000) (w1 : 1 ≤ w) (w2 : w ≤ 64) (d1 : 1 ≤ d) (d2 : d < 2 ^ w.toNat) :
    ∃ (b : Bool) (m s : Int) (t' : List PyData), φ__law_recipe [some (.l t), dI w, dI d] = .ok (.d (rc b m s)) [some (.l t'), dI w, dI d] ∧ Rq w d b m s ∧ Tin (n + 4) t' := by
  have p1 : (2 : Int) ≤ 2 ^ w.toNat := two_le_pow (by omega)
  have p2 : (2 : Int) ^ w.toNat ≤ 18446744073709551616 := pow_le64 (by omega)
  have dd : divOk d = true := divOk_s (by omega) (by omega)
  have k1 : mulOk 2 w = true := mulOk_s (by omega) (by omega) (by omega) (by omega)
  have k2 : mulOk 2 (2 ^ w.toNat) = true := mulOk_s (by omega) (by omega) (by omega) (by omega)
  have sw := eq_two w (by omega) (by omega)
  obtain ⟨x, t1, e1, hx, T1⟩ := eq_of n t [.str (Str.ofString "up"), .str (Str.ofString "more")] T (by omega) (by simp) (by simp)
  obtain ⟨b, rfl⟩ := kd_of hx
  obtain ⟨s, t2, e2, s0, s1, T2⟩ := eq_takeS _ t1 (2 * w + 1) T1 (by omega) (by omega) (by omega)
  obtain ⟨z, t3, e3, z0, z1, T3⟩ := eq_takeS _ t2 4 T2 (by omega) (by omega) (by omega)
  let st : List PyData → Int → Option C → Option C → Option C → Sl := fun t s o5 o6 o7 => [some (.l t), dI w, dI d, some (.d (.str (kd b))), dI s, o5, o6, o7]
  have e6 : ([some (.l t), dI w, dI d] ++ List.replicate (8 - 3) none : Sl) = [some (.l t), dI w, dI d, none, none, none, none, none] := rfl
  have A : (sSet2 3 4 (mDat (mFrz (mCall φ__law_of (mSeqA [(agV 0), (agD (mFrz (mLst [(M.pure (.str (Str.ofString "up"))), (M.pure (.str (Str.ofString "more")))])))])))) (mDat (mFrz (mCall φ__law_take (mSeqA [(agV 0), (agD (lift2 oAdd (lift2 oMul (M.pure (.int 2)) (mVar 1)) (M.pure (.int 1))))]))))) [some (.l t), dI w, dI d, none, none, none, none, none] = .ok .nx (st t2 s none none none) := by
    simp -implicitDefEqProofs [st, e1, e2, k1]
  have A2 : (sSet 5 (mDat (mFrz (mCall φ__law_take (mSeqA [(agV 0), (agD (M.pure (.int 4)))]))))) (st t2 s none none none) = .ok .nx (st t3 s (dI z) none none) := by
    simp -implicitDefEqProofs [st, e3]
  by_cases hz : z = 0
  · subst hz
    obtain ⟨m, t4, e4, m0, m1, T4⟩ := eq_takeS _ t3 (2 * 2 ^ w.toNat) T3 (by omega) (by omega) (by omega)
    refine ⟨b, m, s, t4, ?_, ⟨w1, w2, d1, d2, m0, m1, s0, by omega⟩, T4⟩
    rw [φ__law_recipe, run_ap _ _ _ _ _ (by rfl), m__law_recipe, e6, seq_ok A, seq_ok A2]
    generalize hX : 2 * (2 : Int) ^ w.toNat = X at *
    simp -implicitDefEqProofs [st, sw, k2, hX, e4, rc, finSl, List.range, List.range.loop]
  · obtain ⟨v, t4, e4, v0, v1, T4⟩ := eq_takeS _ t3 4 T3 (by omega) (by omega) (by omega)
    have L : ∃ (s' : Int) (o6 : Option C), (sIf (lift2 oEq (mVar 5) (M.pure (.int 1))) (sFor (mRng1 (lift2 oAdd (lift2 oMul (M.pure (.int 2)) (mVar 1)) (M.pure (.int 1)))) (gN 6) (sIf (lift2 oNotX (mFrz (mCall φ__law_run (mSeqA [(agD (mVar 1)), (agD (mVar 2)), (agD (mVar 3)), (agD (mVar 6))]))) (M.pure .none)) (sSeq (sSet 4 (mDat (mVar 6))) sBk) sSkip)) sSkip) (st t3 s (dI z) none none) = .ok .nx (st t3 s' (dI z) o6 none) ∧ 0 ≤ s' ∧ s' ≤ 2 * w := by
      by_cases h1 : z = 1
      · let I : Nat → Sl → Prop := fun i ρ => ∃ o6, ρ = st t3 s (dI z) o6 none
        let J : Fl → Sl → Prop := fun fl ρ => fl = .nx ∧ ∃ (s' : Int) (o6 : Option C), ρ = st t3 s' (dI z) o6 none ∧ 0 ≤ s' ∧ s' ≤ 2 * w
        have stp : ∀ i x ρ, (intsL 0 (2 * w + 1).toNat)[i]? = some x → I i ρ → ∃ fl ρ', M.bind (gN 6 x) (fun _ => (sIf (lift2 oNotX (mFrz (mCall φ__law_run (mSeqA [(agD (mVar 1)), (agD (mVar 2)), (agD (mVar 3)), (agD (mVar 6))]))) (M.pure .none)) (sSeq (sSet 4 (mDat (mVar 6))) sBk) sSkip)) ρ = .ok fl ρ' ∧ ((fl = .nx ∨ fl = .ct) ∧ I (i + 1) ρ' ∨ fl = .bk ∧ J .nx ρ' ∨ ∃ c, fl = .rt c ∧ J (.rt c) ρ') := by
          rintro i x ρ hx ⟨o6, rfl⟩
          obtain ⟨hi, rfl⟩ := intsL_at hx
          have e0 : gN 6 (.int (0 + i)) (st t3 s (dI z) o6 none) = .ok () (st t3 s (dI z) (dI (0 + i)) none) := rfl
          rw [bind_ok e0]
          have r := eq_law_run w1 w2 d1 d2 b (s := 0 + i) (by omega) (by omega)
          by_cases c : tmLo w d b (0 + i) ≤ tmHi w d b (0 + i)
          · refine ⟨.bk, st t3 (0 + i) (dI z) (dI (0 + i)) none, ?_, .inr (.inl ⟨rfl, rfl, _, _, rfl, by omega, by omega⟩)⟩
            generalize (0 + (i : Int)) = j at *
            simp -implicitDefEqProofs [st, r, tm_n, c]
          · refine ⟨.nx, st t3 s (dI z) (dI (0 + i)) none, ?_, .inl ⟨.inl rfl, _, rfl⟩⟩
            generalize (0 + (i : Int)) = j at *
            simp -implicitDefEqProofs [st, r, tm_n, c]
        obtain ⟨fl, ρ1, e, h⟩ := sForL_ex (xs := intsL 0 (2 * w + 1).toNat) (ρ := st t3 s (dI z) none none) I J ⟨_, rfl⟩ stp
        have hr : (mRng1 (lift2 oAdd (lift2 oMul (M.pure (.int 2)) (mVar 1)) (M.pure (.int 1)))) (st t3 s (dI z) none none) = .ok (intsL 0 (2 * w + 1).toNat) (st t3 s (dI z) none none) := by
          have r := oRng1_i (j := 2 * w + 1) (by omega) (by omega)
          simp -implicitDefEqProofs [st, k1, r]
        have E := sFor_ok hr e
        have c1 : ∀ (X Y : M Fl), sIf (lift2 oEq (mVar 5) (M.pure (.int 1))) X Y (st t3 s (dI z) none none) = X (st t3 s (dI z) none none) := fun X Y => by
          subst h1
          simp -implicitDefEqProofs [st]
        rw [c1, E]
        rcases h with ⟨rfl, o6, rfl⟩ | ⟨rfl, s', o6, rfl, h⟩
        · exact ⟨s, o6, rfl, s0, by omega⟩
        · exact ⟨s', o6, rfl, h⟩
      · exact ⟨s, none, by simp -implicitDefEqProofs [st, h1], s0, by omega⟩
    obtain ⟨s', o6, EL, a0, a1⟩ := L
    have q1 := one_le_pow s'.toNat
    have q2 := pow_le128 (n := s'.toNat) (by omega)
    have ts := eq_two s' (by omega) (by omega)
    have c0 : sIf (lift2 oEq (mVar 5) (M.pure (.int 0))) (sRet (mDat (mTup [(mVar 3), (mFrz (mCall φ__law_take (mSeqA [(agV 0), (agD (lift2 oMul (M.pure (.int 2)) (mFrz (mCall φ__law_two (mSeqA [(agD (mVar 1))])))))]))), (mVar 4)]))) sSkip (st t3 s (dI z) none none) = .ok .nx (st t3 s (dI z) none none) := by
      simp -implicitDefEqProofs [st, hz]
    generalize hV : 2 ^ s'.toNat / d + v - 1 = V
    have A5 : (sSet 7 (mDat (lift2 oSub (lift2 oAdd (lift2 oDiv (mFrz (mCall φ__law_two (mSeqA [(agD (mVar 4))]))) (mVar 2)) (mFrz (mCall φ__law_take (mSeqA [(agV 0), (agD (M.pure (.int 4)))])))) (M.pure (.int 1))))) (st t3 s' (dI z) o6 none) = .ok .nx (st t4 s' (dI z) o6 (dI V)) := by
      simp -implicitDefEqProofs [st, ts, dd, e4, hV]
    generalize hW : min V (2 * 2 ^ w.toNat - 1) = W
    refine ⟨b, max 0 W, s', t4, ?_, ⟨w1, w2, d1, d2, by omega, by omega, a0, a1⟩, T4⟩
    rw [φ__law_recipe, run_ap _ _ _ _ _ (by rfl), m__law_recipe, e6, seq_ok A, seq_ok A2, seq_ok c0, seq_ok EL, seq_ok A5]
    simp -implicitDefEqProofs [st, sw, k2, hW, rc, finSl, List.range, List.range.loop]
end
end L40

set_option linter.all false
set_option maxRecDepth 100000
set_option exponentiation.threshold 10000
namespace L40
open PySem PySem.Spec L2 DL
/-! ## rows of numbers; rows of errors -/
theorem plain_ints : ∀ ws : List Int, plainD.plainL (ws.map .int) = true
  | [] => rfl
  | x :: r => by show (true && plainD.plainL (r.map .int)) = true; rw [plain_ints r]; rfl
theorem dep_ints : ∀ ws : List Int, dep.depL (ws.map .int) = 0
  | [] => rfl
  | x :: r => by show max 0 (dep.depL (r.map .int)) = 0; rw [dep_ints r]; rfl
theorem oEq_e (xs : List Int) : oEq (.list (xs.map .int)) (.list []) = some xs.isEmpty := by
  have e := oEq_ln (shaped_l xs)
  rw [e]
  cases xs <;> rfl
theorem oNe_e (xs : List Int) : oNe (.list (xs.map .int)) (.list []) = some (!xs.isEmpty) := by
  have e := oNe_ln (shaped_l xs)
  rw [e]
  cases xs <;> rfl
theorem filter_cut (p : Int → Bool) (b : Int) : ∀ n : Nat, b < n → ((rgI 0 n).filter p).filter (fun x => decide (x ≤ b)) = (rgI 0 (b + 1).toNat).filter p
  | 0, h => by
    have : (b + 1).toNat = 0 := by omega
    rw [this]; rfl
  | n + 1, h => by
    rw [rgI_succ, List.filter_append, List.filter_append]
    rcases Int.lt_or_le b n with c | c
    · rw [filter_cut p b n c]
      have : (List.filter p [0 + (n : Int)]).filter (fun x => decide (x ≤ b)) = [] := by
        rw [List.filter_eq_nil_iff]
        intro x hx
        have := List.mem_singleton.mp (List.mem_filter.mp hx).1
        simp only [decide_eq_true_eq]
        omega
      rw [this, List.append_nil]
    · have e : (b + 1).toNat = n + 1 := by omega
      rw [e, rgI_succ, List.filter_append]
      have e1 : ∀ l : List Int, (∀ x ∈ l, x ≤ b) → l.filter (fun x => decide (x ≤ b)) = l := fun l h => List.filter_eq_self.mpr fun x hx => by rw [decide_eq_true_eq]; exact h x hx
      rw [e1 _ (fun x hx => by have := rgI_mem.mp (List.mem_filter.mp hx).1; omega), e1 _ (fun x hx => by
        have := List.mem_singleton.mp (List.mem_filter.mp hx).1; omega)]
section
variable {w d t m s : Int} {k : Bool} {S : Q}
/-- errs at this word -/
def er (d : Int) (k : Bool) (m s n : Int) : Bool := !decide (tlR k m s n = n / d)
def ers (d : Int) (k : Bool) (m s : Int) (N : Nat) : List Int := (rgI 0 N).filter (er d k m s)
theorem ers_len (d : Int) (k : Bool) (m s : Int) : ∀ N : Nat, ((ers d k m s N).length : Int) = PE.cnt (ci k) m (2 ^ s.toNat) d N
  | 0 => rfl
  | N + 1 => by
    have ih := ers_len d k m s N
    have es : PE.cnt (ci k) m (2 ^ s.toNat) d (N + 1) = PE.cnt (ci k) m (2 ^ s.toNat) d N + PE.err (ci k) m (2 ^ s.toNat) d N := rfl
    rw [es, ← ih]
    unfold ers
    rw [rgI_succ, List.filter_append, List.length_append, Int.zero_add]
    unfold PE.err
    by_cases h : PE.tl (ci k) m (2 ^ s.toNat) N = (N : Int) / d
    · rw [if_pos h, List.filter_cons_of_neg (by unfold er; rw [decide_eq_true h]; decide)]
      rfl
    · rw [if_neg h, List.filter_cons_of_pos (by unfold er; rw [decide_eq_false h]; rfl)]
      show ((_ + 1 : Nat) : Int) = _
      omega
theorem ers_cut (N : Nat) (b : Int) (h : b < N) : (ers d k m s N).filter (fun x => decide (x ≤ b)) = ers d k m s (b + 1).toNat := filter_cut _ b N h
theorem ers_nil (N : Nat) : ers d k m s N = [] ↔ NoErr d k m s N := by
  unfold ers
  rw [List.filter_eq_nil_iff]
  constructor
  · intro h n n0 n1
    have := h n (rgI_mem.mpr ⟨n0, by omega⟩)
    unfold er at this
    simpa using this
  · intro h n hn
    have := rgI_mem.mp hn
    have := h n this.1 (by omega)
    unfold er
    rw [decide_eq_true this]; decide
theorem ok_ers (R : Rq w d k m s) (t0 : 0 ≤ t) : (ers d k m s (t + 1).toNat).isEmpty = okA d k m s t := by
  have h1 := ers_nil (d := d) (k := k) (m := m) (s := s) (t + 1).toNat
  have h2 := okA_iff R.rc t0
  have h3 : NoErr d k m s (t + 1).toNat ↔ PE.okB (ci k) m (2 ^ s.toNat) d t := ⟨fun h n n0 n1 => h n n0 (by omega), fun h n n0 n1 => h n n0 (by omega)⟩
  apply Bool.eq_iff_iff.mpr
  rw [List.isEmpty_iff, h1, h3, h2]
theorem ers_first {n : Int} (N : Nat) (n0 : 0 ≤ n) (n1 : n < N) (h1 : tlR k m s n ≠ n / d) (h2 : NoErr d k m s n) : ∃ r, ers d k m s N = n :: r := by
  obtain ⟨r, e⟩ := filter_first (er d k m s) n.toNat (by rw [Int.toNat_of_nonneg n0]; unfold er; rw [decide_eq_false h1]; rfl) (fun j hj => by unfold er; rw [decide_eq_true (h2 j (by omega) (by omega))]; rfl) N (by omega)
  rw [Int.toNat_of_nonneg n0] at e
  exact ⟨r, e⟩
/-! ## the law's statements -/
theorem q2_ok (S : Q) (n : Nat) (t : List PyData) (T : Tin n t) (hn : n ≤ 10000000) (ht : S.tin_ = some (.l t)) (i : Int) (hl : S.lap_ = dI i) :
    ∃ w t', q2 S.sl = .ok .nx ({S with tin_ := some (.l t'), w_ := dI w}).sl ∧ 1 ≤ w ∧ w ≤ 64 ∧ Tin (n + 3) t' := by
  by_cases hi : i < 2
  · obtain ⟨v1, t1, e1, a1, b1, T1⟩ := eq_takeS n t 8 T (by omega) (by omega) (by omega)
    exact ⟨1 + v1, t1, by simp -implicitDefEqProofs [Q.sl, q2, ht, hl, e1, hi], by omega, by omega, T1.mono (by omega)⟩
  · obtain ⟨v1, t1, e1, a1, b1, T1⟩ := eq_wide n t T (by omega)
    exact ⟨v1, t1, by simp -implicitDefEqProofs [Q.sl, q2, ht, hl, e1, hi], a1, b1, T1⟩
theorem q3_ok (S : Q) (n : Nat) (t : List PyData) (T : Tin n t) (hn : n ≤ 10000000) (ht : S.tin_ = some (.l t)) (hw : S.w_ = dI w) (w1 : 1 ≤ w) (w2 : w ≤ 64) :
    ∃ d t', q3 S.sl = .ok .nx ({S with tin_ := some (.l t'), d_ := dI d, top_so_ := dI (2 ^ w.toNat - 1)}).sl ∧ 1 ≤ d ∧ d < 2 ^ w.toNat ∧ Tin (n + 7) t' := by
  obtain ⟨d, t1, e1, a1, b1, T1⟩ := eq_divisor n t w T (by omega) w1 w2
  have tw := eq_two w (by omega) (by omega)
  exact ⟨d, t1, by simp -implicitDefEqProofs [Q.sl, q3, ht, hw, e1, tw], a1, b1, T1⟩
theorem q4_ok (S : Q) (n : Nat) (t : List PyData) (T : Tin n t) (hn : n ≤ 10000000) (ht : S.tin_ = some (.l t)) (hw : S.w_ = dI w) (hd : S.d_ = dI d) (w1 : 1 ≤ w) (w2 : w ≤ 64) (d1 : 1 ≤ d) (d2 : d < 2 ^ w.toNat) :
    ∃ k m s t', q4 S.sl = .ok .nx ({S with tin_ := some (.l t'), recipe_so_ := some (.d (rc k m s))}).sl ∧ Rq w d k m s ∧ Tin (n + 4) t' := by
  obtain ⟨k, m, s, t', e, R, T'⟩ := eq_law_recipe n t T (by omega) w1 w2 d1 d2
  exact ⟨k, m, s, t', by simp -implicitDefEqProofs [Q.sl, q4, ht, hw, hd, e], R, T'⟩
theorem q5_ok (S : Q) (n : Nat) (t : List PyData) (T : Tin n t) (hn : n ≤ 10000000) (ht : S.tin_ = some (.l t)) (hd : S.d_ = dI d) (hT : S.top_so_ = dI (2 ^ w.toNat - 1)) (R : Rq w d k m s) :
    ∃ b t', q5 S.sl = .ok .nx ({S with tin_ := some (.l t'), b_ := dI b}).sl ∧ Bd w d b ∧ Tin (n + 4) t' := by
  have p := R.W
  obtain ⟨v1, t1, e1, a1, b1, T1⟩ := eq_takeS n t (2 ^ w.toNat - 1 + 1) T (by omega) (by omega) (by omega)
  obtain ⟨v2, t2, e2, a2, b2, T2⟩ := eq_takeS _ t1 4 T1 (by omega) (by omega) (by omega)
  obtain ⟨v3, t3, e3, a3, b3, T3⟩ := eq_takeS _ t2 2000 T2 (by omega) (by omega) (by omega)
  obtain ⟨x, t4, e4, hx, T4⟩ := eq_of _ t3 [.int v1, .int (d - 2 + v2), .int v3, .int (2 ^ w.toNat - 1)] T3 (by omega) (by simp) (by simp)
  obtain ⟨f, rfl⟩ : ∃ w : Int, x = .int w := by
    simp only [List.mem_cons, List.not_mem_nil, or_false] at hx
    rcases hx with h | h | h | h <;> exact ⟨_, h⟩
  generalize hT' : (2 : Int) ^ w.toNat - 1 = top at *
  generalize hm : min top f = mn
  refine ⟨max 0 mn, t4, ?_, ⟨R.w1, R.w2, R.d1, R.d2, by omega, by omega⟩, T4⟩
  simp -implicitDefEqProofs [Q.sl, q5, ht, hd, hT, e1, e2, e3, e4, hm]
theorem q6_ok (S : Q) (R : Rq w d k m s) (B : Bd w d t) (hd : S.d_ = dI d) (hr : S.recipe_so_ = some (.d (rc k m s))) (hb : S.b_ = dI t) : q6 S.sl = .ok .nx ({S with rows_so_ := some (.d (.tuple ((lkL d t k).map .int)))}).sl := by
  have p := R.W
  have := B.t1; have := R.d2
  have e := eq_law_looks (k := k) (m := m) (s := s) B.d1 (by omega) B.t0 (by omega)
  simp -implicitDefEqProofs [Q.sl, q6, hd, hr, hb, e]
/-- the errors among some words -/
theorem errs_ok (S : Q) (R : Rq w d k m s) (hd : S.d_ = dI d) (hr : S.recipe_so_ = some (.d (rc k m s))) (hn : S.n_ = none) (mi : M (List PyData)) (xs : List Int) (hm : mi S.sl = .ok (xs.map .int) S.sl) (hx : ∀ x ∈ xs, 0 ≤ x ∧ x < 2 ^ w.toNat) (hl : xs.length ≤ 300) :
    mFrz (mLc [19] mi (gN 19) (lift2 oNe (mFrz (mCall φ__law_told (mSeqA [(agD (mVar 6)), (agD (mVar 19))]))) (lift2 oDiv (mVar 19) (mVar 4))) (mVar 19)) S.sl = .ok (.list ((xs.filter (er d k m s)).map .int)) S.sl := by
  have p := R.W
  have := R.m1; have := R.d1; have := R.d2; have := R.w2; have := R.s1
  have dd : divOk d = true := divOk_s (by omega) (by omega)
  have eS : ({S with n_ := none} : Q) = S := by cases S; cases hn; rfl
  have e3 := lc_filter (vs := [19]) (g := gN 19) (t := lift2 oNe (mFrz (mCall φ__law_told (mSeqA [(agD (mVar 6)), (agD (mVar 19))]))) (lift2 oDiv (mVar 19) (mVar 4))) (e := mVar 19) (er d k m s) S.sl xs [] (fun n hn' => by
    have b := hx n hn'
    have v := eq_law_told k (s := s) R.m0 (by omega) R.s0 (by omega) n b.1 (by omega)
    have g : gN 19 (.int n) S.sl = .ok () ({S with n_ := dI n}).sl := rfl
    have wp : wipeS ({S with n_ := dI n} : Q).sl [19] = S.sl := by
      show ({S with n_ := none} : Q).sl = _
      rw [eS]
    have tt : lift2 oNe (mFrz (mCall φ__law_told (mSeqA [(agD (mVar 6)), (agD (mVar 19))]))) (lift2 oDiv (mVar 19) (mVar 4)) ({S with n_ := dI n} : Q).sl = .ok (er d k m s n) ({S with n_ := dI n} : Q).sl := by
      unfold er
      generalize tlR k m s n = T at *
      simp -implicitDefEqProofs [Q.sl, hd, hr, v, dd]
    by_cases h : er d k m s n = true
    · rw [h] at tt
      rw [if_pos h]
      exact ⟨_, lcStep_ok g tt rfl, wp⟩
    · rw [Bool.eq_false_iff.mpr h] at tt
      rw [if_neg h]
      exact ⟨_, lcStep_no g tt, wp⟩) (Nat.le_of_lt (sizeL_lt (by simp; omega)))
  have hno : noOwn [19] S.sl = true := by
    show ((match (some S.n_ : Option (Option C)) with | some (some c) => !c.own | _ => true) && true) = true
    rw [hn]; rfl
  have hw : wipeS S.sl [19] = S.sl := by
    show ({S with n_ := none} : Q).sl = S.sl
    rw [eS]
  have e3' : mLcL [19] (gN 19) (lift2 oNe (mFrz (mCall φ__law_told (mSeqA [(agD (mVar 6)), (agD (mVar 19))]))) (lift2 oDiv (mVar 19) (mVar 4))) (mVar 19) (xs.map .int) [] (wipeS S.sl [19]) = .ok (((xs.filter (er d k m s))).map .int) S.sl := by rw [hw]; exact e3
  have e4 := mLc_ok hm hno e3'
  have er' : restS [19] S.sl S.sl = S.sl := rfl
  rw [er'] at e4
  rw [mFrz_ap, e4, then_ok]; rfl
theorem q7_ok (S : Q) (R : Rq w d k m s) (B : Bd w d t) (hd : S.d_ = dI d) (hr : S.recipe_so_ = some (.d (rc k m s))) (h8 : S.rows_so_ = some (.d (.tuple ((lkL d t k).map .int)))) (hn : S.n_ = none) : q7 S.sl = .ok .nx ({S with fine_so_ := some (.d (.bool (okA d k m s t)))}).sl := by
  have p := R.W
  have l := lk_len (d := d) (t := t) (k := k)
  have e := errs_ok S R hd hr hn (mItems (mVar 8)) (lkL d t k) (by simp -implicitDefEqProofs [Q.sl, h8]) (fun x hx => by have := lk_b B.d1 B.t0 hx; have := B.t1; omega) (by omega)
  have a : ((lkL d t k).filter (er d k m s)).isEmpty = okA d k m s t := by
    apply Bool.eq_iff_iff.mpr
    unfold okA
    rw [List.isEmpty_iff, List.filter_eq_nil_iff, List.all_eq_true]
    constructor
    · intro h x hx
      have := h x hx
      unfold er at this
      cases hc : decide (tlR k m s x = x / d) with
      | true => rfl
      | false => rw [hc] at this; exact absurd rfl this
    · intro h x hx
      have := h x hx
      unfold er
      rw [this]; decide
  have eq := oEq_e ((lkL d t k).filter (er d k m s))
  rw [a] at eq
  have z : ∀ ρ : Sl, mFrz (mLst []) ρ = .ok (.list []) ρ := fun _ => rfl
  rw [q7, sSet_ap, mDat_ap, bD_ap, lift2_ap, e, then_ok, bind_ok (z _), eq]
  rfl
end
end L40

set_option linter.all false
set_option maxRecDepth 100000
set_option exponentiation.threshold 10000
namespace L40
open PySem PySem.Spec L2 DL
section
variable {w d t m s : Int} {k : Bool}
theorem q8_ok (S : Q) (R : Rq w d k m s) (B : Bd w d t) (hw : S.w_ = dI w) (hd : S.d_ = dI d) (hr : S.recipe_so_ = some (.d (rc k m s))) (hb : S.b_ = dI t) : q8 S.sl = .ok .nx ({S with got_ := some (.d (.list [.tuple ((lkL d t k).map .int), .bool (okA d k m s t)]))}).sl := by
  have e1 := eq_looks_to R B.t0 B.t1
  have e2 := eq_is_right_to R B.t0 B.t1
  simp -implicitDefEqProofs [Q.sl, q8, hw, hd, hr, hb, e1, e2]
theorem q10_ok (S : Q) (h8 : S.rows_so_ = some (.d (.tuple ((lkL d t k).map .int)))) (A : Bool) (h9 : S.fine_so_ = some (.d (.bool A))) (hg : S.got_ = some (.d (.list [.tuple ((lkL d t k).map .int), .bool A]))) : q10 S.sl = .ok .nx S.sl := by
  have l := lk_len (d := d) (t := t) (k := k)
  generalize lkL d t k = ls at *
  have sz : ls.length ≤ sizeLine := Nat.le_of_lt (sizeL_lt (by omega))
  have e := eq_same 6 (.list [.tuple (ls.map .int), .bool A]) (by
    show max (dep.depL (ls.map .int) + 1) (max 0 0) + 1 < 6
    rw [dep_ints]; decide) (by
    show (decide (2 ≤ sizeLine) && ((decide ((ls.map PyData.int).length ≤ sizeLine) && plainD.plainL (ls.map .int)) && (true && true))) = true
    rw [plain_ints, List.length_map, decide_eq_true sz]; decide +kernel)
  simp -implicitDefEqProofs [Q.sl, q10, h8, h9, hg, e]
theorem rg0 (S : Q) (hT : S.top_so_ = dI (2 ^ w.toNat - 1)) (h : (2 : Int) ^ w.toNat ≤ 256) : mRng1 (lift2 oAdd (mVar 5) (M.pure (.int 1))) S.sl = .ok ((rgI 0 (2 ^ w.toNat)).map .int) S.sl := by
  have p := one_le_pow w.toNat
  have ep : ((2 ^ w.toNat : Nat) : Int) = 2 ^ w.toNat := by norm_cast
  have r := oRng1_i (j := 2 ^ w.toNat) (by omega) (by omega)
  have en : ((2 : Int) ^ w.toNat).toNat = 2 ^ w.toNat := by rw [← ep]; rfl
  rw [en, intsL_rg] at r
  have ee : (2 : Int) ^ w.toNat - 1 + 1 = 2 ^ w.toNat := by omega
  simp -implicitDefEqProofs [Q.sl, hT, ee, r]
theorem q11_ok (S : Q) (R : Rq w d k m s) (hd : S.d_ = dI d) (hr : S.recipe_so_ = some (.d (rc k m s))) (hn : S.n_ = none) (hT : S.top_so_ = dI (2 ^ w.toNat - 1)) (h : (2 : Int) ^ w.toNat ≤ 256) : q11 S.sl = .ok .nx ({S with errs_so_ := some (.d (.list ((ers d k m s (2 ^ w.toNat)).map .int)))}).sl := by
  have ep : ((2 ^ w.toNat : Nat) : Int) = 2 ^ w.toNat := by norm_cast
  have e := errs_ok S R hd hr hn _ _ (rg0 S hT h) (fun x hx => by have := rgI_mem.mp hx; omega) (by rw [rgI_len]; omega)
  rw [q11, sSet_ap, mDat_ap, e]
  rfl
/-- the errors up to the bound -/
theorem cut_ok (S : Q) (hb : S.b_ = dI t) (hn : S.n_ = none) (xs : List Int) (h11 : S.errs_so_ = some (.d (.list (xs.map .int)))) (hl : xs.length ≤ 300) :
    mFrz (mLc [19] (mItems (mVar 11)) (gN 19) (lift2 oLe (mVar 19) (mVar 7)) (mVar 19)) S.sl = .ok (.list ((xs.filter fun x => decide (x ≤ t)).map .int)) S.sl := by
  have eS : ({S with n_ := none} : Q) = S := by cases S; cases hn; rfl
  have e3 := lc_filter (vs := [19]) (g := gN 19) (t := lift2 oLe (mVar 19) (mVar 7)) (e := mVar 19) (fun x => decide (x ≤ t)) S.sl xs [] (fun n hn' => by
    have g : gN 19 (.int n) S.sl = .ok () ({S with n_ := dI n}).sl := rfl
    have wp : wipeS ({S with n_ := dI n} : Q).sl [19] = S.sl := by
      show ({S with n_ := none} : Q).sl = _
      rw [eS]
    have tt : lift2 oLe (mVar 19) (mVar 7) ({S with n_ := dI n} : Q).sl = .ok (decide (n ≤ t)) ({S with n_ := dI n} : Q).sl := by
      simp -implicitDefEqProofs [Q.sl, hb]
    by_cases h : n ≤ t
    · rw [decide_eq_true h] at tt
      rw [if_pos (decide_eq_true h)]
      exact ⟨_, lcStep_ok g tt rfl, wp⟩
    · rw [decide_eq_false h] at tt
      rw [if_neg (by rw [decide_eq_true_eq]; exact h)]
      exact ⟨_, lcStep_no g tt, wp⟩) (Nat.le_of_lt (sizeL_lt (by simp; omega)))
  have hno : noOwn [19] S.sl = true := by
    show ((match (some S.n_ : Option (Option C)) with | some (some c) => !c.own | _ => true) && true) = true
    rw [hn]; rfl
  have hw : wipeS S.sl [19] = S.sl := by
    show ({S with n_ := none} : Q).sl = S.sl
    rw [eS]
  have e3' : mLcL [19] (gN 19) (lift2 oLe (mVar 19) (mVar 7)) (mVar 19) (xs.map .int) [] (wipeS S.sl [19]) = .ok ((xs.filter fun x => decide (x ≤ t)).map .int) S.sl := by rw [hw]; exact e3
  have hm : mItems (mVar 11) S.sl = .ok (xs.map .int) S.sl := by simp -implicitDefEqProofs [Q.sl, h11]
  have e4 := mLc_ok hm hno e3'
  have er' : restS [19] S.sl S.sl = S.sl := rfl
  rw [er'] at e4
  rw [mFrz_ap, e4, then_ok]; rfl
theorem q13_ok (S : Q) (R : Rq w d k m s) (B : Bd w d t) (hb : S.b_ = dI t) (hn : S.n_ = none) (h9 : S.fine_so_ = some (.d (.bool (okA d k m s t)))) (h : (2 : Int) ^ w.toNat ≤ 256) (h11 : S.errs_so_ = some (.d (.list ((ers d k m s (2 ^ w.toNat)).map .int)))) : q13 S.sl = .ok .nx S.sl := by
  have ep : ((2 ^ w.toNat : Nat) : Int) = 2 ^ w.toNat := by norm_cast
  have l : (ers d k m s (2 ^ w.toNat)).length ≤ 256 := by
    refine Nat.le_trans (List.length_filter_le _ _) ?_
    rw [rgI_len]; omega
  have e := cut_ok S hb hn _ h11 (by omega)
  rw [ers_cut _ t (by have := B.t1; omega)] at e
  have eq := oEq_e (ers d k m s (t + 1).toNat)
  rw [ok_ers R B.t0] at eq
  have z : ∀ ρ : Sl, mFrz (mLst []) ρ = .ok (.list []) ρ := fun _ => rfl
  have b : bD (lift2 oEq (mFrz (mLc [19] (mItems (mVar 11)) (gN 19) (lift2 oLe (mVar 19) (mVar 7)) (mVar 19))) (mFrz (mLst []))) S.sl = .ok (.bool (okA d k m s t)) S.sl := by
    rw [bD_ap, lift2_ap, e, then_ok, bind_ok (z _), eq]
    rfl
  have v : mVar 9 S.sl = .ok (.bool (okA d k m s t)) S.sl := by simp -implicitDefEqProofs [Q.sl, h9]
  rw [q13, sIf_ap, lift2_ap, b, then_ok, bind_ok v]
  cases okA d k m s t <;> rfl
theorem same_pair (x : PyData) (hx : x = .none ∨ ∃ i : Int, x = .int i) (c : Int) : φ__law_same 6 [some (.d (.list [x, .int c])), some (.d (.list [x, .int c]))] = .ok (.d (.bool true)) [some (.d (.list [x, .int c])), some (.d (.list [x, .int c]))] := by
  rcases hx with rfl | ⟨i, rfl⟩
  · exact eq_same 6 _ (by show (1 : Nat) < 6; decide) (by show (decide (2 ≤ sizeLine) && true) = true; decide +kernel)
  · exact eq_same 6 _ (by show (1 : Nat) < 6; decide) (by show (decide (2 ≤ sizeLine) && true) = true; decide +kernel)
theorem q16_ok (S : Q) (R : Rq w d k m s) (B : Bd w d t) (hw : S.w_ = dI w) (hd : S.d_ = dI d) (hr : S.recipe_so_ = some (.d (rc k m s))) (hb : S.b_ = dI t) (hn : S.n_ = none) (h : (2 : Int) ^ w.toNat ≤ 256) (h11 : S.errs_so_ = some (.d (.list ((ers d k m s (2 ^ w.toNat)).map .int)))) (x : PyData) (h12 : S.first_so_ = some (.d x)) (hx : x = .none ∨ ∃ i : Int, x = .int i) (e1 : φ_right_up_to [dI w, dI d, some (.d (rc k m s))] = .ok (.d x) [dI w, dI d, some (.d (rc k m s))]) : q16 S.sl = .ok .nx S.sl := by
  have ep : ((2 ^ w.toNat : Nat) : Int) = 2 ^ w.toNat := by norm_cast
  have l : (ers d k m s (2 ^ w.toNat)).length ≤ 256 := by
    refine Nat.le_trans (List.length_filter_le _ _) ?_
    rw [rgI_len]; omega
  have e := cut_ok S hb hn _ h11 (by omega)
  rw [ers_cut _ t (by have := B.t1; omega)] at e
  have e2 := eq_errs_to R B.t0 B.t1
  have en : t.toNat + 1 = (t + 1).toNat := by have := B.t0; omega
  have ec := ers_len d k m s (t + 1).toNat
  rw [en, ← ec] at e2
  have sp := same_pair x hx ((ers d k m s (t + 1).toNat).length : Int)
  have A : mFrz (mLst [(mFrz (mCall φ_right_up_to (mSeqA [(agD (mVar 3)), (agD (mVar 4)), (agD (mVar 6))]))), (mFrz (mCall φ_errs_to (mSeqA [(agD (mVar 3)), (agD (mVar 4)), (agD (mVar 6)), (agD (mVar 7))])))]) S.sl = .ok (.list [x, .int ((ers d k m s (t + 1).toNat).length : Int)]) S.sl := by
    simp -implicitDefEqProofs [Q.sl, hw, hd, hr, hb, e1, e2]
  have L : lift1 oLen (mFrz (mLc [19] (mItems (mVar 11)) (gN 19) (lift2 oLe (mVar 19) (mVar 7)) (mVar 19))) S.sl = .ok (.int ((ers d k m s (t + 1).toNat).length : Int)) S.sl := by
    rw [lift1_ap, e, then_ok]
    show M.of (some (PyData.int (((ers d k m s (t + 1).toNat).map PyData.int).length : Int))) S.sl = _
    rw [List.length_map]; rfl
  generalize ((ers d k m s (t + 1).toNat).length : Int) = c at *
  have V : mVar 12 S.sl = .ok x S.sl := by simp -implicitDefEqProofs [Q.sl, h12]
  have A2 := lst2_ok V L
  have A3 := call2_ok A A2 sp
  rw [q16, sIf_ap]
  have A4 : (DL.tNot (tTru (mFrz (mCall (φ__law_same 6) (mSeqA [(agD (mFrz (mLst [(mFrz (mCall φ_right_up_to (mSeqA [(agD (mVar 3)), (agD (mVar 4)), (agD (mVar 6))]))), (mFrz (mCall φ_errs_to (mSeqA [(agD (mVar 3)), (agD (mVar 4)), (agD (mVar 6)), (agD (mVar 7))])))]))), (agD (mFrz (mLst [(mVar 12), (lift1 oLen (mFrz (mLc [19] (mItems (mVar 11)) (gN 19) (lift2 oLe (mVar 19) (mVar 7)) (mVar 19))))])))]))))) S.sl = .ok false S.sl := by
    rw [tNot_ap, tTru_ap, A3]; rfl
  rw [A4]; rfl
/-- w ≤ 8: all errors counted -/
theorem q17_ok (S : Q) (R : Rq w d k m s) (B : Bd w d t) (hw : S.w_ = dI w) (hd : S.d_ = dI d) (hT : S.top_so_ = dI (2 ^ w.toNat - 1)) (hr : S.recipe_so_ = some (.d (rc k m s))) (hb : S.b_ = dI t) (hn : S.n_ = none) (h9 : S.fine_so_ = some (.d (.bool (okA d k m s t)))) :
    ∃ o1 o2, q17 S.sl = .ok .nx ({S with errs_so_ := o1, first_so_ := o2}).sl := by
  have := R.w1
  by_cases h8 : w ≤ 8
  · have ep : ((2 ^ w.toNat : Nat) : Int) = 2 ^ w.toNat := by norm_cast
    have h : (2 : Int) ^ w.toNat ≤ 256 := pow_le_pow (m := 8) (by omega)
    have e1 := q11_ok S R hd hr hn hT h
    have e2 := q13_ok ({S with errs_so_ := some (.d (.list ((ers d k m s (2 ^ w.toNat)).map .int)))}) R B hb hn h9 h rfl
    obtain ⟨x, ex, hx⟩ := right_ex R
    have e3 : ∃ xi, (xi = .none ∨ ∃ i : Int, xi = .int i) ∧ xi = x ∧ q14 ({S with errs_so_ := some (.d (.list ((ers d k m s (2 ^ w.toNat)).map .int)))} : Q).sl = .ok .nx ({S with errs_so_ := some (.d (.list ((ers d k m s (2 ^ w.toNat)).map .int))), first_so_ := some (.d xi)} : Q).sl := by
      have n1 := oNe_e (ers d k m s (2 ^ w.toNat))
      have n2 := oEq_e (ers d k m s (2 ^ w.toNat))
      rcases hx with ⟨rfl, hN⟩ | ⟨n, rfl, n0, n1', h1, h2⟩ | ⟨rfl, h1⟩
      · have hE : ers d k m s (2 ^ w.toNat) = [] := (ers_nil _).mpr (fun n a b => hN n a (by omega))
        refine ⟨_, .inr ⟨_, rfl⟩, rfl, ?_⟩
        rw [hE] at n1 n2 ⊢
        rw [List.map_nil] at n1 n2 ⊢
        simp -implicitDefEqProofs [Q.sl, q14, n1, n2, hT]
      · obtain ⟨r, hE⟩ := ers_first (d := d) (k := k) (m := m) (s := s) (2 ^ w.toNat) (by omega : 0 ≤ n) (by omega) h1 h2
        refine ⟨_, .inr ⟨_, rfl⟩, rfl, ?_⟩
        have nz : ¬ n = 0 := by omega
        rw [hE] at n1 n2 ⊢
        rw [List.map_cons] at n1 n2 ⊢
        simp -implicitDefEqProofs [Q.sl, q14, n1, n2, at_0, nz]
      · obtain ⟨r, hE⟩ := ers_first (d := d) (k := k) (m := m) (s := s) (n := 0) (2 ^ w.toNat) (by omega) (by have := R.W; omega) h1 (fun n a b => by omega)
        refine ⟨_, .inl rfl, rfl, ?_⟩
        rw [hE] at n1 n2 ⊢
        rw [List.map_cons] at n1 n2 ⊢
        simp -implicitDefEqProofs [Q.sl, q14, n1, n2, at_0]
    obtain ⟨xi, hxi, rfl, e3⟩ := e3
    have e4 := q16_ok ({S with errs_so_ := some (.d (.list ((ers d k m s (2 ^ w.toNat)).map .int))), first_so_ := some (.d xi)}) R B hw hd hr hb hn h rfl xi rfl hxi ex
    refine ⟨some (.d (.list ((ers d k m s (2 ^ w.toNat)).map .int))), some (.d xi), ?_⟩
    have c : lift2 oLe (mVar 3) (M.pure (.int 8)) S.sl = .ok true S.sl := by simp -implicitDefEqProofs [Q.sl, hw, h8]
    rw [q17, sIf_ap, c, then_ok, if_pos rfl]
    exact (seq_ok e1).trans <| (seq_ok e2).trans <| (seq_ok e3).trans e4
  · refine ⟨S.errs_so_, S.first_so_, ?_⟩
    simp -implicitDefEqProofs [Q.sl, q17, hw, h8]
theorem q18_ok (S : Q) (hw : S.w_ = dI w) (hd : S.d_ = dI d) (hr : S.recipe_so_ = some (.d (rc k m s))) (x : PyData) (e1 : φ_right_up_to [dI w, dI d, some (.d (rc k m s))] = .ok (.d x) [dI w, dI d, some (.d (rc k m s))]) : q18 S.sl = .ok .nx ({S with far_ := some (.d x)}).sl := by
  simp -implicitDefEqProofs [Q.sl, q18, hw, hd, hr, e1]
theorem q20_ok (S : Q) (R : Rq w d k m s) (hw : S.w_ = dI w) (hd : S.d_ = dI d) (hT : S.top_so_ = dI (2 ^ w.toNat - 1)) (hr : S.recipe_so_ = some (.d (rc k m s))) (x : PyData) (hf : S.far_ = some (.d x))
    (hx : (x = .int (2 ^ w.toNat - 1) ∧ NoErr d k m s (2 ^ w.toNat) ∨ (∃ n : Int, x = .int (n - 1) ∧ 0 < n ∧ n < 2 ^ w.toNat ∧ tlR k m s n ≠ n / d ∧ NoErr d k m s n) ∨ x = .none ∧ tlR k m s 0 ≠ 0 / d)) : q20 S.sl = .ok .nx S.sl := by
  have p := R.W
  have := R.m1; have := R.d1; have := R.d2; have := R.w2; have := R.s1
  have dd : divOk d = true := divOk_s (by omega) (by omega)
  rcases hx with ⟨rfl, hN⟩ | ⟨n, rfl, n0, n1, h1, h2⟩ | ⟨rfl, h1⟩
  · have e := eq_is_right_to R (t := 2 ^ w.toNat - 1) (by omega) (by omega)
    rw [(okA_iff R.rc (by omega)).mpr (fun n a b => hN n a (by omega))] at e
    generalize (2 : Int) ^ w.toNat - 1 = top at *
    simp -implicitDefEqProofs [Q.sl, q20, hw, hd, hr, hf, hT, e]
  · have e := eq_is_right_to R (t := n - 1) (by omega) (by omega)
    rw [(okA_iff R.rc (by omega)).mpr (fun j a b => h2 j a (by omega))] at e
    have e2 := eq_is_right_to R (t := n) (by omega) (by omega)
    rw [Bool.eq_false_iff.mpr (fun z => h1 ((okA_iff R.rc (by omega)).mp z n (by omega) (Int.le_refl _)))] at e2
    have v := eq_law_told k (s := s) R.m0 (by omega) R.s0 (by omega) n (by omega) (by omega)
    have en : n - 1 + 1 = n := by omega
    have lt : n - 1 < 2 ^ w.toNat - 1 := by omega
    generalize tlR k m s n = T at *
    generalize n - 1 = f at *
    generalize (2 : Int) ^ w.toNat - 1 = top at *
    simp -implicitDefEqProofs [Q.sl, q20, hw, hd, hr, hf, hT, e, en, e2, v, dd, h1, lt]
  · simp -implicitDefEqProofs [Q.sl, q20, hf]
theorem q21_ok (S : Q) (hr : S.recipe_so_ = some (.d (rc k m s))) : q21 S.sl = .ok .nx ({S with kind_so_ := some (.d (.str (kd k))), s_ := dI s}).sl := by
  simp -implicitDefEqProofs [Q.sl, q21, hr]
theorem q22_ok (S : Q) (B : Bd w d t) (s0 : 0 ≤ s) (s1 : s ≤ 2 * w) (hw : S.w_ = dI w) (hd : S.d_ = dI d) (hk : S.kind_so_ = some (.d (.str (kd k)))) (hs : S.s_ = dI s) (hb : S.b_ = dI t) : q22 S.sl = .ok .nx ({S with own_ := some (.d (rg w d k s t))}).sl := by
  have := B.w2
  have e := eq_law_range B k s0 (by omega)
  simp -implicitDefEqProofs [Q.sl, q22, hw, hd, hk, hs, hb, e]
theorem same_rg : φ__law_same 6 [some (.d (rg w d k s t)), some (.d (rg w d k s t))] = .ok (.d (.bool true)) [some (.d (rg w d k s t)), some (.d (rg w d k s t))] := by
  unfold rg
  by_cases h : rgLo d k s t ≤ rgHi w d k s t
  · rw [if_pos h]
    exact eq_same 6 _ (by show (1 : Nat) < 6; decide) (by show (decide (2 ≤ sizeLine) && true) = true; decide +kernel)
  · rw [if_neg h]
    exact eq_same 6 _ (by show (0 : Nat) < 6; decide) rfl
theorem q24_ok (S : Q) (B : Bd w d t) (s0 : 0 ≤ s) (s1 : s ≤ 2 * w) (hw : S.w_ = dI w) (hd : S.d_ = dI d) (hk : S.kind_so_ = some (.d (.str (kd k)))) (hs : S.s_ = dI s) (hb : S.b_ = dI t) (ho : S.own_ = some (.d (rg w d k s t))) : q24 S.sl = .ok .nx S.sl := by
  have e := eq_times_to B k s0 s1
  have e2 := same_rg (w := w) (d := d) (k := k) (s := s) (t := t)
  simp -implicitDefEqProofs [Q.sl, q24, hw, hd, hk, hs, hb, ho, e, e2]
theorem q26_ok (S : Q) (B : Bd w d t) (s0 : 0 ≤ s) (s1 : s ≤ 2 * w) (hw : S.w_ = dI w) (hd : S.d_ = dI d) (hk : S.kind_so_ = some (.d (.str (kd k)))) (hs : S.s_ = dI s) (hb : S.b_ = dI t) (ho : S.own_ = some (.d (rg w d k s t))) (h : rgLo d k s t ≤ rgHi w d k s t) (x : Int) (hm : S.m_ = dI x) : q26 S.sl = .ok .nx S.sl := by
  have p := B.p
  have := B.w1; have := B.w2
  have tw := eq_two w (by omega) (by omega)
  have k2 : mulOk 2 (2 ^ w.toNat) = true := mulOk_s (by omega) (by omega) (by omega) (by omega)
  have r0 := rg_0 h
  have r1 := rg_1 h
  by_cases h0 : 0 ≤ x
  · by_cases h1 : x < 2 * 2 ^ w.toNat
    · have R : Rq w d k x s := ⟨B.w1, B.w2, B.d1, B.d2, h0, h1, s0, s1⟩
      have e := eq_is_right_to R B.t0 B.t1
      have c1 := okA_iff R.rc B.t0
      have c2 := rg_right B k s h0 (by omega : x ≤ 2 * (2 ^ w.toNat - 1) + 1)
      rw [c2] at c1
      generalize okA d k x s t = A at *
      generalize hX : 2 * (2 : Int) ^ w.toNat = X at *
      unfold rc at e
      by_cases g1 : rgLo d k s t ≤ x
      · by_cases g2 : x ≤ rgHi w d k s t
        · have := c1.mpr ⟨g1, g2⟩
          subst this
          simp -implicitDefEqProofs [Q.sl, q26, hw, hd, hk, hs, hb, ho, hm, h0, h1, tw, k2, hX, e, r0, r1, g1, g2]
        · have := Bool.eq_false_iff.mpr (fun z => g2 (c1.mp z).2)
          subst this
          simp -implicitDefEqProofs [Q.sl, q26, hw, hd, hk, hs, hb, ho, hm, h0, h1, tw, k2, hX, e, r0, r1, g1, g2]
      · have := Bool.eq_false_iff.mpr (fun z => g1 (c1.mp z).1)
        subst this
        simp -implicitDefEqProofs [Q.sl, q26, hw, hd, hk, hs, hb, ho, hm, h0, h1, tw, k2, hX, e, r0, r1, g1]
    · generalize hX : 2 * (2 : Int) ^ w.toNat = X at *
      simp -implicitDefEqProofs [Q.sl, q26, hw, hm, h0, h1, tw, k2, hX]
  · simp -implicitDefEqProofs [Q.sl, q26, hw, hm, h0, tw, k2]
theorem q28_ok (S : Q) (B : Bd w d t) (s0 : 0 ≤ s) (s1 : s ≤ 2 * w) (hw : S.w_ = dI w) (hd : S.d_ = dI d) (hk : S.kind_so_ = some (.d (.str (kd k)))) (hs : S.s_ = dI s) (hb : S.b_ = dI t) (ho : S.own_ = some (.d (rg w d k s t))) : ∃ o, q28 S.sl = .ok .nx ({S with m_ := o}).sl := by
  by_cases h : rgLo d k s t ≤ rgHi w d k s t
  · have r0 := rg_0 h
    have r1 := rg_1 h
    have hi : (mItems (mTup [(lift2 oIx (mVar 16) (M.pure (.int 0))), (lift2 oIx (mVar 16) (M.pure (.int 1))), (lift2 oSub (lift2 oIx (mVar 16) (M.pure (.int 0))) (M.pure (.int 1))), (lift2 oAdd (lift2 oIx (mVar 16) (M.pure (.int 1))) (M.pure (.int 1)))])) S.sl = .ok ([rgLo d k s t, rgHi w d k s t, rgLo d k s t - 1, rgHi w d k s t + 1].map .int) S.sl := by
      simp -implicitDefEqProofs [Q.sl, ho, r0, r1]
    obtain ⟨ρ1, e, o, rfl⟩ := sForL_inv (g := gN 17) (b := q26) (xs := [rgLo d k s t, rgHi w d k s t, rgLo d k s t - 1, rgHi w d k s t + 1].map .int) (ρ := S.sl) (fun _ ρ => ∃ o, ρ = ({S with m_ := o} : Q).sl) ⟨S.m_, rfl⟩ (fun i x ρ hx ⟨o, e⟩ => by
      subst e
      rw [List.getElem?_map] at hx
      cases hg : [rgLo d k s t, rgHi w d k s t, rgLo d k s t - 1, rgHi w d k s t + 1][i]? with
      | none => rw [hg] at hx; cases hx
      | some v =>
        rw [hg] at hx
        cases hx
        have e0 : gN 17 (.int v) ({S with m_ := o} : Q).sl = .ok () ({S with m_ := dI v} : Q).sl := rfl
        exact ⟨_, by rw [bind_ok e0]; exact q26_ok ({S with m_ := dI v}) B s0 s1 hw hd hk hs hb ho h v rfl, _, rfl⟩)
    refine ⟨o, ?_⟩
    have c : lift2 oNotX (mVar 16) (M.pure .none) S.sl = .ok true S.sl := by simp -implicitDefEqProofs [Q.sl, ho, rg_n, h]
    rw [q28, sIf_ap, c, then_ok, if_pos rfl, q27]
    exact sFor_ok hi e
  · refine ⟨S.m_, ?_⟩
    simp -implicitDefEqProofs [Q.sl, q28, ho, rg_n, h]
end
end L40

set_option linter.all false
set_option maxRecDepth 100000
set_option exponentiation.threshold 10000
namespace L40
open PySem PySem.Spec L2 DL
section
variable {w d t m s : Int} {k : Bool}
theorem q29_ok (S : Q) (B : Bd w d t) (hw : S.w_ = dI w) (hd : S.d_ = dI d) (hk : S.kind_so_ = some (.d (.str (kd k)))) (hb : S.b_ = dI t) (hn : S.k_ = none) {s0 : Nat} (F : Fs w d t k s0) :
    ∃ r : List PyData, q29 S.sl = .ok .nx ({S with shifts_so_ := some (.d (.list (.int s0 :: r)))}).sl ∧ SeqAt.shaped (.list (.int s0 :: r)) = true := by
  have := B.w1; have := B.w2; have f1 := F.s1
  have eS : ({S with k_ := none} : Q) = S := by cases S; cases hn; rfl
  have e3 := lc_filter (vs := [20]) (g := gN 20) (t := lift2 oNotX (mFrz (mCall φ__law_range (mSeqA [(agD (mVar 3)), (agD (mVar 4)), (agD (mVar 14)), (agD (mVar 20)), (agD (mVar 7))]))) (M.pure .none)) (e := mVar 20) (fun n => decide (rgLo d k n t ≤ rgHi w d k n t)) S.sl (rgI 0 (2 * w + 1).toNat) [] (fun n hn' => by
    have b := rgI_mem.mp hn'
    have v := eq_law_range B k (s := n) b.1 (by omega)
    have g : gN 20 (.int n) S.sl = .ok () ({S with k_ := dI n}).sl := rfl
    have wp : wipeS ({S with k_ := dI n} : Q).sl [20] = S.sl := by
      show ({S with k_ := none} : Q).sl = _
      rw [eS]
    by_cases h : rgLo d k n t ≤ rgHi w d k n t
    · rw [if_pos (by rw [decide_eq_true_eq]; exact h)]
      exact ⟨({S with k_ := dI n} : Q).sl, lcStep_ok g (ρ2 := ({S with k_ := dI n} : Q).sl) (by simp -implicitDefEqProofs [Q.sl, hw, hd, hk, hb, v, rg_n, h]) rfl, wp⟩
    · rw [if_neg (by rw [decide_eq_true_eq]; exact h)]
      exact ⟨({S with k_ := dI n} : Q).sl, lcStep_no g (ρ2 := ({S with k_ := dI n} : Q).sl) (by simp -implicitDefEqProofs [Q.sl, hw, hd, hk, hb, v, rg_n, h]), wp⟩) (by rw [rgI_len]; exact Nat.le_of_lt (sizeL_lt (by simp; omega)))
  rw [← intsL_rg] at e3
  obtain ⟨r, er⟩ := filter_first (fun n => decide (rgLo d k n t ≤ rgHi w d k n t)) s0 (by rw [decide_eq_true_eq]; exact F.yes) (fun j hj => by rw [decide_eq_false_iff_not]; exact F.no j hj) (2 * w + 1).toNat (by omega)
  rw [er] at e3
  have hno : noOwn [20] S.sl = true := by
    show ((match (some S.k_ : Option (Option C)) with | some (some c) => !c.own | _ => true) && true) = true
    rw [hn]; rfl
  have hwp : wipeS S.sl [20] = S.sl := by
    show ({S with k_ := none} : Q).sl = S.sl
    rw [eS]
  have e3' : mLcL [20] (gN 20) (lift2 oNotX (mFrz (mCall φ__law_range (mSeqA [(agD (mVar 3)), (agD (mVar 4)), (agD (mVar 14)), (agD (mVar 20)), (agD (mVar 7))]))) (M.pure .none)) (mVar 20) (intsL 0 (2 * w + 1).toNat) [] (wipeS S.sl [20]) = .ok (((s0 : Int) :: r).map .int) S.sl := by rw [hwp]; exact e3
  have hr : (mRng1 (lift2 oAdd (lift2 oMul (M.pure (.int 2)) (mVar 3)) (M.pure (.int 1)))) S.sl = .ok (intsL 0 (2 * w + 1).toNat) S.sl := by
    have k1 : mulOk 2 w = true := mulOk_s (by omega) (by omega) (by omega) (by omega)
    have r := oRng1_i (j := 2 * w + 1) (by omega) (by omega)
    simp -implicitDefEqProofs [Q.sl, hw, k1, r]
  have e4 := mLc_ok hr hno e3'
  have er' : restS [20] S.sl S.sl = S.sl := rfl
  rw [er'] at e4
  refine ⟨r.map .int, ?_, shaped_l ((s0 : Int) :: r)⟩
  rw [q29, sSet_ap, mDat_ap, mFrz_ap, e4]
  rfl
theorem q31_ok (S : Q) (x : PyData) (r : List PyData) (h : S.shifts_so_ = some (.d (.list (x :: r)))) (hs : SeqAt.shaped (.list (x :: r)) = true) : q31 S.sl = .ok .nx S.sl := by
  have e := oEq_ln hs
  simp -implicitDefEqProofs [Q.sl, q31, h, e]
theorem q32_ok (S : Q) (B : Bd w d t) (hw : S.w_ = dI w) (hd : S.d_ = dI d) (hk : S.kind_so_ = some (.d (.str (kd k)))) (hb : S.b_ = dI t) {s0 s1 : Nat} (F : Fs w d t k s0) (F' : Fs w d (2 ^ w.toNat - 1) k s1) : q32 S.sl = .ok .nx ({S with got_ := some (.d (.list [rc k (rgLo d k s0 t) s0, .int ((s1 : Int) - s0)]))}).sl := by
  have e1 := eq_recipe_to B k F
  have e2 := eq_shift_saved B k F F'
  generalize ((s1 : Int) - s0) = D at *
  simp -implicitDefEqProofs [Q.sl, q32, hw, hd, hk, hb, e1, e2]
theorem q34_ok (S : Q) (B : Bd w d t) (hw : S.w_ = dI w) (hd : S.d_ = dI d) (hk : S.kind_so_ = some (.d (.str (kd k)))) (hb : S.b_ = dI t) {s0 s1 : Nat} (F : Fs w d t k s0) (F' : Fs w d (2 ^ w.toNat - 1) k s1) (r : List PyData) (hs : S.shifts_so_ = some (.d (.list (.int s0 :: r)))) (hg : S.got_ = some (.d (.list [rc k (rgLo d k s0 t) s0, .int ((s1 : Int) - s0)]))) : q34 S.sl = .ok .nx S.sl := by
  have := B.w2; have := F.s1
  have e1 := eq_law_range B k (s := (s0 : Int)) (by omega) (by omega)
  have e2 := eq_least_shift B k F'
  have r0 := rg_0 F.yes
  have sm := eq_same 6 (.list [rc k (rgLo d k s0 t) s0, .int ((s1 : Int) - s0)]) (by show (2 : Nat) < 6; decide) (by show (decide (2 ≤ sizeLine) && ((decide (3 ≤ sizeLine) && true) && true)) = true; decide +kernel)
  have a0 := at_0 (.int s0) r
  generalize hD : ((s1 : Int) - s0) = D at *
  generalize rgLo d k s0 t = lo at *
  unfold rc at *
  simp -implicitDefEqProofs [Q.sl, q34, hw, hd, hk, hb, hs, hg, e1, e2, r0, a0, hD, sm]
theorem q36_ok (S : Q) (B : Bd w d t) (hw : S.w_ = dI w) (hd : S.d_ = dI d) (hT : S.top_so_ = dI (2 ^ w.toNat - 1)) (hk : S.kind_so_ = some (.d (.str (kd k)))) (hb : S.b_ = dI t) {s0 s1 : Nat} (F : Fs w d t k s0) (F' : Fs w d (2 ^ w.toNat - 1) k s1) : q36 S.sl = .ok .nx S.sl := by
  have e1 := eq_shift_saved B.tp k F' F'
  have e2 := eq_shift_saved B k F F'
  have ez : (s1 : Int) - s1 = 0 := by omega
  have le := fs_le B F F'
  have nn : ¬ ((s1 : Int) - s0 < 0) := by omega
  rw [ez] at e1
  generalize ((s1 : Int) - s0) = D at *
  generalize (2 : Int) ^ w.toNat - 1 = top at *
  simp -implicitDefEqProofs [Q.sl, q36, hw, hd, hk, hb, hT, e1, e2, nn]
end
theorem lap_ok (S : Q) (n : Nat) (t : List PyData) (T : Tin n t) (hn : n ≤ 100000) (ht : S.tin_ = some (.l t)) (i : Int) (hi : S.lap_ = dI i) (hN : S.n_ = none) (hK : S.k_ = none) :
    ∃ (S' : Q) (t' : List PyData), (sSeq q2 (sSeq q3 (sSeq q4 (sSeq q5 (sSeq q6 (sSeq q7 (sSeq q8 (sSeq q10 (sSeq q17 (sSeq q18 (sSeq q20 (sSeq q21 (sSeq q22 (sSeq q24 (sSeq q28 (sSeq q29 (sSeq q31 (sSeq q32 (sSeq q34 q36))))))))))))))))))) S.sl = .ok .nx S'.sl ∧ S'.tin_ = some (.l t') ∧ S'.script_ = S.script_ ∧ S'.n_ = none ∧ S'.k_ = none ∧ Tin (n + 18) t' := by
  obtain ⟨w, t1, e2, w1, w2, T1⟩ := q2_ok S n t T (by omega) ht i hi
  generalize hS1 : ({S with tin_ := some (.l t1), w_ := dI w} : Q) = S1 at *
  obtain ⟨d, t2, e3, d1, d2, T2⟩ := q3_ok S1 _ t1 T1 (by omega) (by rw [← hS1]) (by rw [← hS1]) w1 w2
  obtain ⟨k, m, s, t3, e4, R, T3⟩ := q4_ok {S1 with tin_ := some (.l t2), d_ := dI d, top_so_ := dI (2 ^ w.toNat - 1)} _ t2 T2 (by omega) rfl (by rw [← hS1]) rfl w1 w2 d1 d2
  obtain ⟨b, t4, e5, B, T4⟩ := q5_ok {S1 with tin_ := some (.l t3), d_ := dI d, top_so_ := dI (2 ^ w.toNat - 1), recipe_so_ := some (.d (rc k m s))} _ t3 T3 (by omega) rfl rfl rfl R
  generalize hS2 : ({S1 with tin_ := some (.l t4), d_ := dI d, top_so_ := dI (2 ^ w.toNat - 1), recipe_so_ := some (.d (rc k m s)), b_ := dI b} : Q) = S2 at *
  have aw : S2.w_ = dI w := by rw [← hS2, ← hS1]
  have ad : S2.d_ = dI d := by rw [← hS2]
  have aT : S2.top_so_ = dI (2 ^ w.toNat - 1) := by rw [← hS2]
  have ar : S2.recipe_so_ = some (.d (rc k m s)) := by rw [← hS2]
  have ab : S2.b_ = dI b := by rw [← hS2]
  have an : S2.n_ = none := by rw [← hS2, ← hS1]; exact hN
  have ak : S2.k_ = none := by rw [← hS2, ← hS1]; exact hK
  have e6 := q6_ok S2 R B ad ar ab
  have e7 := q7_ok {S2 with rows_so_ := some (.d (.tuple ((lkL d b k).map .int)))} R B ad ar rfl an
  have e8 := q8_ok {S2 with rows_so_ := some (.d (.tuple ((lkL d b k).map .int))), fine_so_ := some (.d (.bool (okA d k m s b)))} R B aw ad ar ab
  generalize hS3 : ({S2 with rows_so_ := some (.d (.tuple ((lkL d b k).map .int))), fine_so_ := some (.d (.bool (okA d k m s b))), got_ := some (.d (.list [.tuple ((lkL d b k).map .int), .bool (okA d k m s b)]))} : Q) = S3 at *
  have e10 := q10_ok (d := d) (t := b) (k := k) S3 (by rw [← hS3]) (okA d k m s b) (by rw [← hS3]) (by rw [← hS3])
  have bw : S3.w_ = dI w := by rw [← hS3]; exact aw
  have bd : S3.d_ = dI d := by rw [← hS3]; exact ad
  have bT : S3.top_so_ = dI (2 ^ w.toNat - 1) := by rw [← hS3]; exact aT
  have br : S3.recipe_so_ = some (.d (rc k m s)) := by rw [← hS3]; exact ar
  have bb : S3.b_ = dI b := by rw [← hS3]; exact ab
  have bn : S3.n_ = none := by rw [← hS3]; exact an
  have bk : S3.k_ = none := by rw [← hS3]; exact ak
  obtain ⟨o1, o2, e17⟩ := q17_ok S3 R B bw bd bT br bb bn (by rw [← hS3])
  obtain ⟨x, ex, hx⟩ := right_ex R
  have e18 := q18_ok {S3 with errs_so_ := o1, first_so_ := o2} bw bd br x ex
  have e20 := q20_ok {S3 with errs_so_ := o1, first_so_ := o2, far_ := some (.d x)} R bw bd bT br x rfl hx
  have e21 := q21_ok (k := k) (m := m) (s := s) {S3 with errs_so_ := o1, first_so_ := o2, far_ := some (.d x)} br
  have e22 := q22_ok (k := k) {S3 with errs_so_ := o1, first_so_ := o2, far_ := some (.d x), kind_so_ := some (.d (.str (kd k))), s_ := dI s} B R.s0 R.s1 bw bd rfl rfl bb
  generalize hS4 : ({S3 with errs_so_ := o1, first_so_ := o2, far_ := some (.d x), kind_so_ := some (.d (.str (kd k))), s_ := dI s, own_ := some (.d (rg w d k s b))} : Q) = S4 at *
  have cw : S4.w_ = dI w := by rw [← hS4]; exact bw
  have cd : S4.d_ = dI d := by rw [← hS4]; exact bd
  have cT : S4.top_so_ = dI (2 ^ w.toNat - 1) := by rw [← hS4]; exact bT
  have ck : S4.kind_so_ = some (.d (.str (kd k))) := by rw [← hS4]
  have cs : S4.s_ = dI s := by rw [← hS4]
  have cb : S4.b_ = dI b := by rw [← hS4]; exact bb
  have co : S4.own_ = some (.d (rg w d k s b)) := by rw [← hS4]
  have cK : S4.k_ = none := by rw [← hS4]; exact bk
  have cN : S4.n_ = none := by rw [← hS4]; exact bn
  have ctin : S4.tin_ = some (.l t4) := by rw [← hS4, ← hS3, ← hS2]
  have csc : S4.script_ = S.script_ := by rw [← hS4, ← hS3, ← hS2, ← hS1]
  have e24 := q24_ok S4 B R.s0 R.s1 cw cd ck cs cb co
  obtain ⟨o3, e28⟩ := q28_ok S4 B R.s0 R.s1 cw cd ck cs cb co
  obtain ⟨s0, F⟩ := fs_ex B k
  obtain ⟨s1, F'⟩ := fs_ex B.tp k
  obtain ⟨r, e29, hsh⟩ := q29_ok {S4 with m_ := o3} B cw cd ck cb cK F
  have e31 := q31_ok {S4 with m_ := o3, shifts_so_ := some (.d (.list (.int s0 :: r)))} (.int s0) r rfl hsh
  have e32 := q32_ok {S4 with m_ := o3, shifts_so_ := some (.d (.list (.int s0 :: r)))} B cw cd ck cb F F'
  have e34 := q34_ok {S4 with m_ := o3, shifts_so_ := some (.d (.list (.int s0 :: r))), got_ := some (.d (.list [rc k (rgLo d k s0 b) s0, .int ((s1 : Int) - s0)]))} B cw cd ck cb F F' r rfl rfl
  have e36 := q36_ok {S4 with m_ := o3, shifts_so_ := some (.d (.list (.int s0 :: r))), got_ := some (.d (.list [rc k (rgLo d k s0 b) s0, .int ((s1 : Int) - s0)]))} B cw cd cT ck cb F F'
  have E := (seq_ok e2).trans <| (seq_ok e3).trans <| (seq_ok e4).trans <| (seq_ok e5).trans <| (seq_ok e6).trans <| (seq_ok e7).trans <| (seq_ok e8).trans <| (seq_ok e10).trans <| (seq_ok e17).trans <| (seq_ok e18).trans <| (seq_ok e20).trans <| (seq_ok e21).trans <| (seq_ok e22).trans <| (seq_ok e24).trans <| (seq_ok e28).trans <| (seq_ok e29).trans <| (seq_ok e31).trans <| (seq_ok e32).trans <| (seq_ok e34).trans e36
  exact ⟨_, t4, E, ctin, csc, cN, cK, T4⟩
theorem good (ns : List Int) (hl : ns.length ≤ 63) (hb : ∀ z ∈ ns, Builtin.Int.intBits z ≤ 1048576) : Good φ_law ns := by
  obtain ⟨ys, e1, y1, y2, y3⟩ := eq_cells ns 1 (by decide) (by decide) hl hb
  obtain ⟨t, e2, T⟩ := eq_box ys 0 (by decide) (by decide) y3
  have E1 : q1 ({script_ := some (.d (.list (ns.map .int)))} : Q).sl = .ok .nx ({script_ := some (.d (.list (ns.map .int))), tin_ := some (.l t)} : Q).sl := by
    simp -implicitDefEqProofs [Q.sl, q1, e1, e2]
  let I : Nat → Sl → Prop := fun i ρ => ∃ (S : Q) (t : List PyData), ρ = S.sl ∧ S.tin_ = some (.l t) ∧ S.script_ = some (.d (.list (ns.map .int))) ∧ S.n_ = none ∧ S.k_ = none ∧ Tin (0 + i * 18) t ∧ i ≤ 4
  have stp : ∀ i d ρ, (intsL 0 (4 : Int).toNat)[i]? = some d → I i ρ → ∃ ρ', M.bind (gN 2 d) (fun _ => (sSeq q2 (sSeq q3 (sSeq q4 (sSeq q5 (sSeq q6 (sSeq q7 (sSeq q8 (sSeq q10 (sSeq q17 (sSeq q18 (sSeq q20 (sSeq q21 (sSeq q22 (sSeq q24 (sSeq q28 (sSeq q29 (sSeq q31 (sSeq q32 (sSeq q34 q36)))))))))))))))))))) ρ = .ok .nx ρ' ∧ I (i + 1) ρ' := by
    rintro i d ρ hd ⟨S, t', rfl, ht, hsc, hN, hK, T', hi⟩
    obtain ⟨hi2, rfl⟩ := intsL_at hd
    have e0 : gN 2 (.int (0 + i)) S.sl = .ok () ({S with lap_ := dI (0 + i)}).sl := rfl
    obtain ⟨S', t2, e, h1, h2, h3, h4, T2⟩ := lap_ok {S with lap_ := dI (0 + i)} _ t' T' (by omega) ht (0 + i) rfl hN hK
    exact ⟨_, by rw [bind_ok e0, e], S', t2, rfl, h1, by rw [h2]; exact hsc, h3, h4, T2.mono (by omega), by have : (4 : Int).toNat = 4 := rfl; omega⟩
  obtain ⟨ρ1, e3, S1, t1, rfl, _, hsc, _⟩ := sForL_inv (ρ := ({script_ := some (.d (.list (ns.map .int))), tin_ := some (.l t)} : Q).sl) I ⟨_, t, rfl, rfl, rfl, rfl, rfl, T, by decide⟩ stp
  have r4 : oRng1 (.int 4) = some (intsL 0 (4 : Int).toNat) := oRng1_i (by decide) (by decide)
  have E2 : q37 ({script_ := some (.d (.list (ns.map .int))), tin_ := some (.l t)} : Q).sl = .ok .nx S1.sl := by
    rw [q37, sFor_ap, mRng1_ap, pure_ap, then_ok, r4, of_some, then_ok, e3]
  have E4 : q38 S1.sl = .ok (.rt (.d (.bool true))) S1.sl := rfl
  have E3 : φ_law [some (.d (.list (ns.map .int)))] = .ok (.d (.bool true)) (finSl 1 [0] [some (.d (.list (ns.map .int)))] S1.sl) := by
    rw [φ_law, run_ap _ _ _ _ _ (by rfl), m_law]
    show runR 1 [0] _ (sSeq q1 _ ({script_ := some (.d (.list (ns.map .int)))} : Q).sl) = _
    rw [seq_ok E1, seq_ok E2, E4]
    rfl
  unfold Good
  rw [E3]
  rfl
end L40

set_option Elab.async false
set_option linter.all false
set_option maxRecDepth 100000
set_option maxHeartbeats 0
namespace L40
open PySem PySem.Spec PyProof.Rows L2 DL
def top (i : Nat) : Stmt := PySem.Challenge.pw_dividedbytimes_k40_main_words_up_to_a_bo.main.body.getD i (.Pass ⟨0, 0, 0, 0⟩)
/-- what the top has left -/
structure G (K : Kx) : Prop where
  d_is_number : DefK K "is_number" (defArgs (top 3)) (defBody (top 3)) (defScope (top 3))
  d_is_within : DefK K "is_within" (defArgs (top 4)) (defBody (top 4)) (defScope (top 4))
  d_is_long : DefK K "is_long" (defArgs (top 5)) (defBody (top 5)) (defScope (top 5))
  d_tupled : DefK K "tupled" (defArgs (top 6)) (defBody (top 6)) (defScope (top 6))
  d_sure_within : DefK K "sure_within" (defArgs (top 7)) (defBody (top 7)) (defScope (top 7))
  d_sure_width : DefK K "sure_width" (defArgs (top 10)) (defBody (top 10)) (defScope (top 10))
  d_top_in : DefK K "top_in" (defArgs (top 11)) (defBody (top 11)) (defScope (top 11))
  d_sure_word : DefK K "sure_word" (defArgs (top 12)) (defBody (top 12)) (defScope (top 12))
  d_sure_divisor : DefK K "sure_divisor" (defArgs (top 13)) (defBody (top 13)) (defScope (top 13))
  d_upper : DefK K "upper" (defArgs (top 14)) (defBody (top 14)) (defScope (top 14))
  d_is_recipe_in : DefK K "is_recipe_in" (defArgs (top 17)) (defBody (top 17)) (defScope (top 17))
  d_sure_recipe : DefK K "sure_recipe" (defArgs (top 18)) (defBody (top 18)) (defScope (top 18))
  d_sure_kind : DefK K "sure_kind" (defArgs (top 19)) (defBody (top 19)) (defScope (top 19))
  d_sure_three : DefK K "sure_three" (defArgs (top 20)) (defBody (top 20)) (defScope (top 20))
  d_value_of : DefK K "value_of" (defArgs (top 21)) (defBody (top 21)) (defScope (top 21))
  d_excess_in : DefK K "excess_in" (defArgs (top 22)) (defBody (top 22)) (defScope (top 22))
  d_floor_sum : DefK K "floor_sum" (defArgs (top 24)) (defBody (top 24)) (defScope (top 24))
  d_more_of : DefK K "more_of" (defArgs (top 25)) (defBody (top 25)) (defScope (top 25))
  d_late_count : DefK K "late_count" (defArgs (top 26)) (defBody (top 26)) (defScope (top 26))
  d_early_count : DefK K "early_count" (defArgs (top 27)) (defBody (top 27)) (defScope (top 27))
  d_piece_in : DefK K "piece_in" (defArgs (top 28)) (defBody (top 28)) (defScope (top 28))
  d_first_place : DefK K "first_place" (defArgs (top 29)) (defBody (top 29)) (defScope (top 29))
  d_full_count : DefK K "full_count" (defArgs (top 30)) (defBody (top 30)) (defScope (top 30))
  d_first_in : DefK K "first_in" (defArgs (top 31)) (defBody (top 31)) (defScope (top 31))
  d_looks_to_in : DefK K "looks_to_in" (defArgs (top 33)) (defBody (top 33)) (defScope (top 33))
  d_right_to_in : DefK K "right_to_in" (defArgs (top 34)) (defBody (top 34)) (defScope (top 34))
  d_times_to_in : DefK K "times_to_in" (defArgs (top 35)) (defBody (top 35)) (defScope (top 35))
  d_recipe_to_in : DefK K "recipe_to_in" (defArgs (top 36)) (defBody (top 36)) (defScope (top 36))
  d_sure_bound : DefK K "sure_bound" (defArgs (top 37)) (defBody (top 37)) (defScope (top 37))
  d_looks_to : DefK K "looks_to" (defArgs (top 38)) (defBody (top 38)) (defScope (top 38))
  d_is_right_to : DefK K "is_right_to" (defArgs (top 39)) (defBody (top 39)) (defScope (top 39))
  d_right_up_to : DefK K "right_up_to" (defArgs (top 40)) (defBody (top 40)) (defScope (top 40))
  d_errs_to : DefK K "errs_to" (defArgs (top 41)) (defBody (top 41)) (defScope (top 41))
  d_times_to : DefK K "times_to" (defArgs (top 42)) (defBody (top 42)) (defScope (top 42))
  d_recipe_to : DefK K "recipe_to" (defArgs (top 43)) (defBody (top 43)) (defScope (top 43))
  d_shift_saved : DefK K "shift_saved" (defArgs (top 44)) (defBody (top 44)) (defScope (top 44))
  d_times_in : DefK K "times_in" (defArgs (top 46)) (defBody (top 46)) (defScope (top 46))
  d_shift_in : DefK K "shift_in" (defArgs (top 47)) (defBody (top 47)) (defScope (top 47))
  d_least_shift : DefK K "least_shift" (defArgs (top 48)) (defBody (top 48)) (defScope (top 48))
  d__law_box : DefK K "_law_box" (defArgs (top 50)) (defBody (top 50)) (defScope (top 50))
  d__law_take : DefK K "_law_take" (defArgs (top 51)) (defBody (top 51)) (defScope (top 51))
  d__law_cells : DefK K "_law_cells" (defArgs (top 52)) (defBody (top 52)) (defScope (top 52))
  d__law_of : DefK K "_law_of" (defArgs (top 53)) (defBody (top 53)) (defScope (top 53))
  d__law_same : DefK K "_law_same" (defArgs (top 54)) (defBody (top 54)) (defScope (top 54))
  d__law_two : DefK K "_law_two" (defArgs (top 55)) (defBody (top 55)) (defScope (top 55))
  d__law_wide : DefK K "_law_wide" (defArgs (top 56)) (defBody (top 56)) (defScope (top 56))
  d__law_divisor : DefK K "_law_divisor" (defArgs (top 57)) (defBody (top 57)) (defScope (top 57))
  d__law_told : DefK K "_law_told" (defArgs (top 58)) (defBody (top 58)) (defScope (top 58))
  d__law_upper : DefK K "_law_upper" (defArgs (top 59)) (defBody (top 59)) (defScope (top 59))
  d__law_run : DefK K "_law_run" (defArgs (top 60)) (defBody (top 60)) (defScope (top 60))
  d__law_recipe : DefK K "_law_recipe" (defArgs (top 61)) (defBody (top 61)) (defScope (top 61))
  d__law_looks : DefK K "_law_looks" (defArgs (top 62)) (defBody (top 62)) (defScope (top 62))
  d__law_range : DefK K "_law_range" (defArgs (top 63)) (defBody (top 63)) (defScope (top 63))
  d_law : DefK K "law" (defArgs (top 64)) (defBody (top 64)) (defScope (top 64))
  b_ValueError : K.mg "ValueError" = none
  b_abs : K.mg "abs" = none
  b_all : K.mg "all" = none
  b_bool : K.mg "bool" = none
  b_dict : K.mg "dict" = none
  b_enumerate : K.mg "enumerate" = none
  b_int : K.mg "int" = none
  b_isinstance : K.mg "isinstance" = none
  b_len : K.mg "len" = none
  b_list : K.mg "list" = none
  b_max : K.mg "max" = none
  b_min : K.mg "min" = none
  b_range : K.mg "range" = none
  b_set : K.mg "set" = none
  b_sorted : K.mg "sorted" = none
  b_str : K.mg "str" = none
  b_tuple : K.mg "tuple" = none
  b_zip : K.mg "zip" = none
  c_MOST_WIDTH : ∃ t, K.mg "MOST_WIDTH" = some (.int 64 t)
  k_KINDS : DatK K "KINDS" L40.k_KINDS
  x_Unfit : ExF K "Unfit" (He.ga K.fr "Unfit")
/-- how the program's exceptions stand -/
def erK (K : Kx) : ERx := fun e cv dd _ => match e with
  | .unfit => cv = .ref (He.ga K.fr "Unfit") ∧ dd = none
  | _ => False
variable {P : Program} {w : World} {K : Kx} {base : Heap}
theorem sc__law_box : FnScope ["script", "k", "bit_so"] ["script", "k"] (defScope (top 50)) := ⟨rfl, rfl, rfl, by decide +kernel, rfl, by decide +kernel, by decide +kernel⟩
theorem k__law_box (g : G K) : Kn P w K base 1 (erK K) "_law_box" ["script", "k"] φ__law_box := by
  show Kn P w K base (0 + 1) _ _ _ (run 2 3 [0, 1] m__law_box)
  refine kn_of g.d__law_box sc__law_box (fun _ _ _ _ _ _ us hl => match us, hl with | [_, _], _ => rfl) fun f cdv A outer s H E hr => ?_
  exact (dss_cons (ds_set sc__law_box.nd rfl (Or.inl rfl) rfl (do_d (de_if (dt_cm cm_lt (de_varP (pv 1 rfl (Or.inl rfl))) (bi_len rfl g.b_len (de_varP (pv 0 rfl (Or.inl rfl)))) rfl) (de_ix (de_varP (pv 0 rfl (Or.inl rfl))) (de_varP (pv 1 rfl (Or.inl rfl))) fun _ _ => rfl) de_int)) rfl (Or.inr rfl)) (dss_one (ds_ret (do_lst (da_cons (de_mul (bi_abs rfl g.b_abs (de_varP (pv 2 rfl (Or.inl rfl)))) (bi_int rfl g.b_int (de_cm cm_ge (bi_abs rfl g.b_abs (de_varP (pv 2 rfl (Or.inl rfl)))) (de_pow de_int de_int) rfl))) (da_cons (de_add (de_add (de_mod (bi_int rfl g.b_int (de_varP (pv 2 rfl (Or.inl rfl)))) de_int) (de_mul de_int (de_varP (pv 1 rfl (Or.inl rfl))))) de_int) (da_cons de_int da_nil)))))))
theorem sc__law_cells : FnScope ["script", "most_so", "cells_so", "k", "bit_so", "at_so"] ["script", "most_so"] (defScope (top 52)) := ⟨rfl, rfl, rfl, by decide +kernel, rfl, by decide +kernel, by decide +kernel⟩
theorem k__law_cells (g : G K) : Kn P w K base 1 (erK K) "_law_cells" ["script", "most_so"] φ__law_cells := by
  show Kn P w K base (0 + 1) _ _ _ (run 2 6 [0, 1] m__law_cells)
  refine kn_of g.d__law_cells sc__law_cells (fun _ _ _ _ _ _ us hl => match us, hl with | [_, _], _ => rfl) fun f cdv A outer s H E hr => ?_
  exact (dss_cons (ds_set sc__law_cells.nd rfl (Or.inl rfl) rfl (do_orC (bi_list rfl g.b_list (de_frz (do_slice (de_varP (pv 0 rfl (Or.inl rfl))) dpo_none (dpo_some (de_varP (pv 1 rfl (Or.inl rfl))))))) (do_one (do_lst (da_cons de_int da_nil)))) rfl (Or.inr rfl)) (dss_cons (ds_for (passes_of rfl) rfl (di_enum rfl g.b_enumerate (de_frz (do_slice (de_varP (pv 0 rfl (Or.inl rfl))) (dpo_some (de_varP (pv 1 rfl (Or.inl rfl)))) (dpo_some de_int)))) (dg_t rfl (dgs_cons (dg_n sc__law_cells.nd rfl (Or.inl rfl) rfl (Or.inr rfl)) (dgs_cons (dg_n sc__law_cells.nd rfl (Or.inl rfl) rfl (Or.inr rfl)) dgs_nil))) (dss_cons (ds_set sc__law_cells.nd rfl (Or.inl rfl) rfl (do_d (de_mod (bi_int rfl g.b_int (de_varP (pv 3 rfl (Or.inl rfl)))) (de_varP (pv 1 rfl (Or.inl rfl))))) rfl (Or.inr rfl)) (dss_one (ds_setIx (pv 2 rfl (Or.inl rfl)) (de_varP (pv 5 rfl (Or.inl rfl))) (de_add (de_ixV (pv 2 rfl (Or.inl rfl)) (de_varP (pv 5 rfl (Or.inl rfl))) fun _ _ => rfl) (de_mul (de_varP (pv 4 rfl (Or.inl rfl))) (de_add (de_varP (pv 3 rfl (Or.inl rfl))) de_int))))))) (dss_one (ds_ret (do_varMP rfl (pv 2 rfl (Or.inl rfl)))))))
theorem sc__law_take : FnScope ["tin", "below_so", "drawn_so", "once_so", "wide_so", "twice_so"] ["tin", "below_so"] (defScope (top 51)) := ⟨rfl, rfl, rfl, by decide +kernel, rfl, by decide +kernel, by decide +kernel⟩
theorem k__law_take (g : G K) : Kn P w K base 1 (erK K) "_law_take" ["tin", "below_so"] φ__law_take := by
  show Kn P w K base (0 + 1) _ _ _ (run 2 6 [0, 1] m__law_take)
  refine kn_of g.d__law_take sc__law_take (fun _ _ _ _ _ _ us hl => match us, hl with | [_, _], _ => rfl) fun f cdv A outer s H E hr => ?_
  exact (dss_cons (ds_if (dt_cm cm_gt (de_ixV (pv 0 rfl (Or.inl rfl)) de_int fun _ _ => rfl) de_int rfl) (dss_cons (ds_set sc__law_take.nd rfl (Or.inl rfl) rfl (do_d (de_mod (bi_int rfl g.b_int (de_ixV (pv 0 rfl (Or.inl rfl)) de_int fun _ _ => rfl)) (de_varP (pv 1 rfl (Or.inl rfl))))) rfl (Or.inr rfl)) (dss_cons (ds_setIx (pv 0 rfl (Or.inl rfl)) de_int (de_div (de_ixV (pv 0 rfl (Or.inl rfl)) de_int fun _ _ => rfl) (de_varP (pv 1 rfl (Or.inl rfl))))) (dss_one (ds_ret (do_d (de_varP (pv 2 rfl (Or.inl rfl)))))))) dss_nil) (dss_cons (ds_setIx (pv 0 rfl (Or.inl rfl)) de_int (de_add (de_ixV (pv 0 rfl (Or.inl rfl)) de_int fun _ _ => rfl) de_int)) (dss_cons (ds_set sc__law_take.nd rfl (Or.inl rfl) rfl (do_d (de_mod (bi_int rfl g.b_int (de_mul (de_add (de_ixV (pv 0 rfl (Or.inl rfl)) de_int fun _ _ => rfl) (de_mul de_int (de_ixV (pv 0 rfl (Or.inl rfl)) de_int fun _ _ => rfl))) (de_add de_int (de_ixV (pv 0 rfl (Or.inl rfl)) de_int fun _ _ => rfl)))) de_int)) rfl (Or.inr rfl)) (dss_cons (ds_set sc__law_take.nd rfl (Or.inl rfl) rfl (do_d (de_add (de_mod (bi_int rfl g.b_int (de_varP (pv 3 rfl (Or.inl rfl)))) de_int) de_int)) rfl (Or.inr rfl)) (dss_cons (ds_set sc__law_take.nd rfl (Or.inl rfl) rfl (do_d (de_mod (bi_int rfl g.b_int (de_mul (de_add (de_add (de_varP (pv 3 rfl (Or.inl rfl))) (de_ixV (pv 0 rfl (Or.inl rfl)) de_int fun _ _ => rfl)) (de_div (de_ixV (pv 0 rfl (Or.inl rfl)) de_int fun _ _ => rfl) de_int)) (de_varP (pv 4 rfl (Or.inl rfl))))) de_int)) rfl (Or.inr rfl)) (dss_one (ds_ret (do_d (de_mod (bi_int rfl g.b_int (de_div (de_mod (bi_int rfl g.b_int (de_add (de_mul (de_varP (pv 5 rfl (Or.inl rfl))) de_int) (de_varP (pv 3 rfl (Or.inl rfl))))) de_int) de_int)) (de_varP (pv 1 rfl (Or.inl rfl))))))))))))
theorem sc__law_of : FnScope ["tin", "goods_so"] ["tin", "goods_so"] (defScope (top 53)) := ⟨rfl, rfl, rfl, by decide +kernel, rfl, by decide +kernel, by decide +kernel⟩
theorem k__law_of (g : G K) : Kn P w K base 2 (erK K) "_law_of" ["tin", "goods_so"] φ__law_of := by
  show Kn P w K base (1 + 1) _ _ _ (run 2 2 [0, 1] m__law_of)
  refine kn_of g.d__law_of sc__law_of (fun _ _ _ _ _ _ us hl => match us, hl with | [_, _], _ => rfl) fun f cdv A outer s H E hr => ?_
  exact (dss_one (ds_ret (do_d (de_ix (de_varP (pv 1 rfl (Or.inl rfl))) (de_frz (do_call (k__law_take (P := P) (w := w) (base := base) g) (hr.mono (by decide : 1 ≤ 1)) rfl (passAt takesB) (dr_cons (ag_v (pv 0 rfl (Or.inl rfl))) (dr_cons (ag_d (bi_len rfl g.b_len (de_varP (pv 1 rfl (Or.inl rfl))))) dr_nil)))) fun _ _ => rfl))))
theorem sc__law_two : FnScope ["often_so"] ["often_so"] (defScope (top 55)) := ⟨rfl, rfl, rfl, by decide +kernel, rfl, by decide +kernel, by decide +kernel⟩
theorem k__law_two (g : G K) : Kn P w K base 1 (erK K) "_law_two" ["often_so"] φ__law_two := by
  show Kn P w K base (0 + 1) _ _ _ (run 1 1 [0] m__law_two)
  refine kn_of g.d__law_two sc__law_two (fun _ _ _ _ _ _ us hl => match us, hl with | [_], _ => rfl) fun f cdv A outer s H E hr => ?_
  exact (dss_one (ds_ret (do_d (de_shl de_int (de_varP (pv 0 rfl (Or.inl rfl)))))))
theorem sc__law_divisor : FnScope ["tin", "w", "top_so", "found"] ["tin", "w"] (defScope (top 57)) := ⟨rfl, rfl, rfl, by decide +kernel, rfl, by decide +kernel, by decide +kernel⟩
theorem k__law_divisor (g : G K) : Kn P w K base 3 (erK K) "_law_divisor" ["tin", "w"] φ__law_divisor := by
  show Kn P w K base (2 + 1) _ _ _ (run 2 4 [0, 1] m__law_divisor)
  refine kn_of g.d__law_divisor sc__law_divisor (fun _ _ _ _ _ _ us hl => match us, hl with | [_, _], _ => rfl) fun f cdv A outer s H E hr => ?_
  exact (dss_cons (ds_set sc__law_divisor.nd rfl (Or.inl rfl) rfl (do_d (de_sub (de_frz (do_call (k__law_two (P := P) (w := w) (base := base) g) (hr.mono (by decide : 1 ≤ 2)) rfl (passAt takesB) (dr_cons (ag_d (de_varP (pv 1 rfl (Or.inl rfl)))) dr_nil))) de_int)) rfl (Or.inr rfl)) (dss_cons (ds_set sc__law_divisor.nd rfl (Or.inl rfl) rfl (do_d (de_frz (do_call (k__law_of (P := P) (w := w) (base := base) g) (hr.mono (by decide : 2 ≤ 2)) rfl (passAt takesB) (dr_cons (ag_v (pv 0 rfl (Or.inl rfl))) (dr_cons (ag_d (de_frz (do_lst (da_cons (de_add de_int (de_frz (do_call (k__law_take (P := P) (w := w) (base := base) g) (hr.mono (by decide : 1 ≤ 2)) rfl (passAt takesB) (dr_cons (ag_v (pv 0 rfl (Or.inl rfl))) (dr_cons (ag_d de_int) dr_nil))))) (da_cons (de_add de_int (de_frz (do_call (k__law_take (P := P) (w := w) (base := base) g) (hr.mono (by decide : 1 ≤ 2)) rfl (passAt takesB) (dr_cons (ag_v (pv 0 rfl (Or.inl rfl))) (dr_cons (ag_d (de_varP (pv 2 rfl (Or.inl rfl)))) dr_nil))))) (da_cons (de_sub (de_varP (pv 2 rfl (Or.inl rfl))) (de_frz (do_call (k__law_take (P := P) (w := w) (base := base) g) (hr.mono (by decide : 1 ≤ 2)) rfl (passAt takesB) (dr_cons (ag_v (pv 0 rfl (Or.inl rfl))) (dr_cons (ag_d de_int) dr_nil))))) (da_cons (de_sub (de_add (de_frz (do_call (k__law_two (P := P) (w := w) (base := base) g) (hr.mono (by decide : 1 ≤ 2)) rfl (passAt takesB) (dr_cons (ag_d (de_frz (do_call (k__law_take (P := P) (w := w) (base := base) g) (hr.mono (by decide : 1 ≤ 2)) rfl (passAt takesB) (dr_cons (ag_v (pv 0 rfl (Or.inl rfl))) (dr_cons (ag_d (de_varP (pv 1 rfl (Or.inl rfl)))) dr_nil))))) dr_nil))) (de_frz (do_call (k__law_take (P := P) (w := w) (base := base) g) (hr.mono (by decide : 1 ≤ 2)) rfl (passAt takesB) (dr_cons (ag_v (pv 0 rfl (Or.inl rfl))) (dr_cons (ag_d de_int) dr_nil))))) de_int) (da_cons (de_add de_int (de_frz (do_call (k__law_take (P := P) (w := w) (base := base) g) (hr.mono (by decide : 1 ≤ 2)) rfl (passAt takesB) (dr_cons (ag_v (pv 0 rfl (Or.inl rfl))) (dr_cons (ag_d de_int) dr_nil))))) da_nil)))))))) dr_nil))))) rfl (Or.inr rfl)) (dss_one (ds_ret (do_d (bi_max rfl rfl g.b_max de_int (bi_min rfl rfl g.b_min (de_varP (pv 3 rfl (Or.inl rfl))) (de_varP (pv 2 rfl (Or.inl rfl))))))))))
theorem sc__law_looks : FnScope ["d", "recipe_so", "b", "rows_so", "own"] ["d", "recipe_so", "b"] (defScope (top 62)) := ⟨rfl, rfl, rfl, by decide +kernel, rfl, by decide +kernel, by decide +kernel⟩
theorem k__law_looks (g : G K) : Kn P w K base 1 (erK K) "_law_looks" ["d", "recipe_so", "b"] φ__law_looks := by
  show Kn P w K base (0 + 1) _ _ _ (run 3 5 [0, 1, 2] m__law_looks)
  refine kn_of g.d__law_looks sc__law_looks (fun _ _ _ _ _ _ us hl => match us, hl with | [_, _, _], _ => rfl) fun f cdv A outer s H E hr => ?_
  exact (dss_cons (ds_if (dt_cm cm_lt (de_varP (pv 2 rfl (Or.inl rfl))) (de_sub (de_varP (pv 0 rfl (Or.inl rfl))) de_int) rfl) (dss_one (ds_ret (do_d (de_tup (da_cons (de_varP (pv 2 rfl (Or.inl rfl))) da_nil))))) dss_nil) (dss_cons (ds_set sc__law_looks.nd rfl (Or.inl rfl) rfl (do_d (de_frz (do_if (dt_cm (cm_eq hr.units) (de_ix (de_varP (pv 1 rfl (Or.inl rfl))) de_int fun _ _ => rfl) de_str rfl) (do_cat (do_lst (da_cons (de_sub (de_mul (de_div (de_add (de_varP (pv 2 rfl (Or.inl rfl))) de_int) (de_varP (pv 0 rfl (Or.inl rfl)))) (de_varP (pv 0 rfl (Or.inl rfl)))) de_int) da_nil)) (do_if (dt_cm cm_le (de_varP (pv 0 rfl (Or.inl rfl))) (de_varP (pv 2 rfl (Or.inl rfl))) rfl) (do_lst (da_cons (de_varP (pv 0 rfl (Or.inl rfl))) da_nil)) (do_lst da_nil))) (do_lst (da_cons (de_sub (de_varP (pv 0 rfl (Or.inl rfl))) de_int) (da_cons (de_mul (de_div (de_varP (pv 2 rfl (Or.inl rfl))) (de_varP (pv 0 rfl (Or.inl rfl)))) (de_varP (pv 0 rfl (Or.inl rfl)))) da_nil)))))) rfl (Or.inr rfl)) (dss_one (ds_ret (do_d (bi_tuple rfl g.b_tuple (de_frz (do_sortDict rfl rfl g.b_sorted rfl g.b_dict (de_frz (do_lc rfl sc__law_looks.nd (di_seq (de_varP (pv 3 rfl (Or.inl rfl)))) (blkOk_by (N := (["d", "recipe_so", "b", "rows_so", "own"] : List Str)) (sc := defScope (top 62)) (own := ([("own", 4)] : List (Str × Nat))) (by decide +kernel)) rfl (fun _ _ _ _ _ => (dg_n sc__law_looks.nd rfl (Or.inl rfl) rfl (Or.inr rfl))) (fun _ _ _ _ _ => bif_nil) (fun _ _ _ _ _ => (de_tup (da_cons (de_varP (pv 4 rfl (Or.inl rfl))) (da_cons de_int da_nil))))))))))))))
theorem sc__law_upper : FnScope ["a", "b"] ["a", "b"] (defScope (top 59)) := ⟨rfl, rfl, rfl, by decide +kernel, rfl, by decide +kernel, by decide +kernel⟩
theorem k__law_upper (g : G K) : Kn P w K base 1 (erK K) "_law_upper" ["a", "b"] φ__law_upper := by
  show Kn P w K base (0 + 1) _ _ _ (run 2 2 [0, 1] m__law_upper)
  refine kn_of g.d__law_upper sc__law_upper (fun _ _ _ _ _ _ us hl => match us, hl with | [_, _], _ => rfl) fun f cdv A outer s H E hr => ?_
  exact (dss_one (ds_ret (do_d (de_div (de_sub (de_add (de_varP (pv 0 rfl (Or.inl rfl))) (de_varP (pv 1 rfl (Or.inl rfl)))) de_int) (de_varP (pv 1 rfl (Or.inl rfl)))))))
theorem sc__law_range : FnScope ["w", "d", "kind_so", "s", "b", "low_so", "up_so", "goal_so", "last_so"] ["w", "d", "kind_so", "s", "b"] (defScope (top 63)) := ⟨rfl, rfl, rfl, by decide +kernel, rfl, by decide +kernel, by decide +kernel⟩
theorem k__law_range (g : G K) : Kn P w K base 2 (erK K) "_law_range" ["w", "d", "kind_so", "s", "b"] φ__law_range := by
  show Kn P w K base (1 + 1) _ _ _ (run 5 9 [0, 1, 2, 3, 4] m__law_range)
  refine kn_of g.d__law_range sc__law_range (fun _ _ _ _ _ _ us hl => match us, hl with | [_, _, _, _, _], _ => rfl) fun f cdv A outer s H E hr => ?_
  exact (dss_cons (ds_set3 rfl sc__law_range.nd rfl rfl rfl (by decide) (by decide) (by decide) rfl rfl rfl rfl rfl rfl (do_d de_int) (do_d (de_sub (de_mul de_int (de_frz (do_call (k__law_two (P := P) (w := w) (base := base) g) (hr.mono (by decide : 1 ≤ 1)) rfl (passAt takesB) (dr_cons (ag_d (de_varP (pv 0 rfl (Or.inl rfl)))) dr_nil)))) de_int)) (do_d (de_frz (do_call (k__law_two (P := P) (w := w) (base := base) g) (hr.mono (by decide : 1 ≤ 1)) rfl (passAt takesB) (dr_cons (ag_d (de_varP (pv 3 rfl (Or.inl rfl)))) dr_nil)))) rfl) (dss_cons (ds_if (dt_cm (cm_eq hr.units) (de_varP (pv 2 rfl (Or.inl rfl))) de_str rfl) (dss_cons (ds_set sc__law_range.nd rfl (Or.inl rfl) rfl (do_d (de_frz (do_if (dt_cm cm_le (de_varP (pv 1 rfl (Or.inl rfl))) (de_varP (pv 4 rfl (Or.inl rfl))) rfl) (do_call (k__law_upper (P := P) (w := w) (base := base) g) (hr.mono (by decide : 1 ≤ 1)) rfl (passAt takesB) (dr_cons (ag_d (de_varP (pv 7 rfl (Or.inl rfl)))) (dr_cons (ag_d (de_varP (pv 1 rfl (Or.inl rfl)))) dr_nil))) (do_d de_int)))) rfl (Or.inr rfl)) (dss_cons (ds_set sc__law_range.nd rfl (Or.inl rfl) rfl (do_d (de_if (dt_cm cm_le (de_sub (de_varP (pv 1 rfl (Or.inl rfl))) de_int) (de_varP (pv 4 rfl (Or.inl rfl))) rfl) (de_sub (de_mul (de_div (de_add (de_varP (pv 4 rfl (Or.inl rfl))) de_int) (de_varP (pv 1 rfl (Or.inl rfl)))) (de_varP (pv 1 rfl (Or.inl rfl)))) de_int) (de_varP (pv 4 rfl (Or.inl rfl))))) rfl (Or.inr rfl)) (dss_one (ds_set sc__law_range.nd rfl (Or.inl rfl) rfl (do_d (de_if (dt_cm cm_gt (de_varP (pv 8 rfl (Or.inl rfl))) de_int rfl) (bi_min rfl rfl g.b_min (de_varP (pv 6 rfl (Or.inl rfl))) (de_div (de_sub (de_mul (de_varP (pv 7 rfl (Or.inl rfl))) (de_add (de_div (de_varP (pv 8 rfl (Or.inl rfl))) (de_varP (pv 1 rfl (Or.inl rfl)))) de_int)) de_int) (de_varP (pv 8 rfl (Or.inl rfl))))) (de_varP (pv 6 rfl (Or.inl rfl))))) rfl (Or.inr rfl))))) (dss_cons (ds_set sc__law_range.nd rfl (Or.inl rfl) rfl (do_d (de_mul (de_div (de_varP (pv 4 rfl (Or.inl rfl))) (de_varP (pv 1 rfl (Or.inl rfl)))) (de_varP (pv 1 rfl (Or.inl rfl))))) rfl (Or.inr rfl)) (dss_cons (ds_set sc__law_range.nd rfl (Or.inl rfl) rfl (do_d (de_frz (do_call (k__law_upper (P := P) (w := w) (base := base) g) (hr.mono (by decide : 1 ≤ 1)) rfl (passAt takesB) (dr_cons (ag_d (de_mul (de_varP (pv 7 rfl (Or.inl rfl))) (de_div (de_varP (pv 8 rfl (Or.inl rfl))) (de_varP (pv 1 rfl (Or.inl rfl)))))) (dr_cons (ag_d (de_add (de_varP (pv 8 rfl (Or.inl rfl))) de_int)) dr_nil))))) rfl (Or.inr rfl)) (dss_one (ds_set sc__law_range.nd rfl (Or.inl rfl) rfl (do_d (bi_min rfl rfl g.b_min (de_varP (pv 6 rfl (Or.inl rfl))) (de_div (de_sub (de_varP (pv 7 rfl (Or.inl rfl))) de_int) (bi_min rfl rfl g.b_min (de_varP (pv 1 rfl (Or.inl rfl))) (de_add (de_varP (pv 4 rfl (Or.inl rfl))) de_int))))) rfl (Or.inr rfl)))))) (dss_one (ds_ret (do_d (de_if (dt_cm cm_le (de_varP (pv 5 rfl (Or.inl rfl))) (de_varP (pv 6 rfl (Or.inl rfl))) rfl) (de_tup (da_cons (de_varP (pv 5 rfl (Or.inl rfl))) (da_cons (de_varP (pv 6 rfl (Or.inl rfl))) da_nil))) de_non))))))
theorem sc__law_run : FnScope ["w", "d", "kind_so", "s", "every_so", "goal_so", "last_so", "low_so", "up_so"] ["w", "d", "kind_so", "s"] (defScope (top 60)) := ⟨rfl, rfl, rfl, by decide +kernel, rfl, by decide +kernel, by decide +kernel⟩
theorem k__law_run (g : G K) : Kn P w K base 2 (erK K) "_law_run" ["w", "d", "kind_so", "s"] φ__law_run := by
  show Kn P w K base (1 + 1) _ _ _ (run 4 9 [0, 1, 2, 3] m__law_run)
  refine kn_of g.d__law_run sc__law_run (fun _ _ _ _ _ _ us hl => match us, hl with | [_, _, _, _], _ => rfl) fun f cdv A outer s H E hr => ?_
  exact (dss_cons (ds_set2 rfl sc__law_run.nd rfl rfl (by decide) rfl rfl rfl rfl (do_d (de_frz (do_call (k__law_two (P := P) (w := w) (base := base) g) (hr.mono (by decide : 1 ≤ 1)) rfl (passAt takesB) (dr_cons (ag_d (de_varP (pv 0 rfl (Or.inl rfl)))) dr_nil)))) (do_d (de_frz (do_call (k__law_two (P := P) (w := w) (base := base) g) (hr.mono (by decide : 1 ≤ 1)) rfl (passAt takesB) (dr_cons (ag_d (de_varP (pv 3 rfl (Or.inl rfl)))) dr_nil)))) rfl) (dss_cons (ds_if (dt_cm (cm_eq hr.units) (de_varP (pv 2 rfl (Or.inl rfl))) de_str rfl) (dss_cons (ds_set sc__law_run.nd rfl (Or.inl rfl) rfl (do_d (de_sub (de_mul (de_div (de_varP (pv 4 rfl (Or.inl rfl))) (de_varP (pv 1 rfl (Or.inl rfl)))) (de_varP (pv 1 rfl (Or.inl rfl)))) de_int)) rfl (Or.inr rfl)) (dss_one (ds_set2 rfl sc__law_run.nd rfl rfl (by decide) rfl rfl rfl rfl (do_d (de_frz (do_call (k__law_upper (P := P) (w := w) (base := base) g) (hr.mono (by decide : 1 ≤ 1)) rfl (passAt takesB) (dr_cons (ag_d (de_varP (pv 5 rfl (Or.inl rfl)))) (dr_cons (ag_d (de_varP (pv 1 rfl (Or.inl rfl)))) dr_nil))))) (do_d (de_div (de_add (de_varP (pv 5 rfl (Or.inl rfl))) (de_div (de_sub (de_varP (pv 5 rfl (Or.inl rfl))) de_int) (de_varP (pv 6 rfl (Or.inl rfl))))) (de_varP (pv 1 rfl (Or.inl rfl))))) rfl))) (dss_cons (ds_set sc__law_run.nd rfl (Or.inl rfl) rfl (do_d (de_mul (de_div (de_sub (de_varP (pv 4 rfl (Or.inl rfl))) de_int) (de_varP (pv 1 rfl (Or.inl rfl)))) (de_varP (pv 1 rfl (Or.inl rfl))))) rfl (Or.inr rfl)) (dss_one (ds_set2 rfl sc__law_run.nd rfl rfl (by decide) rfl rfl rfl rfl (do_d (de_frz (do_call (k__law_upper (P := P) (w := w) (base := base) g) (hr.mono (by decide : 1 ≤ 1)) rfl (passAt takesB) (dr_cons (ag_d (de_sub (de_varP (pv 5 rfl (Or.inl rfl))) (de_div (de_varP (pv 5 rfl (Or.inl rfl))) (de_add (de_varP (pv 6 rfl (Or.inl rfl))) de_int)))) (dr_cons (ag_d (de_varP (pv 1 rfl (Or.inl rfl)))) dr_nil))))) (do_d (de_sub (de_frz (do_call (k__law_upper (P := P) (w := w) (base := base) g) (hr.mono (by decide : 1 ≤ 1)) rfl (passAt takesB) (dr_cons (ag_d (de_varP (pv 5 rfl (Or.inl rfl)))) (dr_cons (ag_d (de_varP (pv 1 rfl (Or.inl rfl)))) dr_nil)))) de_int)) rfl)))) (dss_cons (ds_set2 rfl sc__law_run.nd rfl rfl (by decide) rfl rfl rfl rfl (do_d (bi_max rfl rfl g.b_max de_int (de_varP (pv 7 rfl (Or.inl rfl))))) (do_d (bi_min rfl rfl g.b_min (de_varP (pv 8 rfl (Or.inl rfl))) (de_sub (de_mul de_int (de_varP (pv 4 rfl (Or.inl rfl)))) de_int))) rfl) (dss_one (ds_ret (do_d (de_if (dt_cm cm_le (de_varP (pv 7 rfl (Or.inl rfl))) (de_varP (pv 8 rfl (Or.inl rfl))) rfl) (de_tup (da_cons (de_varP (pv 7 rfl (Or.inl rfl))) (da_cons (de_varP (pv 8 rfl (Or.inl rfl))) da_nil))) de_non)))))))
theorem sc__law_recipe : FnScope ["tin", "w", "d", "kind_so", "s", "sort_so", "k", "m"] ["tin", "w", "d"] (defScope (top 61)) := ⟨rfl, rfl, rfl, by decide +kernel, rfl, by decide +kernel, by decide +kernel⟩
theorem k__law_recipe (g : G K) : Kn P w K base 3 (erK K) "_law_recipe" ["tin", "w", "d"] φ__law_recipe := by
  show Kn P w K base (2 + 1) _ _ _ (run 3 8 [0, 1, 2] m__law_recipe)
  refine kn_of g.d__law_recipe sc__law_recipe (fun _ _ _ _ _ _ us hl => match us, hl with | [_, _, _], _ => rfl) fun f cdv A outer s H E hr => ?_
  exact (dss_cons (ds_set2 rfl sc__law_recipe.nd rfl rfl (by decide) rfl rfl rfl rfl (do_d (de_frz (do_call (k__law_of (P := P) (w := w) (base := base) g) (hr.mono (by decide : 2 ≤ 2)) rfl (passAt takesB) (dr_cons (ag_v (pv 0 rfl (Or.inl rfl))) (dr_cons (ag_d (de_frz (do_lst (da_cons de_str (da_cons de_str da_nil))))) dr_nil))))) (do_d (de_frz (do_call (k__law_take (P := P) (w := w) (base := base) g) (hr.mono (by decide : 1 ≤ 2)) rfl (passAt takesB) (dr_cons (ag_v (pv 0 rfl (Or.inl rfl))) (dr_cons (ag_d (de_add (de_mul de_int (de_varP (pv 1 rfl (Or.inl rfl)))) de_int)) dr_nil))))) rfl) (dss_cons (ds_set sc__law_recipe.nd rfl (Or.inl rfl) rfl (do_d (de_frz (do_call (k__law_take (P := P) (w := w) (base := base) g) (hr.mono (by decide : 1 ≤ 2)) rfl (passAt takesB) (dr_cons (ag_v (pv 0 rfl (Or.inl rfl))) (dr_cons (ag_d de_int) dr_nil))))) rfl (Or.inr rfl)) (dss_cons (ds_if (dt_cm (cm_eq hr.units) (de_varP (pv 5 rfl (Or.inl rfl))) de_int rfl) (dss_one (ds_ret (do_d (de_tup (da_cons (de_varP (pv 3 rfl (Or.inl rfl))) (da_cons (de_frz (do_call (k__law_take (P := P) (w := w) (base := base) g) (hr.mono (by decide : 1 ≤ 2)) rfl (passAt takesB) (dr_cons (ag_v (pv 0 rfl (Or.inl rfl))) (dr_cons (ag_d (de_mul de_int (de_frz (do_call (k__law_two (P := P) (w := w) (base := base) g) (hr.mono (by decide : 1 ≤ 2)) rfl (passAt takesB) (dr_cons (ag_d (de_varP (pv 1 rfl (Or.inl rfl)))) dr_nil))))) dr_nil)))) (da_cons (de_varP (pv 4 rfl (Or.inl rfl))) da_nil))))))) dss_nil) (dss_cons (ds_if (dt_cm (cm_eq hr.units) (de_varP (pv 5 rfl (Or.inl rfl))) de_int rfl) (dss_one (ds_for (passes_of rfl) rfl (di_range1 rfl g.b_range (de_add (de_mul de_int (de_varP (pv 1 rfl (Or.inl rfl)))) de_int)) (dg_n sc__law_recipe.nd rfl (Or.inl rfl) rfl (Or.inr rfl)) (dss_one (ds_if (dt_cm cm_notN (de_frz (do_call (k__law_run (P := P) (w := w) (base := base) g) (hr.mono (by decide : 2 ≤ 2)) rfl (passAt takesB) (dr_cons (ag_d (de_varP (pv 1 rfl (Or.inl rfl)))) (dr_cons (ag_d (de_varP (pv 2 rfl (Or.inl rfl)))) (dr_cons (ag_d (de_varP (pv 3 rfl (Or.inl rfl)))) (dr_cons (ag_d (de_varP (pv 6 rfl (Or.inl rfl)))) dr_nil)))))) de_non rfl) (dss_cons (ds_set sc__law_recipe.nd rfl (Or.inl rfl) rfl (do_d (de_varP (pv 6 rfl (Or.inl rfl)))) rfl (Or.inr rfl)) (dss_one ds_break)) dss_nil)))) dss_nil) (dss_cons (ds_set sc__law_recipe.nd rfl (Or.inl rfl) rfl (do_d (de_sub (de_add (de_div (de_frz (do_call (k__law_two (P := P) (w := w) (base := base) g) (hr.mono (by decide : 1 ≤ 2)) rfl (passAt takesB) (dr_cons (ag_d (de_varP (pv 4 rfl (Or.inl rfl)))) dr_nil))) (de_varP (pv 2 rfl (Or.inl rfl)))) (de_frz (do_call (k__law_take (P := P) (w := w) (base := base) g) (hr.mono (by decide : 1 ≤ 2)) rfl (passAt takesB) (dr_cons (ag_v (pv 0 rfl (Or.inl rfl))) (dr_cons (ag_d de_int) dr_nil))))) de_int)) rfl (Or.inr rfl)) (dss_one (ds_ret (do_d (de_tup (da_cons (de_varP (pv 3 rfl (Or.inl rfl))) (da_cons (bi_max rfl rfl g.b_max de_int (bi_min rfl rfl g.b_min (de_varP (pv 7 rfl (Or.inl rfl))) (de_sub (de_mul de_int (de_frz (do_call (k__law_two (P := P) (w := w) (base := base) g) (hr.mono (by decide : 1 ≤ 2)) rfl (passAt takesB) (dr_cons (ag_d (de_varP (pv 1 rfl (Or.inl rfl)))) dr_nil)))) de_int))) (da_cons (de_varP (pv 4 rfl (Or.inl rfl))) da_nil))))))))))))
theorem sc__law_same : FnScope ["got", "due", "mine", "its"] ["got", "due"] (defScope (top 54)) := ⟨rfl, rfl, rfl, by decide +kernel, rfl, by decide +kernel, by decide +kernel⟩
theorem k__law_same (g : G K) : ∀ n, Kn P w K base (1 + n) (erK K) "_law_same" ["got", "due"] (φ__law_same n)
  | 0 => kn_stuck g.d__law_same (fun _ _ _ _ _ _ us hl => match us, hl with | [_, _], _ => rfl)
  | n + 1 => by
    have hrec := k__law_same g n
    show Kn P w K base (1 + n + 1) _ _ _ (run 2 4 [0, 1] (m__law_same (φ__law_same n)))
    refine kn_of g.d__law_same sc__law_same (fun _ _ _ _ _ _ us hl => match us, hl with | [_, _], _ => rfl) fun f cdv A outer s H E hr => ?_
    exact (dss_cons (ds_if (dt_tru (de_isi2 (t := .list) (u := .tuple) rfl g.b_isinstance rfl g.b_list boot_list rfl g.b_tuple boot_tuple (de_varP (pv 1 rfl (Or.inl rfl)))) fun _ => rfl) (dss_cons (ds_if (dt_w (dw_or (dt_cm (cm_ne hr.units) (de_isi (t := .list) rfl g.b_isinstance rfl g.b_list boot_list (de_varP (pv 0 rfl (Or.inl rfl)))) (de_isi (t := .list) rfl g.b_isinstance rfl g.b_list boot_list (de_varP (pv 1 rfl (Or.inl rfl)))) rfl) (dw_or1 (dt_cm (cm_ne hr.units) (de_isi (t := .tuple) rfl g.b_isinstance rfl g.b_tuple boot_tuple (de_varP (pv 0 rfl (Or.inl rfl)))) (de_isi (t := .tuple) rfl g.b_isinstance rfl g.b_tuple boot_tuple (de_varP (pv 1 rfl (Or.inl rfl)))) rfl)))) (dss_one (ds_ret (do_d de_bl))) dss_nil) (dss_one (ds_ret (do_d (de_andV (de_cm (cm_eq hr.units) (bi_len rfl g.b_len (de_varP (pv 0 rfl (Or.inl rfl)))) (bi_len rfl g.b_len (de_varP (pv 1 rfl (Or.inl rfl)))) rfl) (de_one (bi_all rfl rfl g.b_all (de_frz (do_lc rfl sc__law_same.nd (di_zip rfl g.b_zip (de_varP (pv 0 rfl (Or.inl rfl))) (de_varP (pv 1 rfl (Or.inl rfl)))) (blkOk_by (N := (["got", "due", "mine", "its"] : List Str)) (sc := defScope (top 54)) (own := ([("mine", 2), ("its", 3)] : List (Str × Nat))) (by decide +kernel)) rfl (fun _ _ _ _ _ => (dg_t rfl (dgs_cons (dg_n sc__law_same.nd rfl (Or.inl rfl) rfl (Or.inr rfl)) (dgs_cons (dg_n sc__law_same.nd rfl (Or.inl rfl) rfl (Or.inr rfl)) dgs_nil)))) (fun _ _ _ _ _ => bif_nil) (fun _ _ _ _ _ => (de_frz (do_call hrec (hr.mono (Nat.le_refl _)) rfl passNo (dr_cons (ag_d (de_varP (pv 2 rfl (Or.inl rfl)))) (dr_cons (ag_d (de_varP (pv 3 rfl (Or.inl rfl)))) dr_nil)))))))))))))) dss_nil) (dss_cons (ds_if (dt_cm cm_isN (de_varP (pv 1 rfl (Or.inl rfl))) de_non rfl) (dss_one (ds_ret (do_d (de_cm cm_isN (de_varP (pv 0 rfl (Or.inl rfl))) de_non rfl)))) dss_nil) (dss_cons (ds_if (dt_tru (de_isi2 (t := .bool) (u := .str) rfl g.b_isinstance rfl g.b_bool boot_bool rfl g.b_str boot_str (de_varP (pv 1 rfl (Or.inl rfl)))) fun _ => rfl) (dss_one (ds_ret (do_d (de_andV (de_cm (cm_eq hr.units) (de_isi (t := .bool) rfl g.b_isinstance rfl g.b_bool boot_bool (de_varP (pv 0 rfl (Or.inl rfl)))) (de_isi (t := .bool) rfl g.b_isinstance rfl g.b_bool boot_bool (de_varP (pv 1 rfl (Or.inl rfl)))) rfl) (de_andV (de_cm (cm_eq hr.units) (de_isi (t := .str) rfl g.b_isinstance rfl g.b_str boot_str (de_varP (pv 0 rfl (Or.inl rfl)))) (de_isi (t := .str) rfl g.b_isinstance rfl g.b_str boot_str (de_varP (pv 1 rfl (Or.inl rfl)))) rfl) (de_one (de_cm (cm_eq hr.units) (de_varP (pv 0 rfl (Or.inl rfl))) (de_varP (pv 1 rfl (Or.inl rfl))) rfl))))))) dss_nil) (dss_one (ds_ret (do_d (de_andV (de_isi (t := .int) rfl g.b_isinstance rfl g.b_int boot_int (de_varP (pv 0 rfl (Or.inl rfl)))) (de_andV (de_notV (de_isi (t := .bool) rfl g.b_isinstance rfl g.b_bool boot_bool (de_varP (pv 0 rfl (Or.inl rfl))))) (de_one (de_cm (cm_eq hr.units) (de_varP (pv 0 rfl (Or.inl rfl))) (de_varP (pv 1 rfl (Or.inl rfl))) rfl))))))))))
theorem sc__law_told : FnScope ["recipe_so", "n", "kind_so", "m", "s"] ["recipe_so", "n"] (defScope (top 58)) := ⟨rfl, rfl, rfl, by decide +kernel, rfl, by decide +kernel, by decide +kernel⟩
theorem k__law_told (g : G K) : Kn P w K base 2 (erK K) "_law_told" ["recipe_so", "n"] φ__law_told := by
  show Kn P w K base (1 + 1) _ _ _ (run 2 5 [0, 1] m__law_told)
  refine kn_of g.d__law_told sc__law_told (fun _ _ _ _ _ _ us hl => match us, hl with | [_, _], _ => rfl) fun f cdv A outer s H E hr => ?_
  exact (dss_cons (ds_asg (de_varP (pv 0 rfl (Or.inl rfl))) (dg_t rfl (dgs_cons (dg_n sc__law_told.nd rfl (Or.inl rfl) rfl (Or.inr rfl)) (dgs_cons (dg_n sc__law_told.nd rfl (Or.inl rfl) rfl (Or.inr rfl)) (dgs_cons (dg_n sc__law_told.nd rfl (Or.inl rfl) rfl (Or.inr rfl)) dgs_nil))))) (dss_one (ds_ret (do_d (de_div (de_mul (de_if (dt_cm (cm_eq hr.units) (de_varP (pv 2 rfl (Or.inl rfl))) de_str rfl) (de_varP (pv 1 rfl (Or.inl rfl))) (de_add (de_varP (pv 1 rfl (Or.inl rfl))) de_int)) (de_varP (pv 3 rfl (Or.inl rfl)))) (de_frz (do_call (k__law_two (P := P) (w := w) (base := base) g) (hr.mono (by decide : 1 ≤ 1)) rfl (passAt takesB) (dr_cons (ag_d (de_varP (pv 4 rfl (Or.inl rfl)))) dr_nil))))))))
theorem sc__law_wide : FnScope ["tin"] ["tin"] (defScope (top 56)) := ⟨rfl, rfl, rfl, by decide +kernel, rfl, by decide +kernel, by decide +kernel⟩
theorem k__law_wide (g : G K) : Kn P w K base 3 (erK K) "_law_wide" ["tin"] φ__law_wide := by
  show Kn P w K base (2 + 1) _ _ _ (run 1 1 [0] m__law_wide)
  refine kn_of g.d__law_wide sc__law_wide (fun _ _ _ _ _ _ us hl => match us, hl with | [_], _ => rfl) fun f cdv A outer s H E hr => ?_
  exact (dss_one (ds_ret (do_call (k__law_of (P := P) (w := w) (base := base) g) (hr.mono (by decide : 2 ≤ 2)) rfl (passAt takesB) (dr_cons (ag_v (pv 0 rfl (Or.inl rfl))) (dr_cons (ag_d (de_frz (do_lst (da_cons de_int (da_cons de_int (da_cons de_int (da_cons de_int (da_cons (de_add de_int (de_frz (do_call (k__law_take (P := P) (w := w) (base := base) g) (hr.mono (by decide : 1 ≤ 2)) rfl (passAt takesB) (dr_cons (ag_v (pv 0 rfl (Or.inl rfl))) (dr_cons (ag_d de_int) dr_nil))))) (da_cons (de_add de_int (de_frz (do_call (k__law_take (P := P) (w := w) (base := base) g) (hr.mono (by decide : 1 ≤ 2)) rfl (passAt takesB) (dr_cons (ag_v (pv 0 rfl (Or.inl rfl))) (dr_cons (ag_d de_int) dr_nil))))) da_nil))))))))) dr_nil)))))
theorem sc_excess_in : FnScope ["divisor", "recipe"] ["divisor", "recipe"] (defScope (top 22)) := ⟨rfl, rfl, rfl, by decide +kernel, rfl, by decide +kernel, by decide +kernel⟩
theorem k_excess_in (g : G K) : Kn P w K base 1 (erK K) "excess_in" ["divisor", "recipe"] φ_excess_in := by
  show Kn P w K base (0 + 1) _ _ _ (run 2 2 [0, 1] m_excess_in)
  refine kn_of g.d_excess_in sc_excess_in (fun _ _ _ _ _ _ us hl => match us, hl with | [_, _], _ => rfl) fun f cdv A outer s H E hr => ?_
  exact (dss_one (ds_ret (do_d (de_sub (de_mul (de_ix (de_varP (pv 1 rfl (Or.inl rfl))) de_int fun _ _ => rfl) (de_varP (pv 0 rfl (Or.inl rfl)))) (de_shl de_int (de_ix (de_varP (pv 1 rfl (Or.inl rfl))) de_int fun _ _ => rfl))))))
theorem sc_floor_sum : FnScope ["many", "under", "times", "more", "found", "left", "count", "low", "step", "begin", "last"] ["many", "under", "times", "more"] (defScope (top 24)) := ⟨rfl, rfl, rfl, by decide +kernel, rfl, by decide +kernel, by decide +kernel⟩
theorem k_floor_sum (g : G K) : Kn P w K base 1 (erK K) "floor_sum" ["many", "under", "times", "more"] φ_floor_sum := by
  show Kn P w K base (0 + 1) _ _ _ (run 4 11 [0, 1, 2, 3] m_floor_sum)
  refine kn_of g.d_floor_sum sc_floor_sum (fun _ _ _ _ _ _ us hl => match us, hl with | [_, _, _, _], _ => rfl) fun f cdv A outer s H E hr => ?_
  exact (dss_cons (ds_set2 rfl sc_floor_sum.nd rfl rfl (by decide) rfl rfl rfl rfl (do_d de_int) (do_d (de_tup (da_cons (de_varP (pv 0 rfl (Or.inl rfl))) (da_cons (de_varP (pv 1 rfl (Or.inl rfl))) (da_cons (de_varP (pv 2 rfl (Or.inl rfl))) (da_cons (de_varP (pv 3 rfl (Or.inl rfl))) da_nil)))))) rfl) (dss_cons (ds_while (passes_of rfl) (dt_cm cm_gt (de_ix (de_varP (pv 5 rfl (Or.inl rfl))) de_int fun _ _ => rfl) de_int rfl) (dss_cons (ds_asg (de_varP (pv 5 rfl (Or.inl rfl))) (dg_t rfl (dgs_cons (dg_n sc_floor_sum.nd rfl (Or.inl rfl) rfl (Or.inr rfl)) (dgs_cons (dg_n sc_floor_sum.nd rfl (Or.inl rfl) rfl (Or.inr rfl)) (dgs_cons (dg_n sc_floor_sum.nd rfl (Or.inl rfl) rfl (Or.inr rfl)) (dgs_cons (dg_n sc_floor_sum.nd rfl (Or.inl rfl) rfl (Or.inr rfl)) dgs_nil)))))) (dss_cons (ds_set sc_floor_sum.nd rfl (Or.inl rfl) rfl (do_d (de_add (de_add (de_varP (pv 4 rfl (Or.inl rfl))) (de_mul (de_div (de_mul (de_varP (pv 6 rfl (Or.inl rfl))) (de_sub (de_varP (pv 6 rfl (Or.inl rfl))) de_int)) de_int) (de_div (de_varP (pv 8 rfl (Or.inl rfl))) (de_varP (pv 7 rfl (Or.inl rfl)))))) (de_mul (de_varP (pv 6 rfl (Or.inl rfl))) (de_div (de_varP (pv 9 rfl (Or.inl rfl))) (de_varP (pv 7 rfl (Or.inl rfl))))))) rfl (Or.inr rfl)) (dss_cons (ds_set2 rfl sc_floor_sum.nd rfl rfl (by decide) rfl rfl rfl rfl (do_d (de_mod (de_varP (pv 8 rfl (Or.inl rfl))) (de_varP (pv 7 rfl (Or.inl rfl))))) (do_d (de_mod (de_varP (pv 9 rfl (Or.inl rfl))) (de_varP (pv 7 rfl (Or.inl rfl))))) rfl) (dss_cons (ds_set sc_floor_sum.nd rfl (Or.inl rfl) rfl (do_d (de_add (de_mul (de_varP (pv 8 rfl (Or.inl rfl))) (de_varP (pv 6 rfl (Or.inl rfl)))) (de_varP (pv 9 rfl (Or.inl rfl))))) rfl (Or.inr rfl)) (dss_one (ds_set sc_floor_sum.nd rfl (Or.inl rfl) rfl (do_d (de_if (dt_cm cm_ge (de_varP (pv 10 rfl (Or.inl rfl))) (de_varP (pv 7 rfl (Or.inl rfl))) rfl) (de_tup (da_cons (de_div (de_varP (pv 10 rfl (Or.inl rfl))) (de_varP (pv 7 rfl (Or.inl rfl)))) (da_cons (de_varP (pv 8 rfl (Or.inl rfl))) (da_cons (de_varP (pv 7 rfl (Or.inl rfl))) (da_cons (de_mod (de_varP (pv 10 rfl (Or.inl rfl))) (de_varP (pv 7 rfl (Or.inl rfl)))) da_nil))))) (de_tup (da_cons de_int (da_cons de_int (da_cons de_int (da_cons de_int da_nil))))))) rfl (Or.inr rfl)))))))) (dss_one (ds_ret (do_d (de_varP (pv 4 rfl (Or.inl rfl))))))))
theorem sc_more_of : FnScope ["recipe"] ["recipe"] (defScope (top 25)) := ⟨rfl, rfl, rfl, by decide +kernel, rfl, by decide +kernel, by decide +kernel⟩
theorem k_more_of (g : G K) : Kn P w K base 1 (erK K) "more_of" ["recipe"] φ_more_of := by
  show Kn P w K base (0 + 1) _ _ _ (run 1 1 [0] m_more_of)
  refine kn_of g.d_more_of sc_more_of (fun _ _ _ _ _ _ us hl => match us, hl with | [_], _ => rfl) fun f cdv A outer s H E hr => ?_
  exact (dss_one (ds_ret (do_d (de_if (dt_cm (cm_eq hr.units) (de_ix (de_varP (pv 0 rfl (Or.inl rfl))) de_int fun _ _ => rfl) de_str rfl) de_int de_int))))
theorem sc_upper : FnScope ["one", "other"] ["one", "other"] (defScope (top 14)) := ⟨rfl, rfl, rfl, by decide +kernel, rfl, by decide +kernel, by decide +kernel⟩
theorem k_upper (g : G K) : Kn P w K base 1 (erK K) "upper" ["one", "other"] φ_upper := by
  show Kn P w K base (0 + 1) _ _ _ (run 2 2 [0, 1] m_upper)
  refine kn_of g.d_upper sc_upper (fun _ _ _ _ _ _ us hl => match us, hl with | [_, _], _ => rfl) fun f cdv A outer s H E hr => ?_
  exact (dss_one (ds_ret (do_d (de_neg (de_div (de_neg (de_varP (pv 0 rfl (Or.inl rfl)))) (de_varP (pv 1 rfl (Or.inl rfl))))))))
theorem sc_full_count : FnScope ["divisor", "recipe", "over", "many", "more", "times", "full"] ["divisor", "recipe", "over", "many"] (defScope (top 30)) := ⟨rfl, rfl, rfl, by decide +kernel, rfl, by decide +kernel, by decide +kernel⟩
theorem k_full_count (g : G K) : Kn P w K base 2 (erK K) "full_count" ["divisor", "recipe", "over", "many"] φ_full_count := by
  show Kn P w K base (1 + 1) _ _ _ (run 4 7 [0, 1, 2, 3] m_full_count)
  refine kn_of g.d_full_count sc_full_count (fun _ _ _ _ _ _ us hl => match us, hl with | [_, _, _, _], _ => rfl) fun f cdv A outer s H E hr => ?_
  exact (dss_cons (ds_set2 rfl sc_full_count.nd rfl rfl (by decide) rfl rfl rfl rfl (do_d (de_frz (do_call (k_more_of (P := P) (w := w) (base := base) g) (hr.mono (by decide : 1 ≤ 1)) rfl (passAt takesB) (dr_cons (ag_d (de_varP (pv 1 rfl (Or.inl rfl)))) dr_nil)))) (do_d (de_ix (de_varP (pv 1 rfl (Or.inl rfl))) de_int fun _ _ => rfl)) rfl) (dss_cons (ds_if (dt_cm cm_ge (de_varP (pv 2 rfl (Or.inl rfl))) de_int rfl) (dss_cons (ds_set sc_full_count.nd rfl (Or.inl rfl) rfl (do_d (de_if (dt_cm (cm_eq hr.units) (de_varP (pv 2 rfl (Or.inl rfl))) de_int rfl) (de_varP (pv 3 rfl (Or.inl rfl))) (bi_min rfl rfl g.b_min (de_varP (pv 3 rfl (Or.inl rfl))) (bi_max rfl rfl g.b_max de_int (de_sub (de_frz (do_call (k_upper (P := P) (w := w) (base := base) g) (hr.mono (by decide : 1 ≤ 1)) rfl (passAt takesB) (dr_cons (ag_d (de_mul (de_sub (de_varP (pv 0 rfl (Or.inl rfl))) (de_varP (pv 4 rfl (Or.inl rfl)))) (de_varP (pv 5 rfl (Or.inl rfl))))) (dr_cons (ag_d (de_varP (pv 2 rfl (Or.inl rfl)))) dr_nil)))) de_int))))) rfl (Or.inr rfl)) (dss_one (ds_ret (do_d (de_add (de_add (de_frz (do_call (k_floor_sum (P := P) (w := w) (base := base) g) (hr.mono (by decide : 1 ≤ 1)) rfl (passAt takesB) (dr_cons (ag_d (de_varP (pv 6 rfl (Or.inl rfl)))) (dr_cons (ag_d (de_varP (pv 5 rfl (Or.inl rfl)))) (dr_cons (ag_d (de_varP (pv 2 rfl (Or.inl rfl)))) (dr_cons (ag_d (de_varP (pv 2 rfl (Or.inl rfl)))) dr_nil)))))) (de_mul (de_varP (pv 6 rfl (Or.inl rfl))) (de_varP (pv 4 rfl (Or.inl rfl))))) (de_mul (de_sub (de_varP (pv 3 rfl (Or.inl rfl))) (de_varP (pv 6 rfl (Or.inl rfl)))) (de_varP (pv 0 rfl (Or.inl rfl))))))))) dss_nil) (dss_cons (ds_if (dt_cm (cm_eq hr.units) (de_varP (pv 3 rfl (Or.inl rfl))) de_int rfl) (dss_one (ds_ret (do_d de_int))) dss_nil) (dss_cons (ds_if (dt_cm (cm_eq hr.units) (de_varP (pv 5 rfl (Or.inl rfl))) de_int rfl) (dss_one (ds_ret (do_d (de_mul (de_sub (de_varP (pv 3 rfl (Or.inl rfl))) de_int) (de_varP (pv 0 rfl (Or.inl rfl))))))) dss_nil) (dss_cons (ds_set sc_full_count.nd rfl (Or.inl rfl) rfl (do_d (bi_min rfl rfl g.b_min (de_varP (pv 3 rfl (Or.inl rfl))) (de_add (de_div (de_mul (de_sub (de_add (de_varP (pv 0 rfl (Or.inl rfl))) (de_varP (pv 4 rfl (Or.inl rfl)))) de_int) (de_varP (pv 5 rfl (Or.inl rfl)))) (de_neg (de_varP (pv 2 rfl (Or.inl rfl))))) de_int))) rfl (Or.inr rfl)) (dss_one (ds_ret (do_d (de_add (de_sub (de_frz (do_call (k_floor_sum (P := P) (w := w) (base := base) g) (hr.mono (by decide : 1 ≤ 1)) rfl (passAt takesB) (dr_cons (ag_d (de_varP (pv 6 rfl (Or.inl rfl)))) (dr_cons (ag_d (de_varP (pv 5 rfl (Or.inl rfl)))) (dr_cons (ag_d (de_neg (de_varP (pv 2 rfl (Or.inl rfl))))) (dr_cons (ag_d (de_sub (de_varP (pv 5 rfl (Or.inl rfl))) de_int)) dr_nil)))))) (de_mul (de_sub (de_varP (pv 6 rfl (Or.inl rfl))) de_int) (de_varP (pv 4 rfl (Or.inl rfl))))) (de_mul (de_sub (de_varP (pv 3 rfl (Or.inl rfl))) (de_varP (pv 6 rfl (Or.inl rfl)))) (de_varP (pv 0 rfl (Or.inl rfl)))))))))))))
theorem sc_early_count : FnScope ["divisor", "recipe", "over", "place"] ["divisor", "recipe", "over", "place"] (defScope (top 27)) := ⟨rfl, rfl, rfl, by decide +kernel, rfl, by decide +kernel, by decide +kernel⟩
theorem k_early_count (g : G K) : Kn P w K base 2 (erK K) "early_count" ["divisor", "recipe", "over", "place"] φ_early_count := by
  show Kn P w K base (1 + 1) _ _ _ (run 4 4 [0, 1, 2, 3] m_early_count)
  refine kn_of g.d_early_count sc_early_count (fun _ _ _ _ _ _ us hl => match us, hl with | [_, _, _, _], _ => rfl) fun f cdv A outer s H E hr => ?_
  exact (dss_cons (ds_if (dt_w (dw_or (dt_cm (cm_eq hr.units) (de_varP (pv 3 rfl (Or.inl rfl))) de_int rfl) (dw_or1 (dt_cm (cm_eq hr.units) (de_ix (de_varP (pv 1 rfl (Or.inl rfl))) de_int fun _ _ => rfl) de_int rfl)))) (dss_one (ds_ret (do_d (de_if (dt_cm cm_gt (de_varP (pv 3 rfl (Or.inl rfl))) de_int rfl) (de_varP (pv 0 rfl (Or.inl rfl))) de_int)))) dss_nil) (dss_one (ds_ret (do_d (bi_min rfl rfl g.b_min (de_varP (pv 0 rfl (Or.inl rfl))) (de_sub (de_frz (do_call (k_upper (P := P) (w := w) (base := base) g) (hr.mono (by decide : 1 ≤ 1)) rfl (passAt takesB) (dr_cons (ag_d (de_mul (de_neg (de_varP (pv 3 rfl (Or.inl rfl)))) (de_varP (pv 2 rfl (Or.inl rfl))))) (dr_cons (ag_d (de_ix (de_varP (pv 1 rfl (Or.inl rfl))) de_int fun _ _ => rfl)) dr_nil)))) (de_frz (do_call (k_more_of (P := P) (w := w) (base := base) g) (hr.mono (by decide : 1 ≤ 1)) rfl (passAt takesB) (dr_cons (ag_d (de_varP (pv 1 rfl (Or.inl rfl)))) dr_nil)))))))))
theorem sc_late_count : FnScope ["divisor", "recipe", "over", "place"] ["divisor", "recipe", "over", "place"] (defScope (top 26)) := ⟨rfl, rfl, rfl, by decide +kernel, rfl, by decide +kernel, by decide +kernel⟩
theorem k_late_count (g : G K) : Kn P w K base 2 (erK K) "late_count" ["divisor", "recipe", "over", "place"] φ_late_count := by
  show Kn P w K base (1 + 1) _ _ _ (run 4 4 [0, 1, 2, 3] m_late_count)
  refine kn_of g.d_late_count sc_late_count (fun _ _ _ _ _ _ us hl => match us, hl with | [_, _, _, _], _ => rfl) fun f cdv A outer s H E hr => ?_
  exact (dss_one (ds_ret (do_d (bi_min rfl rfl g.b_min (de_varP (pv 0 rfl (Or.inl rfl))) (de_add (de_div (de_mul (de_add (de_varP (pv 3 rfl (Or.inl rfl))) de_int) (de_varP (pv 2 rfl (Or.inl rfl)))) (de_ix (de_varP (pv 1 rfl (Or.inl rfl))) de_int fun _ _ => rfl)) (de_frz (do_call (k_more_of (P := P) (w := w) (base := base) g) (hr.mono (by decide : 1 ≤ 1)) rfl (passAt takesB) (dr_cons (ag_d (de_varP (pv 1 rfl (Or.inl rfl)))) dr_nil))))))))
theorem sc_top_in : FnScope ["width"] ["width"] (defScope (top 11)) := ⟨rfl, rfl, rfl, by decide +kernel, rfl, by decide +kernel, by decide +kernel⟩
theorem k_top_in (g : G K) : Kn P w K base 1 (erK K) "top_in" ["width"] φ_top_in := by
  show Kn P w K base (0 + 1) _ _ _ (run 1 1 [0] m_top_in)
  refine kn_of g.d_top_in sc_top_in (fun _ _ _ _ _ _ us hl => match us, hl with | [_], _ => rfl) fun f cdv A outer s H E hr => ?_
  exact (dss_one (ds_ret (do_d (de_sub (de_shl de_int (de_varP (pv 0 rfl (Or.inl rfl)))) de_int))))
theorem sc_piece_in : FnScope ["width", "divisor", "recipe", "place", "over", "low", "top", "first", "last"] ["width", "divisor", "recipe", "place"] (defScope (top 28)) := ⟨rfl, rfl, rfl, by decide +kernel, rfl, by decide +kernel, by decide +kernel⟩
theorem k_piece_in (g : G K) : Kn P w K base 3 (erK K) "piece_in" ["width", "divisor", "recipe", "place"] φ_piece_in := by
  show Kn P w K base (2 + 1) _ _ _ (run 4 9 [0, 1, 2, 3] m_piece_in)
  refine kn_of g.d_piece_in sc_piece_in (fun _ _ _ _ _ _ us hl => match us, hl with | [_, _, _, _], _ => rfl) fun f cdv A outer s H E hr => ?_
  exact (dss_cons (ds_set3 rfl sc_piece_in.nd rfl rfl rfl (by decide) (by decide) (by decide) rfl rfl rfl rfl rfl rfl (do_d (de_frz (do_call (k_excess_in (P := P) (w := w) (base := base) g) (hr.mono (by decide : 1 ≤ 2)) rfl (passAt takesB) (dr_cons (ag_d (de_varP (pv 1 rfl (Or.inl rfl)))) (dr_cons (ag_d (de_varP (pv 2 rfl (Or.inl rfl)))) dr_nil))))) (do_d (de_mul (de_varP (pv 3 rfl (Or.inl rfl))) (de_varP (pv 1 rfl (Or.inl rfl))))) (do_d (de_frz (do_call (k_top_in (P := P) (w := w) (base := base) g) (hr.mono (by decide : 1 ≤ 2)) rfl (passAt takesB) (dr_cons (ag_d (de_varP (pv 0 rfl (Or.inl rfl)))) dr_nil)))) rfl) (dss_cons (ds_if (dt_cm cm_ge (de_varP (pv 4 rfl (Or.inl rfl))) de_int rfl) (dss_one (ds_set2 rfl sc_piece_in.nd rfl rfl (by decide) rfl rfl rfl rfl (do_d (de_sub (de_add (de_varP (pv 5 rfl (Or.inl rfl))) (de_varP (pv 1 rfl (Or.inl rfl)))) (de_frz (do_call (k_late_count (P := P) (w := w) (base := base) g) (hr.mono (by decide : 2 ≤ 2)) rfl (passAt takesB) (dr_cons (ag_d (de_varP (pv 1 rfl (Or.inl rfl)))) (dr_cons (ag_d (de_varP (pv 2 rfl (Or.inl rfl)))) (dr_cons (ag_d (de_varP (pv 4 rfl (Or.inl rfl)))) (dr_cons (ag_d (de_varP (pv 3 rfl (Or.inl rfl)))) dr_nil)))))))) (do_d (de_sub (de_add (de_varP (pv 5 rfl (Or.inl rfl))) (de_varP (pv 1 rfl (Or.inl rfl)))) de_int)) rfl)) (dss_one (ds_set2 rfl sc_piece_in.nd rfl rfl (by decide) rfl rfl rfl rfl (do_d (de_varP (pv 5 rfl (Or.inl rfl)))) (do_d (de_sub (de_add (de_varP (pv 5 rfl (Or.inl rfl))) (de_frz (do_call (k_early_count (P := P) (w := w) (base := base) g) (hr.mono (by decide : 2 ≤ 2)) rfl (passAt takesB) (dr_cons (ag_d (de_varP (pv 1 rfl (Or.inl rfl)))) (dr_cons (ag_d (de_varP (pv 2 rfl (Or.inl rfl)))) (dr_cons (ag_d (de_varP (pv 4 rfl (Or.inl rfl)))) (dr_cons (ag_d (de_varP (pv 3 rfl (Or.inl rfl)))) dr_nil))))))) de_int)) rfl))) (dss_cons (ds_set sc_piece_in.nd rfl (Or.inl rfl) rfl (do_d (bi_min rfl rfl g.b_min (de_varP (pv 8 rfl (Or.inl rfl))) (de_varP (pv 6 rfl (Or.inl rfl))))) rfl (Or.inr rfl)) (dss_one (ds_ret (do_d (de_if (dt_cm cm_le (de_varP (pv 7 rfl (Or.inl rfl))) (de_varP (pv 8 rfl (Or.inl rfl))) rfl) (de_tup (da_cons (de_varP (pv 7 rfl (Or.inl rfl))) (da_cons (de_varP (pv 8 rfl (Or.inl rfl))) da_nil))) de_non)))))))
theorem sc_is_number : FnScope ["thing"] ["thing"] (defScope (top 3)) := ⟨rfl, rfl, rfl, by decide +kernel, rfl, by decide +kernel, by decide +kernel⟩
theorem k_is_number (g : G K) : Kn P w K base 1 (erK K) "is_number" ["thing"] φ_is_number := by
  show Kn P w K base (0 + 1) _ _ _ (run 1 1 [0] m_is_number)
  refine kn_of g.d_is_number sc_is_number (fun _ _ _ _ _ _ us hl => match us, hl with | [_], _ => rfl) fun f cdv A outer s H E hr => ?_
  exact (dss_one (ds_ret (do_d (de_andV (de_isi (t := .int) rfl g.b_isinstance rfl g.b_int boot_int (de_varP (pv 0 rfl (Or.inl rfl)))) (de_one (de_notV (de_isi (t := .bool) rfl g.b_isinstance rfl g.b_bool boot_bool (de_varP (pv 0 rfl (Or.inl rfl))))))))))
theorem sc_is_within : FnScope ["thing", "least", "most"] ["thing", "least", "most"] (defScope (top 4)) := ⟨rfl, rfl, rfl, by decide +kernel, rfl, by decide +kernel, by decide +kernel⟩
theorem k_is_within (g : G K) : Kn P w K base 2 (erK K) "is_within" ["thing", "least", "most"] φ_is_within := by
  show Kn P w K base (1 + 1) _ _ _ (run 3 3 [0, 1, 2] m_is_within)
  refine kn_of g.d_is_within sc_is_within (fun _ _ _ _ _ _ us hl => match us, hl with | [_, _, _], _ => rfl) fun f cdv A outer s H E hr => ?_
  exact (dss_one (ds_ret (do_d (de_andV (de_frz (do_call (k_is_number (P := P) (w := w) (base := base) g) (hr.mono (by decide : 1 ≤ 1)) rfl (passAt takesB) (dr_cons (ag_d (de_varP (pv 0 rfl (Or.inl rfl)))) dr_nil))) (de_one (de_chain cm_le cm_le (de_varP (pv 1 rfl (Or.inl rfl))) (de_varP (pv 0 rfl (Or.inl rfl))) (de_varP (pv 2 rfl (Or.inl rfl))) rfl))))))
theorem sc_sure_within : FnScope ["thing", "least", "most"] ["thing", "least", "most"] (defScope (top 7)) := ⟨rfl, rfl, rfl, by decide +kernel, rfl, by decide +kernel, by decide +kernel⟩
theorem k_sure_within (g : G K) : Kn P w K base 3 (erK K) "sure_within" ["thing", "least", "most"] φ_sure_within := by
  show Kn P w K base (2 + 1) _ _ _ (run 3 3 [0, 1, 2] m_sure_within)
  refine kn_of g.d_sure_within sc_sure_within (fun _ _ _ _ _ _ us hl => match us, hl with | [_, _, _], _ => rfl) fun f cdv A outer s H E hr => ?_
  exact (dss_cons (ds_if (dt_not (dt_tru (de_frz (do_call (k_is_within (P := P) (w := w) (base := base) g) (hr.mono (by decide : 2 ≤ 2)) rfl (passAt takesB) (dr_cons (ag_d (de_varP (pv 0 rfl (Or.inl rfl)))) (dr_cons (ag_d (de_varP (pv 1 rfl (Or.inl rfl)))) (dr_cons (ag_d (de_varP (pv 2 rfl (Or.inl rfl)))) dr_nil))))) fun _ => rfl)) (dss_one (ds_raise rfl takesB g.x_Unfit rfl (fun _ => ⟨rfl, rfl⟩))) dss_nil) (dss_one (ds_ret (do_d (de_varP (pv 0 rfl (Or.inl rfl)))))))
theorem sc_sure_divisor : FnScope ["width", "value"] ["width", "value"] (defScope (top 13)) := ⟨rfl, rfl, rfl, by decide +kernel, rfl, by decide +kernel, by decide +kernel⟩
theorem k_sure_divisor (g : G K) : Kn P w K base 4 (erK K) "sure_divisor" ["width", "value"] φ_sure_divisor := by
  show Kn P w K base (3 + 1) _ _ _ (run 2 2 [0, 1] m_sure_divisor)
  refine kn_of g.d_sure_divisor sc_sure_divisor (fun _ _ _ _ _ _ us hl => match us, hl with | [_, _], _ => rfl) fun f cdv A outer s H E hr => ?_
  exact (dss_one (ds_ret (do_call (k_sure_within (P := P) (w := w) (base := base) g) (hr.mono (by decide : 3 ≤ 3)) rfl (passAt takesB) (dr_cons (ag_d (de_varP (pv 1 rfl (Or.inl rfl)))) (dr_cons (ag_d de_int) (dr_cons (ag_d (de_frz (do_call (k_top_in (P := P) (w := w) (base := base) g) (hr.mono (by decide : 1 ≤ 3)) rfl (passAt takesB) (dr_cons (ag_d (de_varP (pv 0 rfl (Or.inl rfl)))) dr_nil)))) dr_nil))))))
theorem sc_is_long : FnScope ["thing", "length"] ["thing", "length"] (defScope (top 5)) := ⟨rfl, rfl, rfl, by decide +kernel, rfl, by decide +kernel, by decide +kernel⟩
theorem k_is_long (g : G K) : Kn P w K base 1 (erK K) "is_long" ["thing", "length"] φ_is_long := by
  show Kn P w K base (0 + 1) _ _ _ (run 2 2 [0, 1] m_is_long)
  refine kn_of g.d_is_long sc_is_long (fun _ _ _ _ _ _ us hl => match us, hl with | [_, _], _ => rfl) fun f cdv A outer s H E hr => ?_
  exact (dss_one (ds_ret (do_d (de_andV (de_isi (t := .tuple) rfl g.b_isinstance rfl g.b_tuple boot_tuple (de_varP (pv 0 rfl (Or.inl rfl)))) (de_one (de_cm (cm_eq hr.units) (bi_len rfl g.b_len (de_varP (pv 0 rfl (Or.inl rfl)))) (de_varP (pv 1 rfl (Or.inl rfl))) rfl))))))
theorem sc_is_recipe_in : FnScope ["width", "thing"] ["width", "thing"] (defScope (top 17)) := ⟨rfl, rfl, rfl, by decide +kernel, rfl, by decide +kernel, by decide +kernel⟩
theorem k_is_recipe_in (g : G K) : Kn P w K base 3 (erK K) "is_recipe_in" ["width", "thing"] φ_is_recipe_in := by
  show Kn P w K base (2 + 1) _ _ _ (run 2 2 [0, 1] m_is_recipe_in)
  refine kn_of g.d_is_recipe_in sc_is_recipe_in (fun _ _ _ _ _ _ us hl => match us, hl with | [_, _], _ => rfl) fun f cdv A outer s H E hr => ?_
  exact (dss_cons (ds_if (dt_w (dw_or (dt_not (dt_tru (de_frz (do_call (k_is_long (P := P) (w := w) (base := base) g) (hr.mono (by decide : 1 ≤ 2)) rfl (passAt takesB) (dr_cons (ag_d (de_varP (pv 1 rfl (Or.inl rfl)))) (dr_cons (ag_d de_int) dr_nil)))) fun _ => rfl)) (dw_or (dt_not (dt_tru (de_isi (t := .str) rfl g.b_isinstance rfl g.b_str boot_str (de_ix (de_varP (pv 1 rfl (Or.inl rfl))) de_int fun _ _ => rfl)) fun _ => rfl)) (dw_or1 (dt_cm cm_notIn (de_ix (de_varP (pv 1 rfl (Or.inl rfl))) de_int fun _ _ => rfl) (de_gdat rfl g.k_KINDS) rfl))))) (dss_one (ds_ret (do_d de_bl))) dss_nil) (dss_one (ds_ret (do_d (de_andV (de_frz (do_call (k_is_within (P := P) (w := w) (base := base) g) (hr.mono (by decide : 2 ≤ 2)) rfl (passAt takesB) (dr_cons (ag_d (de_ix (de_varP (pv 1 rfl (Or.inl rfl))) de_int fun _ _ => rfl)) (dr_cons (ag_d de_int) (dr_cons (ag_d (de_add (de_mul de_int (de_frz (do_call (k_top_in (P := P) (w := w) (base := base) g) (hr.mono (by decide : 1 ≤ 2)) rfl (passAt takesB) (dr_cons (ag_d (de_varP (pv 0 rfl (Or.inl rfl)))) dr_nil)))) de_int)) dr_nil))))) (de_one (de_frz (do_call (k_is_within (P := P) (w := w) (base := base) g) (hr.mono (by decide : 2 ≤ 2)) rfl (passAt takesB) (dr_cons (ag_d (de_ix (de_varP (pv 1 rfl (Or.inl rfl))) de_int fun _ _ => rfl)) (dr_cons (ag_d de_int) (dr_cons (ag_d (de_mul de_int (de_varP (pv 0 rfl (Or.inl rfl))))) dr_nil)))))))))))
theorem sc_tupled : FnScope ["value", "own"] ["value"] (defScope (top 6)) := ⟨rfl, rfl, rfl, by decide +kernel, rfl, by decide +kernel, by decide +kernel⟩
theorem k_tupled (g : G K) : ∀ n, Kn P w K base (1 + n) (erK K) "tupled" ["value"] (φ_tupled n)
  | 0 => kn_stuck g.d_tupled (fun _ _ _ _ _ _ us hl => match us, hl with | [_], _ => rfl)
  | n + 1 => by
    have hrec := k_tupled g n
    show Kn P w K base (1 + n + 1) _ _ _ (run 1 2 [0] (m_tupled (φ_tupled n)))
    refine kn_of g.d_tupled sc_tupled (fun _ _ _ _ _ _ us hl => match us, hl with | [_], _ => rfl) fun f cdv A outer s H E hr => ?_
    exact (dss_one (ds_ret (do_d (de_if (dt_tru (de_isi2 (t := .list) (u := .tuple) rfl g.b_isinstance rfl g.b_list boot_list rfl g.b_tuple boot_tuple (de_varP (pv 0 rfl (Or.inl rfl)))) fun _ => rfl) (bi_tuple rfl g.b_tuple (de_frz (do_lc rfl sc_tupled.nd (di_seq (de_varP (pv 0 rfl (Or.inl rfl)))) (blkOk_by (N := (["value", "own"] : List Str)) (sc := defScope (top 6)) (own := ([("own", 1)] : List (Str × Nat))) (by decide +kernel)) rfl (fun _ _ _ _ _ => (dg_n sc_tupled.nd rfl (Or.inl rfl) rfl (Or.inr rfl))) (fun _ _ _ _ _ => bif_nil) (fun _ _ _ _ _ => (de_frz (do_call hrec (hr.mono (Nat.le_refl _)) rfl passNo (dr_cons (ag_d (de_varP (pv 1 rfl (Or.inl rfl)))) dr_nil))))))) (de_varP (pv 0 rfl (Or.inl rfl)))))))
theorem sc_sure_recipe : FnScope ["width", "value", "own"] ["width", "value"] (defScope (top 18)) := ⟨rfl, rfl, rfl, by decide +kernel, rfl, by decide +kernel, by decide +kernel⟩
theorem k_sure_recipe (g : G K) : Kn P w K base 8 (erK K) "sure_recipe" ["width", "value"] φ_sure_recipe := by
  show Kn P w K base (7 + 1) _ _ _ (run 2 3 [0, 1] m_sure_recipe)
  refine kn_of g.d_sure_recipe sc_sure_recipe (fun _ _ _ _ _ _ us hl => match us, hl with | [_, _], _ => rfl) fun f cdv A outer s H E hr => ?_
  exact (dss_cons (ds_set sc_sure_recipe.nd rfl (Or.inl rfl) rfl (do_d (de_frz (do_call (k_tupled (P := P) (w := w) (base := base) g 6) (hr.mono (by decide : 7 ≤ 7)) rfl (passAt takesB) (dr_cons (ag_d (de_varP (pv 1 rfl (Or.inl rfl)))) dr_nil)))) rfl (Or.inr rfl)) (dss_cons (ds_if (dt_not (dt_tru (de_frz (do_call (k_is_recipe_in (P := P) (w := w) (base := base) g) (hr.mono (by decide : 3 ≤ 7)) rfl (passAt takesB) (dr_cons (ag_d (de_varP (pv 0 rfl (Or.inl rfl)))) (dr_cons (ag_d (de_varP (pv 2 rfl (Or.inl rfl)))) dr_nil)))) fun _ => rfl)) (dss_one (ds_raise rfl takesB g.x_Unfit rfl (fun _ => ⟨rfl, rfl⟩))) dss_nil) (dss_one (ds_ret (do_d (de_varP (pv 2 rfl (Or.inl rfl))))))))
theorem sc_sure_width : FnScope ["value"] ["value"] (defScope (top 10)) := ⟨rfl, rfl, rfl, by decide +kernel, rfl, by decide +kernel, by decide +kernel⟩
theorem k_sure_width (g : G K) : Kn P w K base 4 (erK K) "sure_width" ["value"] φ_sure_width := by
  show Kn P w K base (3 + 1) _ _ _ (run 1 1 [0] m_sure_width)
  refine kn_of g.d_sure_width sc_sure_width (fun _ _ _ _ _ _ us hl => match us, hl with | [_], _ => rfl) fun f cdv A outer s H E hr => ?_
  exact (dss_one (ds_ret (do_call (k_sure_within (P := P) (w := w) (base := base) g) (hr.mono (by decide : 3 ≤ 3)) rfl (passAt takesB) (dr_cons (ag_d (de_varP (pv 0 rfl (Or.inl rfl)))) (dr_cons (ag_d de_int) (dr_cons (ag_d (de_gint rfl g.c_MOST_WIDTH)) dr_nil))))))
theorem sc_sure_three : FnScope ["width", "divisor", "recipe", "own", "told"] ["width", "divisor", "recipe"] (defScope (top 20)) := ⟨rfl, rfl, rfl, by decide +kernel, rfl, by decide +kernel, by decide +kernel⟩
theorem k_sure_three (g : G K) : Kn P w K base 9 (erK K) "sure_three" ["width", "divisor", "recipe"] φ_sure_three := by
  show Kn P w K base (8 + 1) _ _ _ (run 3 5 [0, 1, 2] m_sure_three)
  refine kn_of g.d_sure_three sc_sure_three (fun _ _ _ _ _ _ us hl => match us, hl with | [_, _, _], _ => rfl) fun f cdv A outer s H E hr => ?_
  exact (dss_cons (ds_set sc_sure_three.nd rfl (Or.inl rfl) rfl (do_d (de_frz (do_call (k_sure_width (P := P) (w := w) (base := base) g) (hr.mono (by decide : 4 ≤ 8)) rfl (passAt takesB) (dr_cons (ag_d (de_varP (pv 0 rfl (Or.inl rfl)))) dr_nil)))) rfl (Or.inr rfl)) (dss_cons (ds_set sc_sure_three.nd rfl (Or.inl rfl) rfl (do_d (de_frz (do_call (k_sure_divisor (P := P) (w := w) (base := base) g) (hr.mono (by decide : 4 ≤ 8)) rfl (passAt takesB) (dr_cons (ag_d (de_varP (pv 3 rfl (Or.inl rfl)))) (dr_cons (ag_d (de_varP (pv 1 rfl (Or.inl rfl)))) dr_nil))))) rfl (Or.inr rfl)) (dss_one (ds_ret (do_d (de_tup (da_cons (de_varP (pv 3 rfl (Or.inl rfl))) (da_cons (de_varP (pv 4 rfl (Or.inl rfl))) (da_cons (de_frz (do_call (k_sure_recipe (P := P) (w := w) (base := base) g) (hr.mono (by decide : 8 ≤ 8)) rfl (passAt takesB) (dr_cons (ag_d (de_varP (pv 3 rfl (Or.inl rfl)))) (dr_cons (ag_d (de_varP (pv 2 rfl (Or.inl rfl)))) dr_nil)))) da_nil)))))))))
theorem sc_sure_word : FnScope ["width", "value"] ["width", "value"] (defScope (top 12)) := ⟨rfl, rfl, rfl, by decide +kernel, rfl, by decide +kernel, by decide +kernel⟩
theorem k_sure_word (g : G K) : Kn P w K base 4 (erK K) "sure_word" ["width", "value"] φ_sure_word := by
  show Kn P w K base (3 + 1) _ _ _ (run 2 2 [0, 1] m_sure_word)
  refine kn_of g.d_sure_word sc_sure_word (fun _ _ _ _ _ _ us hl => match us, hl with | [_, _], _ => rfl) fun f cdv A outer s H E hr => ?_
  exact (dss_one (ds_ret (do_call (k_sure_within (P := P) (w := w) (base := base) g) (hr.mono (by decide : 3 ≤ 3)) rfl (passAt takesB) (dr_cons (ag_d (de_varP (pv 1 rfl (Or.inl rfl)))) (dr_cons (ag_d de_int) (dr_cons (ag_d (de_frz (do_call (k_top_in (P := P) (w := w) (base := base) g) (hr.mono (by decide : 1 ≤ 3)) rfl (passAt takesB) (dr_cons (ag_d (de_varP (pv 0 rfl (Or.inl rfl)))) dr_nil)))) dr_nil))))))
theorem sc_sure_bound : FnScope ["width", "divisor", "recipe", "bound", "own", "many", "told"] ["width", "divisor", "recipe", "bound"] (defScope (top 37)) := ⟨rfl, rfl, rfl, by decide +kernel, rfl, by decide +kernel, by decide +kernel⟩
theorem k_sure_bound (g : G K) : Kn P w K base 10 (erK K) "sure_bound" ["width", "divisor", "recipe", "bound"] φ_sure_bound := by
  show Kn P w K base (9 + 1) _ _ _ (run 4 7 [0, 1, 2, 3] m_sure_bound)
  refine kn_of g.d_sure_bound sc_sure_bound (fun _ _ _ _ _ _ us hl => match us, hl with | [_, _, _, _], _ => rfl) fun f cdv A outer s H E hr => ?_
  exact (dss_cons (ds_asg (de_frz (do_call (k_sure_three (P := P) (w := w) (base := base) g) (hr.mono (by decide : 9 ≤ 9)) rfl (passAt takesB) (dr_cons (ag_d (de_varP (pv 0 rfl (Or.inl rfl)))) (dr_cons (ag_d (de_varP (pv 1 rfl (Or.inl rfl)))) (dr_cons (ag_d (de_varP (pv 2 rfl (Or.inl rfl)))) dr_nil))))) (dg_t rfl (dgs_cons (dg_n sc_sure_bound.nd rfl (Or.inl rfl) rfl (Or.inr rfl)) (dgs_cons (dg_n sc_sure_bound.nd rfl (Or.inl rfl) rfl (Or.inr rfl)) (dgs_cons (dg_n sc_sure_bound.nd rfl (Or.inl rfl) rfl (Or.inr rfl)) dgs_nil))))) (dss_one (ds_ret (do_d (de_tup (da_cons (de_varP (pv 4 rfl (Or.inl rfl))) (da_cons (de_varP (pv 5 rfl (Or.inl rfl))) (da_cons (de_varP (pv 6 rfl (Or.inl rfl))) (da_cons (de_frz (do_call (k_sure_word (P := P) (w := w) (base := base) g) (hr.mono (by decide : 4 ≤ 9)) rfl (passAt takesB) (dr_cons (ag_d (de_varP (pv 4 rfl (Or.inl rfl)))) (dr_cons (ag_d (de_varP (pv 3 rfl (Or.inl rfl)))) dr_nil)))) da_nil)))))))))
theorem sc_errs_to : FnScope ["width", "divisor", "recipe", "bound", "own", "many", "told", "top", "place", "piece", "found"] ["width", "divisor", "recipe", "bound"] (defScope (top 41)) := ⟨rfl, rfl, rfl, by decide +kernel, rfl, by decide +kernel, by decide +kernel⟩
theorem k_errs_to (g : G K) : KnK P w K base 11 (erK K) "errs_to" ["width", "divisor", "recipe", "bound"] φ_errs_to := by
  show KnK P w K base (10 + 1) _ _ _ (run 4 11 [0, 1, 2, 3] m_errs_to)
  refine knK_of g.d_errs_to sc_errs_to (fun _ _ _ _ _ _ us hl => match us, hl with | [_, _, _, _], _ => rfl) (fun _ _ _ _ _ _ us hl => match us, hl with | [_, _, _, _], _ => rfl) fun f cdv A outer s H E hr => ?_
  exact (dss_cons (ds_asg (de_frz (do_call (k_sure_bound (P := P) (w := w) (base := base) g) (hr.mono (by decide : 10 ≤ 10)) rfl (passAt takesB) (dr_cons (ag_d (de_varP (pv 0 rfl (Or.inl rfl)))) (dr_cons (ag_d (de_varP (pv 1 rfl (Or.inl rfl)))) (dr_cons (ag_d (de_varP (pv 2 rfl (Or.inl rfl)))) (dr_cons (ag_d (de_varP (pv 3 rfl (Or.inl rfl)))) dr_nil)))))) (dg_t rfl (dgs_cons (dg_n sc_errs_to.nd rfl (Or.inl rfl) rfl (Or.inr rfl)) (dgs_cons (dg_n sc_errs_to.nd rfl (Or.inl rfl) rfl (Or.inr rfl)) (dgs_cons (dg_n sc_errs_to.nd rfl (Or.inl rfl) rfl (Or.inr rfl)) (dgs_cons (dg_n sc_errs_to.nd rfl (Or.inl rfl) rfl (Or.inr rfl)) dgs_nil)))))) (dss_cons (ds_set sc_errs_to.nd rfl (Or.inl rfl) rfl (do_d (de_div (de_varP (pv 7 rfl (Or.inl rfl))) (de_varP (pv 5 rfl (Or.inl rfl))))) rfl (Or.inr rfl)) (dss_cons (ds_set sc_errs_to.nd rfl (Or.inl rfl) rfl (do_d (de_frz (do_call (k_piece_in (P := P) (w := w) (base := base) g) (hr.mono (by decide : 3 ≤ 10)) rfl (passAt takesB) (dr_cons (ag_d (de_varP (pv 4 rfl (Or.inl rfl)))) (dr_cons (ag_d (de_varP (pv 5 rfl (Or.inl rfl)))) (dr_cons (ag_d (de_varP (pv 6 rfl (Or.inl rfl)))) (dr_cons (ag_d (de_varP (pv 8 rfl (Or.inl rfl)))) dr_nil))))))) rfl (Or.inr rfl)) (dss_cons (ds_set sc_errs_to.nd rfl (Or.inl rfl) rfl (do_d (de_frz (do_call (k_full_count (P := P) (w := w) (base := base) g) (hr.mono (by decide : 2 ≤ 10)) rfl (passAt takesB) (dr_cons (ag_d (de_varP (pv 5 rfl (Or.inl rfl)))) (dr_cons (ag_d (de_varP (pv 6 rfl (Or.inl rfl)))) (dr_cons (ag_d (de_frz (do_call (k_excess_in (P := P) (w := w) (base := base) g) (hr.mono (by decide : 1 ≤ 10)) rfl (passAt takesB) (dr_cons (ag_d (de_varP (pv 5 rfl (Or.inl rfl)))) (dr_cons (ag_d (de_varP (pv 6 rfl (Or.inl rfl)))) dr_nil))))) (dr_cons (ag_d (de_varP (pv 8 rfl (Or.inl rfl)))) dr_nil))))))) rfl (Or.inr rfl)) (dss_one (ds_ret (do_d (de_add (de_varP (pv 10 rfl (Or.inl rfl))) (de_if (dt_cm cm_notN (de_varP (pv 9 rfl (Or.inl rfl))) de_non rfl) (bi_max rfl rfl g.b_max de_int (de_sub (de_add (bi_min rfl rfl g.b_min (de_varP (pv 7 rfl (Or.inl rfl))) (de_ix (de_varP (pv 9 rfl (Or.inl rfl))) de_int fun _ _ => rfl)) de_int) (de_ix (de_varP (pv 9 rfl (Or.inl rfl))) de_int fun _ _ => rfl))) de_int)))))))))
theorem sc_looks_to_in : FnScope ["divisor", "recipe", "bound", "found"] ["divisor", "recipe", "bound"] (defScope (top 33)) := ⟨rfl, rfl, rfl, by decide +kernel, rfl, by decide +kernel, by decide +kernel⟩
theorem k_looks_to_in (g : G K) : Kn P w K base 1 (erK K) "looks_to_in" ["divisor", "recipe", "bound"] φ_looks_to_in := by
  show Kn P w K base (0 + 1) _ _ _ (run 3 4 [0, 1, 2] m_looks_to_in)
  refine kn_of g.d_looks_to_in sc_looks_to_in (fun _ _ _ _ _ _ us hl => match us, hl with | [_, _, _], _ => rfl) fun f cdv A outer s H E hr => ?_
  exact (dss_cons (ds_if (dt_cm cm_lt (de_varP (pv 2 rfl (Or.inl rfl))) (de_sub (de_varP (pv 0 rfl (Or.inl rfl))) de_int) rfl) (dss_one (ds_ret (do_d (de_tup (da_cons (de_varP (pv 2 rfl (Or.inl rfl))) da_nil))))) dss_nil) (dss_cons (ds_if (dt_cm (cm_eq hr.units) (de_ix (de_varP (pv 1 rfl (Or.inl rfl))) de_int fun _ _ => rfl) de_str rfl) (dss_one (ds_set sc_looks_to_in.nd rfl (Or.inl rfl) rfl (do_d (de_frz (do_cat (do_lst (da_cons (de_sub (de_mul (de_div (de_add (de_varP (pv 2 rfl (Or.inl rfl))) de_int) (de_varP (pv 0 rfl (Or.inl rfl)))) (de_varP (pv 0 rfl (Or.inl rfl)))) de_int) da_nil)) (do_if (dt_cm cm_le (de_varP (pv 0 rfl (Or.inl rfl))) (de_varP (pv 2 rfl (Or.inl rfl))) rfl) (do_lst (da_cons (de_varP (pv 0 rfl (Or.inl rfl))) da_nil)) (do_lst da_nil))))) rfl (Or.inr rfl))) (dss_one (ds_set sc_looks_to_in.nd rfl (Or.inl rfl) rfl (do_d (de_frz (do_lst (da_cons (de_sub (de_varP (pv 0 rfl (Or.inl rfl))) de_int) (da_cons (de_mul (de_div (de_varP (pv 2 rfl (Or.inl rfl))) (de_varP (pv 0 rfl (Or.inl rfl)))) (de_varP (pv 0 rfl (Or.inl rfl)))) da_nil))))) rfl (Or.inr rfl)))) (dss_one (ds_ret (do_d (bi_tuple rfl g.b_tuple (de_frz (do_sortSet rfl rfl g.b_sorted rfl g.b_set (de_varP (pv 3 rfl (Or.inl rfl)))))))))))
theorem sc_value_of : FnScope ["recipe", "word", "kind", "many", "shift"] ["recipe", "word"] (defScope (top 21)) := ⟨rfl, rfl, rfl, by decide +kernel, rfl, by decide +kernel, by decide +kernel⟩
theorem k_value_of (g : G K) : Kn P w K base 1 (erK K) "value_of" ["recipe", "word"] φ_value_of := by
  show Kn P w K base (0 + 1) _ _ _ (run 2 5 [0, 1] m_value_of)
  refine kn_of g.d_value_of sc_value_of (fun _ _ _ _ _ _ us hl => match us, hl with | [_, _], _ => rfl) fun f cdv A outer s H E hr => ?_
  exact (dss_cons (ds_asg (de_varP (pv 0 rfl (Or.inl rfl))) (dg_t rfl (dgs_cons (dg_n sc_value_of.nd rfl (Or.inl rfl) rfl (Or.inr rfl)) (dgs_cons (dg_n sc_value_of.nd rfl (Or.inl rfl) rfl (Or.inr rfl)) (dgs_cons (dg_n sc_value_of.nd rfl (Or.inl rfl) rfl (Or.inr rfl)) dgs_nil))))) (dss_one (ds_ret (do_d (de_shr (de_mul (de_if (dt_cm (cm_eq hr.units) (de_varP (pv 2 rfl (Or.inl rfl))) de_str rfl) (de_varP (pv 1 rfl (Or.inl rfl))) (de_add (de_varP (pv 1 rfl (Or.inl rfl))) de_int)) (de_varP (pv 3 rfl (Or.inl rfl)))) (de_varP (pv 4 rfl (Or.inl rfl))))))))
theorem sc_right_to_in : FnScope ["divisor", "recipe", "bound", "word"] ["divisor", "recipe", "bound"] (defScope (top 34)) := ⟨rfl, rfl, rfl, by decide +kernel, rfl, by decide +kernel, by decide +kernel⟩
theorem k_right_to_in (g : G K) : Kn P w K base 2 (erK K) "right_to_in" ["divisor", "recipe", "bound"] φ_right_to_in := by
  show Kn P w K base (1 + 1) _ _ _ (run 3 4 [0, 1, 2] m_right_to_in)
  refine kn_of g.d_right_to_in sc_right_to_in (fun _ _ _ _ _ _ us hl => match us, hl with | [_, _, _], _ => rfl) fun f cdv A outer s H E hr => ?_
  exact (dss_one (ds_ret (do_d (bi_all rfl rfl g.b_all (de_frz (do_lc rfl sc_right_to_in.nd (di_seq (de_frz (do_call (k_looks_to_in (P := P) (w := w) (base := base) g) (hr.mono (by decide : 1 ≤ 1)) rfl (passAt takesB) (dr_cons (ag_d (de_varP (pv 0 rfl (Or.inr (Or.inl rfl))))) (dr_cons (ag_d (de_varP (pv 1 rfl (Or.inr (Or.inl rfl))))) (dr_cons (ag_d (de_varP (pv 2 rfl (Or.inl rfl)))) dr_nil)))))) (blkOk_by (N := (["divisor", "recipe", "bound", "word"] : List Str)) (sc := defScope (top 34)) (own := ([("word", 3)] : List (Str × Nat))) (by decide +kernel)) rfl (fun _ _ _ _ _ => (dg_n sc_right_to_in.nd rfl (Or.inl rfl) rfl (Or.inr rfl))) (fun _ _ _ _ _ => bif_nil) (fun _ _ _ _ _ => (de_cm (cm_eq hr.units) (de_frz (do_call (k_value_of (P := P) (w := w) (base := base) g) (hr.mono (by decide : 1 ≤ 1)) rfl passNo (dr_cons (ag_d (de_varP (pv 1 rfl (Or.inr (Or.inl rfl))))) (dr_cons (ag_d (de_varP (pv 3 rfl (Or.inl rfl)))) dr_nil)))) (de_div (de_varP (pv 3 rfl (Or.inl rfl))) (de_varP (pv 0 rfl (Or.inr (Or.inl rfl))))) rfl))))))))
theorem sc_is_right_to : FnScope ["width", "divisor", "recipe", "bound", "own", "many", "told", "top"] ["width", "divisor", "recipe", "bound"] (defScope (top 39)) := ⟨rfl, rfl, rfl, by decide +kernel, rfl, by decide +kernel, by decide +kernel⟩
theorem k_is_right_to (g : G K) : KnK P w K base 11 (erK K) "is_right_to" ["width", "divisor", "recipe", "bound"] φ_is_right_to := by
  show KnK P w K base (10 + 1) _ _ _ (run 4 8 [0, 1, 2, 3] m_is_right_to)
  refine knK_of g.d_is_right_to sc_is_right_to (fun _ _ _ _ _ _ us hl => match us, hl with | [_, _, _, _], _ => rfl) (fun _ _ _ _ _ _ us hl => match us, hl with | [_, _, _, _], _ => rfl) fun f cdv A outer s H E hr => ?_
  exact (dss_cons (ds_asg (de_frz (do_call (k_sure_bound (P := P) (w := w) (base := base) g) (hr.mono (by decide : 10 ≤ 10)) rfl (passAt takesB) (dr_cons (ag_d (de_varP (pv 0 rfl (Or.inl rfl)))) (dr_cons (ag_d (de_varP (pv 1 rfl (Or.inl rfl)))) (dr_cons (ag_d (de_varP (pv 2 rfl (Or.inl rfl)))) (dr_cons (ag_d (de_varP (pv 3 rfl (Or.inl rfl)))) dr_nil)))))) (dg_t rfl (dgs_cons (dg_n sc_is_right_to.nd rfl (Or.inl rfl) rfl (Or.inr rfl)) (dgs_cons (dg_n sc_is_right_to.nd rfl (Or.inl rfl) rfl (Or.inr rfl)) (dgs_cons (dg_n sc_is_right_to.nd rfl (Or.inl rfl) rfl (Or.inr rfl)) (dgs_cons (dg_n sc_is_right_to.nd rfl (Or.inl rfl) rfl (Or.inr rfl)) dgs_nil)))))) (dss_one (ds_ret (do_call (k_right_to_in (P := P) (w := w) (base := base) g) (hr.mono (by decide : 2 ≤ 10)) rfl (passAt takesB) (dr_cons (ag_d (de_varP (pv 5 rfl (Or.inl rfl)))) (dr_cons (ag_d (de_varP (pv 6 rfl (Or.inl rfl)))) (dr_cons (ag_d (de_varP (pv 7 rfl (Or.inl rfl)))) dr_nil)))))))
theorem sc_times_in : FnScope ["width", "divisor", "kind", "shift", "every", "goal", "most", "last", "low", "high"] ["width", "divisor", "kind", "shift"] (defScope (top 46)) := ⟨rfl, rfl, rfl, by decide +kernel, rfl, by decide +kernel, by decide +kernel⟩
theorem k_times_in (g : G K) : Kn P w K base 2 (erK K) "times_in" ["width", "divisor", "kind", "shift"] φ_times_in := by
  show Kn P w K base (1 + 1) _ _ _ (run 4 10 [0, 1, 2, 3] m_times_in)
  refine kn_of g.d_times_in sc_times_in (fun _ _ _ _ _ _ us hl => match us, hl with | [_, _, _, _], _ => rfl) fun f cdv A outer s H E hr => ?_
  exact (dss_cons (ds_set3 rfl sc_times_in.nd rfl rfl rfl (by decide) (by decide) (by decide) rfl rfl rfl rfl rfl rfl (do_d (de_shl de_int (de_varP (pv 0 rfl (Or.inl rfl))))) (do_d (de_shl de_int (de_varP (pv 3 rfl (Or.inl rfl))))) (do_d (de_add (de_mul de_int (de_frz (do_call (k_top_in (P := P) (w := w) (base := base) g) (hr.mono (by decide : 1 ≤ 1)) rfl (passAt takesB) (dr_cons (ag_d (de_varP (pv 0 rfl (Or.inl rfl)))) dr_nil)))) de_int)) rfl) (dss_cons (ds_if (dt_cm (cm_eq hr.units) (de_varP (pv 2 rfl (Or.inl rfl))) de_str rfl) (dss_cons (ds_set sc_times_in.nd rfl (Or.inl rfl) rfl (do_d (de_sub (de_mul (de_div (de_varP (pv 4 rfl (Or.inl rfl))) (de_varP (pv 1 rfl (Or.inl rfl)))) (de_varP (pv 1 rfl (Or.inl rfl)))) de_int)) rfl (Or.inr rfl)) (dss_one (ds_set2 rfl sc_times_in.nd rfl rfl (by decide) rfl rfl rfl rfl (do_d (de_frz (do_call (k_upper (P := P) (w := w) (base := base) g) (hr.mono (by decide : 1 ≤ 1)) rfl (passAt takesB) (dr_cons (ag_d (de_varP (pv 5 rfl (Or.inl rfl)))) (dr_cons (ag_d (de_varP (pv 1 rfl (Or.inl rfl)))) dr_nil))))) (do_d (de_div (de_add (de_varP (pv 5 rfl (Or.inl rfl))) (de_div (de_sub (de_varP (pv 5 rfl (Or.inl rfl))) de_int) (de_varP (pv 7 rfl (Or.inl rfl))))) (de_varP (pv 1 rfl (Or.inl rfl))))) rfl))) (dss_cons (ds_set sc_times_in.nd rfl (Or.inl rfl) rfl (do_d (de_mul (de_div (de_sub (de_varP (pv 4 rfl (Or.inl rfl))) de_int) (de_varP (pv 1 rfl (Or.inl rfl)))) (de_varP (pv 1 rfl (Or.inl rfl))))) rfl (Or.inr rfl)) (dss_one (ds_set2 rfl sc_times_in.nd rfl rfl (by decide) rfl rfl rfl rfl (do_d (de_frz (do_call (k_upper (P := P) (w := w) (base := base) g) (hr.mono (by decide : 1 ≤ 1)) rfl (passAt takesB) (dr_cons (ag_d (de_sub (de_varP (pv 5 rfl (Or.inl rfl))) (de_div (de_varP (pv 5 rfl (Or.inl rfl))) (de_add (de_varP (pv 7 rfl (Or.inl rfl))) de_int)))) (dr_cons (ag_d (de_varP (pv 1 rfl (Or.inl rfl)))) dr_nil))))) (do_d (de_sub (de_frz (do_call (k_upper (P := P) (w := w) (base := base) g) (hr.mono (by decide : 1 ≤ 1)) rfl (passAt takesB) (dr_cons (ag_d (de_varP (pv 5 rfl (Or.inl rfl)))) (dr_cons (ag_d (de_varP (pv 1 rfl (Or.inl rfl)))) dr_nil)))) de_int)) rfl)))) (dss_cons (ds_set2 rfl sc_times_in.nd rfl rfl (by decide) rfl rfl rfl rfl (do_d (bi_max rfl rfl g.b_max de_int (de_varP (pv 8 rfl (Or.inl rfl))))) (do_d (bi_min rfl rfl g.b_min (de_varP (pv 9 rfl (Or.inl rfl))) (de_varP (pv 6 rfl (Or.inl rfl))))) rfl) (dss_one (ds_ret (do_d (de_if (dt_cm cm_le (de_varP (pv 8 rfl (Or.inl rfl))) (de_varP (pv 9 rfl (Or.inl rfl))) rfl) (de_tup (da_cons (de_varP (pv 8 rfl (Or.inl rfl))) (da_cons (de_varP (pv 9 rfl (Or.inl rfl))) da_nil))) de_non)))))))
theorem sc_shift_in : FnScope ["width", "divisor", "kind", "shift"] ["width", "divisor", "kind"] (defScope (top 47)) := ⟨rfl, rfl, rfl, by decide +kernel, rfl, by decide +kernel, by decide +kernel⟩
theorem k_shift_in (g : G K) : Kn P w K base 3 (erK K) "shift_in" ["width", "divisor", "kind"] φ_shift_in := by
  show Kn P w K base (2 + 1) _ _ _ (run 3 4 [0, 1, 2] m_shift_in)
  refine kn_of g.d_shift_in sc_shift_in (fun _ _ _ _ _ _ us hl => match us, hl with | [_, _, _], _ => rfl) fun f cdv A outer s H E hr => ?_
  exact (dss_one (ds_ret (do_d (de_ix (de_frz (do_lc rfl sc_shift_in.nd (di_range1 rfl g.b_range (de_add (de_mul de_int (de_varP (pv 0 rfl (Or.inr (Or.inl rfl))))) de_int)) (blkOk_by (N := (["width", "divisor", "kind", "shift"] : List Str)) (sc := defScope (top 47)) (own := ([("shift", 3)] : List (Str × Nat))) (by decide +kernel)) rfl (fun _ _ _ _ _ => (dg_n sc_shift_in.nd rfl (Or.inl rfl) rfl (Or.inr rfl))) (fun _ _ _ _ _ => (bif_one (dt_cm cm_notN (de_frz (do_call (k_times_in (P := P) (w := w) (base := base) g) (hr.mono (by decide : 2 ≤ 2)) rfl passNo (dr_cons (ag_d (de_varP (pv 0 rfl (Or.inr (Or.inl rfl))))) (dr_cons (ag_d (de_varP (pv 1 rfl (Or.inr (Or.inl rfl))))) (dr_cons (ag_d (de_varP (pv 2 rfl (Or.inr (Or.inl rfl))))) (dr_cons (ag_d (de_varP (pv 3 rfl (Or.inl rfl)))) dr_nil)))))) de_non rfl))) (fun _ _ _ _ _ => (de_varP (pv 3 rfl (Or.inl rfl)))))) de_int fun _ _ => rfl))))
theorem sc_sure_kind : FnScope ["value"] ["value"] (defScope (top 19)) := ⟨rfl, rfl, rfl, by decide +kernel, rfl, by decide +kernel, by decide +kernel⟩
theorem k_sure_kind (g : G K) : Kn P w K base 1 (erK K) "sure_kind" ["value"] φ_sure_kind := by
  show Kn P w K base (0 + 1) _ _ _ (run 1 1 [0] m_sure_kind)
  refine kn_of g.d_sure_kind sc_sure_kind (fun _ _ _ _ _ _ us hl => match us, hl with | [_], _ => rfl) fun f cdv A outer s H E hr => ?_
  exact (dss_cons (ds_if (dt_w (dw_or (dt_not (dt_tru (de_isi (t := .str) rfl g.b_isinstance rfl g.b_str boot_str (de_varP (pv 0 rfl (Or.inl rfl)))) fun _ => rfl)) (dw_or1 (dt_cm cm_notIn (de_varP (pv 0 rfl (Or.inl rfl))) (de_gdat rfl g.k_KINDS) rfl)))) (dss_one (ds_raise rfl takesB g.x_Unfit rfl (fun _ => ⟨rfl, rfl⟩))) dss_nil) (dss_one (ds_ret (do_d (de_varP (pv 0 rfl (Or.inl rfl)))))))
theorem sc_least_shift : FnScope ["width", "divisor", "kind", "own", "told"] ["width", "divisor", "kind"] (defScope (top 48)) := ⟨rfl, rfl, rfl, by decide +kernel, rfl, by decide +kernel, by decide +kernel⟩
theorem k_least_shift (g : G K) : KnK P w K base 5 (erK K) "least_shift" ["width", "divisor", "kind"] φ_least_shift := by
  show KnK P w K base (4 + 1) _ _ _ (run 3 5 [0, 1, 2] m_least_shift)
  refine knK_of g.d_least_shift sc_least_shift (fun _ _ _ _ _ _ us hl => match us, hl with | [_, _, _], _ => rfl) (fun _ _ _ _ _ _ us hl => match us, hl with | [_, _, _], _ => rfl) fun f cdv A outer s H E hr => ?_
  exact (dss_cons (ds_set sc_least_shift.nd rfl (Or.inl rfl) rfl (do_d (de_frz (do_call (k_sure_width (P := P) (w := w) (base := base) g) (hr.mono (by decide : 4 ≤ 4)) rfl (passAt takesB) (dr_cons (ag_d (de_varP (pv 0 rfl (Or.inl rfl)))) dr_nil)))) rfl (Or.inr rfl)) (dss_cons (ds_set sc_least_shift.nd rfl (Or.inl rfl) rfl (do_d (de_frz (do_call (k_sure_divisor (P := P) (w := w) (base := base) g) (hr.mono (by decide : 4 ≤ 4)) rfl (passAt takesB) (dr_cons (ag_d (de_varP (pv 3 rfl (Or.inl rfl)))) (dr_cons (ag_d (de_varP (pv 1 rfl (Or.inl rfl)))) dr_nil))))) rfl (Or.inr rfl)) (dss_one (ds_ret (do_call (k_shift_in (P := P) (w := w) (base := base) g) (hr.mono (by decide : 3 ≤ 4)) rfl (passAt takesB) (dr_cons (ag_d (de_varP (pv 3 rfl (Or.inl rfl)))) (dr_cons (ag_d (de_varP (pv 4 rfl (Or.inl rfl)))) (dr_cons (ag_d (de_frz (do_call (k_sure_kind (P := P) (w := w) (base := base) g) (hr.mono (by decide : 1 ≤ 4)) rfl (passAt takesB) (dr_cons (ag_d (de_varP (pv 2 rfl (Or.inl rfl)))) dr_nil)))) dr_nil))))))))
theorem sc_looks_to : FnScope ["width", "divisor", "recipe", "bound", "own", "many", "told", "top"] ["width", "divisor", "recipe", "bound"] (defScope (top 38)) := ⟨rfl, rfl, rfl, by decide +kernel, rfl, by decide +kernel, by decide +kernel⟩
theorem k_looks_to (g : G K) : KnK P w K base 11 (erK K) "looks_to" ["width", "divisor", "recipe", "bound"] φ_looks_to := by
  show KnK P w K base (10 + 1) _ _ _ (run 4 8 [0, 1, 2, 3] m_looks_to)
  refine knK_of g.d_looks_to sc_looks_to (fun _ _ _ _ _ _ us hl => match us, hl with | [_, _, _, _], _ => rfl) (fun _ _ _ _ _ _ us hl => match us, hl with | [_, _, _, _], _ => rfl) fun f cdv A outer s H E hr => ?_
  exact (dss_cons (ds_asg (de_frz (do_call (k_sure_bound (P := P) (w := w) (base := base) g) (hr.mono (by decide : 10 ≤ 10)) rfl (passAt takesB) (dr_cons (ag_d (de_varP (pv 0 rfl (Or.inl rfl)))) (dr_cons (ag_d (de_varP (pv 1 rfl (Or.inl rfl)))) (dr_cons (ag_d (de_varP (pv 2 rfl (Or.inl rfl)))) (dr_cons (ag_d (de_varP (pv 3 rfl (Or.inl rfl)))) dr_nil)))))) (dg_t rfl (dgs_cons (dg_n sc_looks_to.nd rfl (Or.inl rfl) rfl (Or.inr rfl)) (dgs_cons (dg_n sc_looks_to.nd rfl (Or.inl rfl) rfl (Or.inr rfl)) (dgs_cons (dg_n sc_looks_to.nd rfl (Or.inl rfl) rfl (Or.inr rfl)) (dgs_cons (dg_n sc_looks_to.nd rfl (Or.inl rfl) rfl (Or.inr rfl)) dgs_nil)))))) (dss_one (ds_ret (do_call (k_looks_to_in (P := P) (w := w) (base := base) g) (hr.mono (by decide : 1 ≤ 10)) rfl (passAt takesB) (dr_cons (ag_d (de_varP (pv 5 rfl (Or.inl rfl)))) (dr_cons (ag_d (de_varP (pv 6 rfl (Or.inl rfl)))) (dr_cons (ag_d (de_varP (pv 7 rfl (Or.inl rfl)))) dr_nil)))))))
theorem sc_times_to_in : FnScope ["width", "divisor", "kind", "shift", "bound", "goal", "most", "low", "high", "last"] ["width", "divisor", "kind", "shift", "bound"] (defScope (top 35)) := ⟨rfl, rfl, rfl, by decide +kernel, rfl, by decide +kernel, by decide +kernel⟩
theorem k_times_to_in (g : G K) : Kn P w K base 2 (erK K) "times_to_in" ["width", "divisor", "kind", "shift", "bound"] φ_times_to_in := by
  show Kn P w K base (1 + 1) _ _ _ (run 5 10 [0, 1, 2, 3, 4] m_times_to_in)
  refine kn_of g.d_times_to_in sc_times_to_in (fun _ _ _ _ _ _ us hl => match us, hl with | [_, _, _, _, _], _ => rfl) fun f cdv A outer s H E hr => ?_
  exact (dss_cons (ds_set2 rfl sc_times_to_in.nd rfl rfl (by decide) rfl rfl rfl rfl (do_d (de_shl de_int (de_varP (pv 3 rfl (Or.inl rfl))))) (do_d (de_add (de_mul de_int (de_frz (do_call (k_top_in (P := P) (w := w) (base := base) g) (hr.mono (by decide : 1 ≤ 1)) rfl (passAt takesB) (dr_cons (ag_d (de_varP (pv 0 rfl (Or.inl rfl)))) dr_nil)))) de_int)) rfl) (dss_cons (ds_set2 rfl sc_times_to_in.nd rfl rfl (by decide) rfl rfl rfl rfl (do_d de_int) (do_d (de_varP (pv 6 rfl (Or.inl rfl)))) rfl) (dss_cons (ds_if (dt_cm (cm_eq hr.units) (de_varP (pv 2 rfl (Or.inl rfl))) de_str rfl) (dss_cons (ds_if (dt_cm cm_le (de_varP (pv 1 rfl (Or.inl rfl))) (de_varP (pv 4 rfl (Or.inl rfl))) rfl) (dss_one (ds_set sc_times_to_in.nd rfl (Or.inl rfl) rfl (do_d (de_frz (do_call (k_upper (P := P) (w := w) (base := base) g) (hr.mono (by decide : 1 ≤ 1)) rfl (passAt takesB) (dr_cons (ag_d (de_varP (pv 5 rfl (Or.inl rfl)))) (dr_cons (ag_d (de_varP (pv 1 rfl (Or.inl rfl)))) dr_nil))))) rfl (Or.inr rfl))) dss_nil) (dss_cons (ds_set sc_times_to_in.nd rfl (Or.inl rfl) rfl (do_d (de_if (dt_cm cm_le (de_sub (de_varP (pv 1 rfl (Or.inl rfl))) de_int) (de_varP (pv 4 rfl (Or.inl rfl))) rfl) (de_sub (de_mul (de_div (de_add (de_varP (pv 4 rfl (Or.inl rfl))) de_int) (de_varP (pv 1 rfl (Or.inl rfl)))) (de_varP (pv 1 rfl (Or.inl rfl)))) de_int) (de_varP (pv 4 rfl (Or.inl rfl))))) rfl (Or.inr rfl)) (dss_one (ds_if (dt_cm cm_gt (de_varP (pv 9 rfl (Or.inl rfl))) de_int rfl) (dss_one (ds_set sc_times_to_in.nd rfl (Or.inl rfl) rfl (do_d (de_div (de_sub (de_mul (de_varP (pv 5 rfl (Or.inl rfl))) (de_add (de_div (de_varP (pv 9 rfl (Or.inl rfl))) (de_varP (pv 1 rfl (Or.inl rfl)))) de_int)) de_int) (de_varP (pv 9 rfl (Or.inl rfl))))) rfl (Or.inr rfl))) dss_nil)))) (dss_cons (ds_set sc_times_to_in.nd rfl (Or.inl rfl) rfl (do_d (de_mul (de_div (de_varP (pv 4 rfl (Or.inl rfl))) (de_varP (pv 1 rfl (Or.inl rfl)))) (de_varP (pv 1 rfl (Or.inl rfl))))) rfl (Or.inr rfl)) (dss_cons (ds_if (dt_cm cm_gt (de_varP (pv 9 rfl (Or.inl rfl))) de_int rfl) (dss_one (ds_set sc_times_to_in.nd rfl (Or.inl rfl) rfl (do_d (de_frz (do_call (k_upper (P := P) (w := w) (base := base) g) (hr.mono (by decide : 1 ≤ 1)) rfl (passAt takesB) (dr_cons (ag_d (de_mul (de_varP (pv 5 rfl (Or.inl rfl))) (de_div (de_varP (pv 9 rfl (Or.inl rfl))) (de_varP (pv 1 rfl (Or.inl rfl)))))) (dr_cons (ag_d (de_add (de_varP (pv 9 rfl (Or.inl rfl))) de_int)) dr_nil))))) rfl (Or.inr rfl))) dss_nil) (dss_one (ds_set sc_times_to_in.nd rfl (Or.inl rfl) rfl (do_d (de_div (de_sub (de_varP (pv 5 rfl (Or.inl rfl))) de_int) (bi_min rfl rfl g.b_min (de_varP (pv 1 rfl (Or.inl rfl))) (de_add (de_varP (pv 4 rfl (Or.inl rfl))) de_int)))) rfl (Or.inr rfl)))))) (dss_cons (ds_set sc_times_to_in.nd rfl (Or.inl rfl) rfl (do_d (bi_min rfl rfl g.b_min (de_varP (pv 8 rfl (Or.inl rfl))) (de_varP (pv 6 rfl (Or.inl rfl))))) rfl (Or.inr rfl)) (dss_one (ds_ret (do_d (de_if (dt_cm cm_le (de_varP (pv 7 rfl (Or.inl rfl))) (de_varP (pv 8 rfl (Or.inl rfl))) rfl) (de_tup (da_cons (de_varP (pv 7 rfl (Or.inl rfl))) (da_cons (de_varP (pv 8 rfl (Or.inl rfl))) da_nil))) de_non))))))))
theorem sc_recipe_to_in : FnScope ["width", "divisor", "kind", "bound", "shift", "times"] ["width", "divisor", "kind", "bound"] (defScope (top 36)) := ⟨rfl, rfl, rfl, by decide +kernel, rfl, by decide +kernel, by decide +kernel⟩
theorem k_recipe_to_in (g : G K) : Kn P w K base 3 (erK K) "recipe_to_in" ["width", "divisor", "kind", "bound"] φ_recipe_to_in := by
  show Kn P w K base (2 + 1) _ _ _ (run 4 6 [0, 1, 2, 3] m_recipe_to_in)
  refine kn_of g.d_recipe_to_in sc_recipe_to_in (fun _ _ _ _ _ _ us hl => match us, hl with | [_, _, _, _], _ => rfl) fun f cdv A outer s H E hr => ?_
  exact (dss_cons (ds_for (passes_of rfl) rfl (di_range1 rfl g.b_range (de_add (de_mul de_int (de_varP (pv 0 rfl (Or.inl rfl)))) de_int)) (dg_n sc_recipe_to_in.nd rfl (Or.inl rfl) rfl (Or.inr rfl)) (dss_cons (ds_set sc_recipe_to_in.nd rfl (Or.inl rfl) rfl (do_d (de_frz (do_call (k_times_to_in (P := P) (w := w) (base := base) g) (hr.mono (by decide : 2 ≤ 2)) rfl (passAt takesB) (dr_cons (ag_d (de_varP (pv 0 rfl (Or.inl rfl)))) (dr_cons (ag_d (de_varP (pv 1 rfl (Or.inl rfl)))) (dr_cons (ag_d (de_varP (pv 2 rfl (Or.inl rfl)))) (dr_cons (ag_d (de_varP (pv 4 rfl (Or.inl rfl)))) (dr_cons (ag_d (de_varP (pv 3 rfl (Or.inl rfl)))) dr_nil)))))))) rfl (Or.inr rfl)) (dss_one (ds_if (dt_cm cm_notN (de_varP (pv 5 rfl (Or.inl rfl))) de_non rfl) (dss_one (ds_ret (do_d (de_tup (da_cons (de_varP (pv 2 rfl (Or.inl rfl))) (da_cons (de_ix (de_varP (pv 5 rfl (Or.inl rfl))) de_int fun _ _ => rfl) (da_cons (de_varP (pv 4 rfl (Or.inl rfl))) da_nil))))))) dss_nil)))) (dss_one (ds_ret (do_d de_non))))
theorem sc_recipe_to : FnScope ["width", "divisor", "kind", "bound", "own", "told", "sort"] ["width", "divisor", "kind", "bound"] (defScope (top 43)) := ⟨rfl, rfl, rfl, by decide +kernel, rfl, by decide +kernel, by decide +kernel⟩
theorem k_recipe_to (g : G K) : KnK P w K base 5 (erK K) "recipe_to" ["width", "divisor", "kind", "bound"] φ_recipe_to := by
  show KnK P w K base (4 + 1) _ _ _ (run 4 7 [0, 1, 2, 3] m_recipe_to)
  refine knK_of g.d_recipe_to sc_recipe_to (fun _ _ _ _ _ _ us hl => match us, hl with | [_, _, _, _], _ => rfl) (fun _ _ _ _ _ _ us hl => match us, hl with | [_, _, _, _], _ => rfl) fun f cdv A outer s H E hr => ?_
  exact (dss_cons (ds_set sc_recipe_to.nd rfl (Or.inl rfl) rfl (do_d (de_frz (do_call (k_sure_width (P := P) (w := w) (base := base) g) (hr.mono (by decide : 4 ≤ 4)) rfl (passAt takesB) (dr_cons (ag_d (de_varP (pv 0 rfl (Or.inl rfl)))) dr_nil)))) rfl (Or.inr rfl)) (dss_cons (ds_set sc_recipe_to.nd rfl (Or.inl rfl) rfl (do_d (de_frz (do_call (k_sure_divisor (P := P) (w := w) (base := base) g) (hr.mono (by decide : 4 ≤ 4)) rfl (passAt takesB) (dr_cons (ag_d (de_varP (pv 4 rfl (Or.inl rfl)))) (dr_cons (ag_d (de_varP (pv 1 rfl (Or.inl rfl)))) dr_nil))))) rfl (Or.inr rfl)) (dss_cons (ds_set sc_recipe_to.nd rfl (Or.inl rfl) rfl (do_d (de_frz (do_call (k_sure_kind (P := P) (w := w) (base := base) g) (hr.mono (by decide : 1 ≤ 4)) rfl (passAt takesB) (dr_cons (ag_d (de_varP (pv 2 rfl (Or.inl rfl)))) dr_nil)))) rfl (Or.inr rfl)) (dss_one (ds_ret (do_call (k_recipe_to_in (P := P) (w := w) (base := base) g) (hr.mono (by decide : 3 ≤ 4)) rfl (passAt takesB) (dr_cons (ag_d (de_varP (pv 4 rfl (Or.inl rfl)))) (dr_cons (ag_d (de_varP (pv 5 rfl (Or.inl rfl)))) (dr_cons (ag_d (de_varP (pv 6 rfl (Or.inl rfl)))) (dr_cons (ag_d (de_frz (do_call (k_sure_word (P := P) (w := w) (base := base) g) (hr.mono (by decide : 4 ≤ 4)) rfl (passAt takesB) (dr_cons (ag_d (de_varP (pv 4 rfl (Or.inl rfl)))) (dr_cons (ag_d (de_varP (pv 3 rfl (Or.inl rfl)))) dr_nil))))) dr_nil))))))))))
theorem sc_first_place : FnScope ["width", "divisor", "recipe", "over"] ["width", "divisor", "recipe"] (defScope (top 29)) := ⟨rfl, rfl, rfl, by decide +kernel, rfl, by decide +kernel, by decide +kernel⟩
theorem k_first_place (g : G K) : Kn P w K base 2 (erK K) "first_place" ["width", "divisor", "recipe"] φ_first_place := by
  show Kn P w K base (1 + 1) _ _ _ (run 3 4 [0, 1, 2] m_first_place)
  refine kn_of g.d_first_place sc_first_place (fun _ _ _ _ _ _ us hl => match us, hl with | [_, _, _], _ => rfl) fun f cdv A outer s H E hr => ?_
  exact (dss_cons (ds_set sc_first_place.nd rfl (Or.inl rfl) rfl (do_d (de_frz (do_call (k_excess_in (P := P) (w := w) (base := base) g) (hr.mono (by decide : 1 ≤ 1)) rfl (passAt takesB) (dr_cons (ag_d (de_varP (pv 1 rfl (Or.inl rfl)))) (dr_cons (ag_d (de_varP (pv 2 rfl (Or.inl rfl)))) dr_nil))))) rfl (Or.inr rfl)) (dss_cons (ds_if (dt_cm cm_ge (de_varP (pv 3 rfl (Or.inl rfl))) de_int rfl) (dss_cons (ds_if (dt_cm (cm_eq hr.units) (de_ix (de_varP (pv 2 rfl (Or.inl rfl))) de_int fun _ _ => rfl) de_str rfl) (dss_one (ds_ret (do_d de_int))) dss_nil) (dss_one (ds_ret (do_d (de_if (dt_cm cm_gt (de_varP (pv 3 rfl (Or.inl rfl))) de_int rfl) (de_sub (de_frz (do_call (k_upper (P := P) (w := w) (base := base) g) (hr.mono (by decide : 1 ≤ 1)) rfl (passAt takesB) (dr_cons (ag_d (de_ix (de_varP (pv 2 rfl (Or.inl rfl))) de_int fun _ _ => rfl)) (dr_cons (ag_d (de_varP (pv 3 rfl (Or.inl rfl)))) dr_nil)))) de_int) (de_add (de_frz (do_call (k_top_in (P := P) (w := w) (base := base) g) (hr.mono (by decide : 1 ≤ 1)) rfl (passAt takesB) (dr_cons (ag_d (de_varP (pv 0 rfl (Or.inl rfl)))) dr_nil))) de_int)))))) dss_nil) (dss_one (ds_ret (do_d (de_if (dt_cm (cm_eq hr.units) (de_ix (de_varP (pv 2 rfl (Or.inl rfl))) de_int fun _ _ => rfl) de_str rfl) (de_add (de_div (de_ix (de_varP (pv 2 rfl (Or.inl rfl))) de_int fun _ _ => rfl) (de_neg (de_varP (pv 3 rfl (Or.inl rfl))))) de_int) de_int))))))
theorem sc_first_in : FnScope ["width", "divisor", "recipe", "place", "piece"] ["width", "divisor", "recipe"] (defScope (top 31)) := ⟨rfl, rfl, rfl, by decide +kernel, rfl, by decide +kernel, by decide +kernel⟩
theorem k_first_in (g : G K) : Kn P w K base 4 (erK K) "first_in" ["width", "divisor", "recipe"] φ_first_in := by
  show Kn P w K base (3 + 1) _ _ _ (run 3 5 [0, 1, 2] m_first_in)
  refine kn_of g.d_first_in sc_first_in (fun _ _ _ _ _ _ us hl => match us, hl with | [_, _, _], _ => rfl) fun f cdv A outer s H E hr => ?_
  exact (dss_cons (ds_set sc_first_in.nd rfl (Or.inl rfl) rfl (do_d (de_frz (do_call (k_first_place (P := P) (w := w) (base := base) g) (hr.mono (by decide : 2 ≤ 3)) rfl (passAt takesB) (dr_cons (ag_d (de_varP (pv 0 rfl (Or.inl rfl)))) (dr_cons (ag_d (de_varP (pv 1 rfl (Or.inl rfl)))) (dr_cons (ag_d (de_varP (pv 2 rfl (Or.inl rfl)))) dr_nil)))))) rfl (Or.inr rfl)) (dss_cons (ds_if (dt_cm cm_gt (de_varP (pv 3 rfl (Or.inl rfl))) (de_div (de_frz (do_call (k_top_in (P := P) (w := w) (base := base) g) (hr.mono (by decide : 1 ≤ 3)) rfl (passAt takesB) (dr_cons (ag_d (de_varP (pv 0 rfl (Or.inl rfl)))) dr_nil))) (de_varP (pv 1 rfl (Or.inl rfl)))) rfl) (dss_one (ds_ret (do_d de_non))) dss_nil) (dss_cons (ds_set sc_first_in.nd rfl (Or.inl rfl) rfl (do_d (de_frz (do_call (k_piece_in (P := P) (w := w) (base := base) g) (hr.mono (by decide : 3 ≤ 3)) rfl (passAt takesB) (dr_cons (ag_d (de_varP (pv 0 rfl (Or.inl rfl)))) (dr_cons (ag_d (de_varP (pv 1 rfl (Or.inl rfl)))) (dr_cons (ag_d (de_varP (pv 2 rfl (Or.inl rfl)))) (dr_cons (ag_d (de_varP (pv 3 rfl (Or.inl rfl)))) dr_nil))))))) rfl (Or.inr rfl)) (dss_one (ds_ret (do_d (de_if (dt_cm cm_notN (de_varP (pv 4 rfl (Or.inl rfl))) de_non rfl) (de_ix (de_varP (pv 4 rfl (Or.inl rfl))) de_int fun _ _ => rfl) de_non)))))))
theorem sc_right_up_to : FnScope ["width", "divisor", "recipe", "own", "many", "told", "first"] ["width", "divisor", "recipe"] (defScope (top 40)) := ⟨rfl, rfl, rfl, by decide +kernel, rfl, by decide +kernel, by decide +kernel⟩
theorem k_right_up_to (g : G K) : KnK P w K base 10 (erK K) "right_up_to" ["width", "divisor", "recipe"] φ_right_up_to := by
  show KnK P w K base (9 + 1) _ _ _ (run 3 7 [0, 1, 2] m_right_up_to)
  refine knK_of g.d_right_up_to sc_right_up_to (fun _ _ _ _ _ _ us hl => match us, hl with | [_, _, _], _ => rfl) (fun _ _ _ _ _ _ us hl => match us, hl with | [_, _, _], _ => rfl) fun f cdv A outer s H E hr => ?_
  exact (dss_cons (ds_asg (de_frz (do_call (k_sure_three (P := P) (w := w) (base := base) g) (hr.mono (by decide : 9 ≤ 9)) rfl (passAt takesB) (dr_cons (ag_d (de_varP (pv 0 rfl (Or.inl rfl)))) (dr_cons (ag_d (de_varP (pv 1 rfl (Or.inl rfl)))) (dr_cons (ag_d (de_varP (pv 2 rfl (Or.inl rfl)))) dr_nil))))) (dg_t rfl (dgs_cons (dg_n sc_right_up_to.nd rfl (Or.inl rfl) rfl (Or.inr rfl)) (dgs_cons (dg_n sc_right_up_to.nd rfl (Or.inl rfl) rfl (Or.inr rfl)) (dgs_cons (dg_n sc_right_up_to.nd rfl (Or.inl rfl) rfl (Or.inr rfl)) dgs_nil))))) (dss_cons (ds_set sc_right_up_to.nd rfl (Or.inl rfl) rfl (do_d (de_frz (do_call (k_first_in (P := P) (w := w) (base := base) g) (hr.mono (by decide : 4 ≤ 9)) rfl (passAt takesB) (dr_cons (ag_d (de_varP (pv 3 rfl (Or.inl rfl)))) (dr_cons (ag_d (de_varP (pv 4 rfl (Or.inl rfl)))) (dr_cons (ag_d (de_varP (pv 5 rfl (Or.inl rfl)))) dr_nil)))))) rfl (Or.inr rfl)) (dss_cons (ds_if (dt_cm cm_isN (de_varP (pv 6 rfl (Or.inl rfl))) de_non rfl) (dss_one (ds_ret (do_call (k_top_in (P := P) (w := w) (base := base) g) (hr.mono (by decide : 1 ≤ 9)) rfl (passAt takesB) (dr_cons (ag_d (de_varP (pv 3 rfl (Or.inl rfl)))) dr_nil)))) dss_nil) (dss_one (ds_ret (do_d (de_if (dt_cm cm_gt (de_varP (pv 6 rfl (Or.inl rfl))) de_int rfl) (de_sub (de_varP (pv 6 rfl (Or.inl rfl))) de_int) de_non)))))))
theorem sc_shift_saved : FnScope ["width", "divisor", "kind", "bound", "own", "told", "sort", "top"] ["width", "divisor", "kind", "bound"] (defScope (top 44)) := ⟨rfl, rfl, rfl, by decide +kernel, rfl, by decide +kernel, by decide +kernel⟩
theorem k_shift_saved (g : G K) : KnK P w K base 5 (erK K) "shift_saved" ["width", "divisor", "kind", "bound"] φ_shift_saved := by
  show KnK P w K base (4 + 1) _ _ _ (run 4 8 [0, 1, 2, 3] m_shift_saved)
  refine knK_of g.d_shift_saved sc_shift_saved (fun _ _ _ _ _ _ us hl => match us, hl with | [_, _, _, _], _ => rfl) (fun _ _ _ _ _ _ us hl => match us, hl with | [_, _, _, _], _ => rfl) fun f cdv A outer s H E hr => ?_
  exact (dss_cons (ds_set sc_shift_saved.nd rfl (Or.inl rfl) rfl (do_d (de_frz (do_call (k_sure_width (P := P) (w := w) (base := base) g) (hr.mono (by decide : 4 ≤ 4)) rfl (passAt takesB) (dr_cons (ag_d (de_varP (pv 0 rfl (Or.inl rfl)))) dr_nil)))) rfl (Or.inr rfl)) (dss_cons (ds_set sc_shift_saved.nd rfl (Or.inl rfl) rfl (do_d (de_frz (do_call (k_sure_divisor (P := P) (w := w) (base := base) g) (hr.mono (by decide : 4 ≤ 4)) rfl (passAt takesB) (dr_cons (ag_d (de_varP (pv 4 rfl (Or.inl rfl)))) (dr_cons (ag_d (de_varP (pv 1 rfl (Or.inl rfl)))) dr_nil))))) rfl (Or.inr rfl)) (dss_cons (ds_set sc_shift_saved.nd rfl (Or.inl rfl) rfl (do_d (de_frz (do_call (k_sure_kind (P := P) (w := w) (base := base) g) (hr.mono (by decide : 1 ≤ 4)) rfl (passAt takesB) (dr_cons (ag_d (de_varP (pv 2 rfl (Or.inl rfl)))) dr_nil)))) rfl (Or.inr rfl)) (dss_cons (ds_set sc_shift_saved.nd rfl (Or.inl rfl) rfl (do_d (de_frz (do_call (k_sure_word (P := P) (w := w) (base := base) g) (hr.mono (by decide : 4 ≤ 4)) rfl (passAt takesB) (dr_cons (ag_d (de_varP (pv 4 rfl (Or.inl rfl)))) (dr_cons (ag_d (de_varP (pv 3 rfl (Or.inl rfl)))) dr_nil))))) rfl (Or.inr rfl)) (dss_one (ds_ret (do_d (de_sub (de_ix (de_frz (do_call (k_recipe_to_in (P := P) (w := w) (base := base) g) (hr.mono (by decide : 3 ≤ 4)) rfl (passAt takesB) (dr_cons (ag_d (de_varP (pv 4 rfl (Or.inl rfl)))) (dr_cons (ag_d (de_varP (pv 5 rfl (Or.inl rfl)))) (dr_cons (ag_d (de_varP (pv 6 rfl (Or.inl rfl)))) (dr_cons (ag_d (de_frz (do_call (k_top_in (P := P) (w := w) (base := base) g) (hr.mono (by decide : 1 ≤ 4)) rfl (passAt takesB) (dr_cons (ag_d (de_varP (pv 4 rfl (Or.inl rfl)))) dr_nil)))) dr_nil)))))) de_int fun _ _ => rfl) (de_ix (de_frz (do_call (k_recipe_to_in (P := P) (w := w) (base := base) g) (hr.mono (by decide : 3 ≤ 4)) rfl (passAt takesB) (dr_cons (ag_d (de_varP (pv 4 rfl (Or.inl rfl)))) (dr_cons (ag_d (de_varP (pv 5 rfl (Or.inl rfl)))) (dr_cons (ag_d (de_varP (pv 6 rfl (Or.inl rfl)))) (dr_cons (ag_d (de_varP (pv 7 rfl (Or.inl rfl)))) dr_nil)))))) de_int fun _ _ => rfl)))))))))
theorem sc_times_to : FnScope ["width", "divisor", "kind", "shift", "bound", "own", "told", "sort", "often"] ["width", "divisor", "kind", "shift", "bound"] (defScope (top 42)) := ⟨rfl, rfl, rfl, by decide +kernel, rfl, by decide +kernel, by decide +kernel⟩
theorem k_times_to (g : G K) : KnK P w K base 5 (erK K) "times_to" ["width", "divisor", "kind", "shift", "bound"] φ_times_to := by
  show KnK P w K base (4 + 1) _ _ _ (run 5 9 [0, 1, 2, 3, 4] m_times_to)
  refine knK_of g.d_times_to sc_times_to (fun _ _ _ _ _ _ us hl => match us, hl with | [_, _, _, _, _], _ => rfl) (fun _ _ _ _ _ _ us hl => match us, hl with | [_, _, _, _, _], _ => rfl) fun f cdv A outer s H E hr => ?_
  exact (dss_cons (ds_set sc_times_to.nd rfl (Or.inl rfl) rfl (do_d (de_frz (do_call (k_sure_width (P := P) (w := w) (base := base) g) (hr.mono (by decide : 4 ≤ 4)) rfl (passAt takesB) (dr_cons (ag_d (de_varP (pv 0 rfl (Or.inl rfl)))) dr_nil)))) rfl (Or.inr rfl)) (dss_cons (ds_set sc_times_to.nd rfl (Or.inl rfl) rfl (do_d (de_frz (do_call (k_sure_divisor (P := P) (w := w) (base := base) g) (hr.mono (by decide : 4 ≤ 4)) rfl (passAt takesB) (dr_cons (ag_d (de_varP (pv 5 rfl (Or.inl rfl)))) (dr_cons (ag_d (de_varP (pv 1 rfl (Or.inl rfl)))) dr_nil))))) rfl (Or.inr rfl)) (dss_cons (ds_set sc_times_to.nd rfl (Or.inl rfl) rfl (do_d (de_frz (do_call (k_sure_kind (P := P) (w := w) (base := base) g) (hr.mono (by decide : 1 ≤ 4)) rfl (passAt takesB) (dr_cons (ag_d (de_varP (pv 2 rfl (Or.inl rfl)))) dr_nil)))) rfl (Or.inr rfl)) (dss_cons (ds_set sc_times_to.nd rfl (Or.inl rfl) rfl (do_d (de_frz (do_call (k_sure_within (P := P) (w := w) (base := base) g) (hr.mono (by decide : 3 ≤ 4)) rfl (passAt takesB) (dr_cons (ag_d (de_varP (pv 3 rfl (Or.inl rfl)))) (dr_cons (ag_d de_int) (dr_cons (ag_d (de_mul de_int (de_varP (pv 5 rfl (Or.inl rfl))))) dr_nil)))))) rfl (Or.inr rfl)) (dss_one (ds_ret (do_call (k_times_to_in (P := P) (w := w) (base := base) g) (hr.mono (by decide : 2 ≤ 4)) rfl (passAt takesB) (dr_cons (ag_d (de_varP (pv 5 rfl (Or.inl rfl)))) (dr_cons (ag_d (de_varP (pv 6 rfl (Or.inl rfl)))) (dr_cons (ag_d (de_varP (pv 7 rfl (Or.inl rfl)))) (dr_cons (ag_d (de_varP (pv 8 rfl (Or.inl rfl)))) (dr_cons (ag_d (de_frz (do_call (k_sure_word (P := P) (w := w) (base := base) g) (hr.mono (by decide : 4 ≤ 4)) rfl (passAt takesB) (dr_cons (ag_d (de_varP (pv 5 rfl (Or.inl rfl)))) (dr_cons (ag_d (de_varP (pv 4 rfl (Or.inl rfl)))) dr_nil))))) dr_nil))))))))))))
theorem sc_law : FnScope ["script", "tin", "lap", "w", "d", "top_so", "recipe_so", "b", "rows_so", "fine_so", "got", "errs_so", "first_so", "far", "kind_so", "s", "own", "m", "shifts_so", "n", "k"] ["script"] (defScope (top 64)) := ⟨rfl, rfl, rfl, by decide +kernel, rfl, by decide +kernel, by decide +kernel⟩
theorem law_ok {f : Addr} {fd : FuncData} (g : G K) (hd : FunD K.fr "law" "law" (defArgs (top 64)) (defBody (top 64)) (defScope (top 64)) [] [] f fd) : FnOk P w K.fr K.mg base (L2.CX P w) 12 f fd ["script"] (spF K (erK K) 1 φ_law) := by
  show FnOk P w K.fr K.mg base (L2.CX P w) (11 + 1) f fd ["script"] (spF K (erK K) 1 (run 1 21 [0] m_law))
  refine fn_by hd sc_law fun cdv A outer s H E hr => ?_
  exact (dss_cons (ds_set sc_law.nd rfl (Or.inl rfl) rfl (do_call (k__law_box (P := P) (w := w) (base := base) g) (hr.mono (by decide : 1 ≤ 11)) rfl (passAt takesB) (dr_cons (ag_d (de_frz (do_call (k__law_cells (P := P) (w := w) (base := base) g) (hr.mono (by decide : 1 ≤ 11)) rfl (passAt takesB) (dr_cons (ag_d (de_varP (pv 0 rfl (Or.inl rfl)))) (dr_cons (ag_d de_int) dr_nil))))) (dr_cons (ag_d de_int) dr_nil))) rfl (Or.inr rfl)) (dss_cons (ds_for (passes_of rfl) rfl (di_range1 rfl g.b_range de_int) (dg_n sc_law.nd rfl (Or.inl rfl) rfl (Or.inr rfl)) (dss_cons (ds_set sc_law.nd rfl (Or.inr rfl) rfl (do_d (de_frz (do_if (dt_cm cm_lt (de_varP (pv 2 rfl (Or.inl rfl))) de_int rfl) (do_d (de_add de_int (de_frz (do_call (k__law_take (P := P) (w := w) (base := base) g) (hr.mono (by decide : 1 ≤ 11)) rfl (passAt takesB) (dr_cons (ag_v (pv 1 rfl (Or.inl rfl))) (dr_cons (ag_d de_int) dr_nil)))))) (do_call (k__law_wide (P := P) (w := w) (base := base) g) (hr.mono (by decide : 3 ≤ 11)) rfl (passAt takesB) (dr_cons (ag_v (pv 1 rfl (Or.inl rfl))) dr_nil))))) rfl (Or.inl rfl)) (dss_cons (ds_asg (de_tup (da_cons (de_frz (do_call (k__law_divisor (P := P) (w := w) (base := base) g) (hr.mono (by decide : 3 ≤ 11)) rfl (passAt takesB) (dr_cons (ag_v (pv 1 rfl (Or.inl rfl))) (dr_cons (ag_d (de_varP (pv 3 rfl (Or.inr (Or.inl rfl))))) dr_nil)))) (da_cons (de_sub (de_frz (do_call (k__law_two (P := P) (w := w) (base := base) g) (hr.mono (by decide : 1 ≤ 11)) rfl (passAt takesB) (dr_cons (ag_d (de_varP (pv 3 rfl (Or.inr (Or.inl rfl))))) dr_nil))) de_int) da_nil))) (dg_t rfl (dgs_cons (dg_n sc_law.nd rfl (Or.inr rfl) rfl (Or.inl rfl)) (dgs_cons (dg_n sc_law.nd rfl (Or.inl rfl) rfl (Or.inr rfl)) dgs_nil)))) (dss_cons (ds_set sc_law.nd rfl (Or.inr rfl) rfl (do_d (de_frz (do_call (k__law_recipe (P := P) (w := w) (base := base) g) (hr.mono (by decide : 3 ≤ 11)) rfl (passAt takesB) (dr_cons (ag_v (pv 1 rfl (Or.inl rfl))) (dr_cons (ag_d (de_varP (pv 3 rfl (Or.inr (Or.inl rfl))))) (dr_cons (ag_d (de_varP (pv 4 rfl (Or.inr (Or.inl rfl))))) dr_nil)))))) rfl (Or.inl rfl)) (dss_cons (ds_set sc_law.nd rfl (Or.inr rfl) rfl (do_d (bi_max rfl rfl g.b_max de_int (bi_min rfl rfl g.b_min (de_varP (pv 5 rfl (Or.inl rfl))) (de_frz (do_call (k__law_of (P := P) (w := w) (base := base) g) (hr.mono (by decide : 2 ≤ 11)) rfl (passAt takesB) (dr_cons (ag_v (pv 1 rfl (Or.inl rfl))) (dr_cons (ag_d (de_frz (do_lst (da_cons (de_frz (do_call (k__law_take (P := P) (w := w) (base := base) g) (hr.mono (by decide : 1 ≤ 11)) rfl (passAt takesB) (dr_cons (ag_v (pv 1 rfl (Or.inl rfl))) (dr_cons (ag_d (de_add (de_varP (pv 5 rfl (Or.inl rfl))) de_int)) dr_nil)))) (da_cons (de_add (de_sub (de_varP (pv 4 rfl (Or.inr (Or.inl rfl)))) de_int) (de_frz (do_call (k__law_take (P := P) (w := w) (base := base) g) (hr.mono (by decide : 1 ≤ 11)) rfl (passAt takesB) (dr_cons (ag_v (pv 1 rfl (Or.inl rfl))) (dr_cons (ag_d de_int) dr_nil))))) (da_cons (de_frz (do_call (k__law_take (P := P) (w := w) (base := base) g) (hr.mono (by decide : 1 ≤ 11)) rfl (passAt takesB) (dr_cons (ag_v (pv 1 rfl (Or.inl rfl))) (dr_cons (ag_d de_int) dr_nil)))) (da_cons (de_varP (pv 5 rfl (Or.inl rfl))) da_nil))))))) dr_nil))))))) rfl (Or.inl rfl)) (dss_cons (ds_set sc_law.nd rfl (Or.inl rfl) rfl (do_d (de_frz (do_call (k__law_looks (P := P) (w := w) (base := base) g) (hr.mono (by decide : 1 ≤ 11)) rfl (passAt takesB) (dr_cons (ag_d (de_varP (pv 4 rfl (Or.inr (Or.inl rfl))))) (dr_cons (ag_d (de_varP (pv 6 rfl (Or.inr (Or.inl rfl))))) (dr_cons (ag_d (de_varP (pv 7 rfl (Or.inr (Or.inl rfl))))) dr_nil)))))) rfl (Or.inr rfl)) (dss_cons (ds_set sc_law.nd rfl (Or.inl rfl) rfl (do_d (de_cm (cm_eq hr.units) (de_frz (do_lc rfl sc_law.nd (di_seq (de_varP (pv 8 rfl (Or.inl rfl)))) (blkOk_by (N := (["script", "tin", "lap", "w", "d", "top_so", "recipe_so", "b", "rows_so", "fine_so", "got", "errs_so", "first_so", "far", "kind_so", "s", "own", "m", "shifts_so", "n", "k"] : List Str)) (sc := defScope (top 64)) (own := ([("n", 19)] : List (Str × Nat))) (by decide +kernel)) rfl (fun _ _ _ _ _ => (dg_n sc_law.nd rfl (Or.inl rfl) rfl (Or.inr rfl))) (fun _ _ _ _ _ => (bif_one (dt_cm (cm_ne hr.units) (de_frz (do_call (k__law_told (P := P) (w := w) (base := base) g) (hr.mono (by decide : 2 ≤ 11)) rfl passNo (dr_cons (ag_d (de_varP (pv 6 rfl (Or.inr (Or.inl rfl))))) (dr_cons (ag_d (de_varP (pv 19 rfl (Or.inl rfl)))) dr_nil)))) (de_div (de_varP (pv 19 rfl (Or.inl rfl))) (de_varP (pv 4 rfl (Or.inr (Or.inl rfl))))) rfl))) (fun _ _ _ _ _ => (de_varP (pv 19 rfl (Or.inl rfl)))))) (de_frz (do_lst da_nil)) rfl)) rfl (Or.inr rfl)) (dss_cons (ds_set sc_law.nd rfl (Or.inl rfl) rfl (do_d (de_frz (do_lst (da_cons (de_frz (do_callK (k_looks_to (P := P) (w := w) (base := base) g) (hr.mono (by decide : 11 ≤ 11)) rfl (passAt takesB) (dk_cons (ag_d (de_varP (pv 3 rfl (Or.inr (Or.inl rfl))))) (dk_cons (ag_d (de_varP (pv 4 rfl (Or.inr (Or.inl rfl))))) (dk_cons (ag_d (de_varP (pv 6 rfl (Or.inr (Or.inl rfl))))) (dk_cons (ag_d (de_varP (pv 7 rfl (Or.inr (Or.inl rfl))))) dk_nil)))))) (da_cons (de_frz (do_callK (k_is_right_to (P := P) (w := w) (base := base) g) (hr.mono (by decide : 11 ≤ 11)) rfl (passAt takesB) (dk_cons (ag_d (de_varP (pv 3 rfl (Or.inr (Or.inl rfl))))) (dk_cons (ag_d (de_varP (pv 4 rfl (Or.inr (Or.inl rfl))))) (dk_cons (ag_d (de_varP (pv 6 rfl (Or.inr (Or.inl rfl))))) (dk_cons (ag_d (de_varP (pv 7 rfl (Or.inr (Or.inl rfl))))) dk_nil)))))) da_nil))))) rfl (Or.inr rfl)) (dss_cons (ds_if (dt_not (dt_tru (de_frz (do_call (k__law_same (P := P) (w := w) (base := base) g 6) (hr.mono (by decide : 7 ≤ 11)) rfl (passAt takesB) (dr_cons (ag_d (de_varP (pv 10 rfl (Or.inl rfl)))) (dr_cons (ag_d (de_frz (do_lst (da_cons (de_varP (pv 8 rfl (Or.inl rfl))) (da_cons (de_varP (pv 9 rfl (Or.inl rfl))) da_nil))))) dr_nil)))) fun _ => rfl)) (dss_one (ds_ret (do_d de_bl))) dss_nil) (dss_cons (ds_if (dt_cm cm_le (de_varP (pv 3 rfl (Or.inr (Or.inl rfl)))) de_int rfl) (dss_cons (ds_setLcF rfl sc_law.nd rfl rfl rfl (sw_true rfl rfl rfl (by decide +kernel)) (di_range1 rfl g.b_range (de_add (de_varP (pv 5 rfl (Or.inl rfl))) de_int)) (blkOk_by (N := (["script", "tin", "lap", "w", "d", "top_so", "recipe_so", "b", "rows_so", "fine_so", "got", "errs_so", "first_so", "far", "kind_so", "s", "own", "m", "shifts_so", "n", "k"] : List Str)) (sc := defScope (top 64)) (own := ([("n", 19)] : List (Str × Nat))) (by decide +kernel)) rfl (fun _ _ _ _ _ => (dg_n sc_law.nd rfl (Or.inl rfl) rfl (Or.inr rfl))) (fun _ _ _ _ _ => (bif_one (dt_cm (cm_ne hr.units) (de_frz (do_call (k__law_told (P := P) (w := w) (base := base) g) (hr.mono (by decide : 2 ≤ 11)) rfl passNo (dr_cons (ag_d (de_varP (pv 6 rfl (Or.inr (Or.inl rfl))))) (dr_cons (ag_d (de_varP (pv 19 rfl (Or.inl rfl)))) dr_nil)))) (de_div (de_varP (pv 19 rfl (Or.inl rfl))) (de_varP (pv 4 rfl (Or.inr (Or.inl rfl))))) rfl))) (fun _ _ _ _ _ => (de_varP (pv 19 rfl (Or.inl rfl))))) (dss_cons (ds_if (dt_cm (cm_ne hr.units) (de_cm (cm_eq hr.units) (de_frz (do_lc rfl sc_law.nd (di_seq (de_varP (pv 11 rfl (Or.inl rfl)))) (blkOk_by (N := (["script", "tin", "lap", "w", "d", "top_so", "recipe_so", "b", "rows_so", "fine_so", "got", "errs_so", "first_so", "far", "kind_so", "s", "own", "m", "shifts_so", "n", "k"] : List Str)) (sc := defScope (top 64)) (own := ([("n", 19)] : List (Str × Nat))) (by decide +kernel)) rfl (fun _ _ _ _ _ => (dg_n sc_law.nd rfl (Or.inl rfl) rfl (Or.inr rfl))) (fun _ _ _ _ _ => (bif_one (dt_cm cm_le (de_varP (pv 19 rfl (Or.inl rfl))) (de_varP (pv 7 rfl (Or.inr (Or.inl rfl)))) rfl))) (fun _ _ _ _ _ => (de_varP (pv 19 rfl (Or.inl rfl)))))) (de_frz (do_lst da_nil)) rfl) (de_varP (pv 9 rfl (Or.inl rfl))) rfl) (dss_one (ds_ret (do_d de_bl))) dss_nil) (dss_cons (ds_set sc_law.nd rfl (Or.inl rfl) rfl (do_d (de_if (dt_w (dw_and (dt_cm (cm_ne hr.units) (de_varP (pv 11 rfl (Or.inl rfl))) (de_frz (do_lst da_nil)) rfl) (dw_and1 (dt_cm (cm_eq hr.units) (de_ix (de_varP (pv 11 rfl (Or.inl rfl))) de_int fun _ _ => rfl) de_int rfl)))) de_non (de_if (dt_cm (cm_eq hr.units) (de_varP (pv 11 rfl (Or.inl rfl))) (de_frz (do_lst da_nil)) rfl) (de_varP (pv 5 rfl (Or.inl rfl))) (de_sub (de_ix (de_varP (pv 11 rfl (Or.inl rfl))) de_int fun _ _ => rfl) de_int)))) rfl (Or.inr rfl)) (dss_one (ds_if (dt_not (dt_tru (de_frz (do_call (k__law_same (P := P) (w := w) (base := base) g 6) (hr.mono (by decide : 7 ≤ 11)) rfl (passAt takesB) (dr_cons (ag_d (de_frz (do_lst (da_cons (de_frz (do_callK (k_right_up_to (P := P) (w := w) (base := base) g) (hr.mono (by decide : 10 ≤ 11)) rfl (passAt takesB) (dk_cons (ag_d (de_varP (pv 3 rfl (Or.inr (Or.inl rfl))))) (dk_cons (ag_d (de_varP (pv 4 rfl (Or.inr (Or.inl rfl))))) (dk_cons (ag_d (de_varP (pv 6 rfl (Or.inr (Or.inl rfl))))) dk_nil))))) (da_cons (de_frz (do_callK (k_errs_to (P := P) (w := w) (base := base) g) (hr.mono (by decide : 11 ≤ 11)) rfl (passAt takesB) (dk_cons (ag_d (de_varP (pv 3 rfl (Or.inr (Or.inl rfl))))) (dk_cons (ag_d (de_varP (pv 4 rfl (Or.inr (Or.inl rfl))))) (dk_cons (ag_d (de_varP (pv 6 rfl (Or.inr (Or.inl rfl))))) (dk_cons (ag_d (de_varP (pv 7 rfl (Or.inr (Or.inl rfl))))) dk_nil)))))) da_nil))))) (dr_cons (ag_d (de_frz (do_lst (da_cons (de_varP (pv 12 rfl (Or.inl rfl))) (da_cons (bi_len rfl g.b_len (de_frz (do_lc rfl sc_law.nd (di_seq (de_varP (pv 11 rfl (Or.inl rfl)))) (blkOk_by (N := (["script", "tin", "lap", "w", "d", "top_so", "recipe_so", "b", "rows_so", "fine_so", "got", "errs_so", "first_so", "far", "kind_so", "s", "own", "m", "shifts_so", "n", "k"] : List Str)) (sc := defScope (top 64)) (own := ([("n", 19)] : List (Str × Nat))) (by decide +kernel)) rfl (fun _ _ _ _ _ => (dg_n sc_law.nd rfl (Or.inl rfl) rfl (Or.inr rfl))) (fun _ _ _ _ _ => (bif_one (dt_cm cm_le (de_varP (pv 19 rfl (Or.inl rfl))) (de_varP (pv 7 rfl (Or.inr (Or.inl rfl)))) rfl))) (fun _ _ _ _ _ => (de_varP (pv 19 rfl (Or.inl rfl))))))) da_nil))))) dr_nil)))) fun _ => rfl)) (dss_one (ds_ret (do_d de_bl))) dss_nil))))) dss_nil) (dss_cons (ds_set sc_law.nd rfl (Or.inl rfl) rfl (do_d (de_frz (do_callK (k_right_up_to (P := P) (w := w) (base := base) g) (hr.mono (by decide : 10 ≤ 11)) rfl (passAt takesB) (dk_cons (ag_d (de_varP (pv 3 rfl (Or.inr (Or.inl rfl))))) (dk_cons (ag_d (de_varP (pv 4 rfl (Or.inr (Or.inl rfl))))) (dk_cons (ag_d (de_varP (pv 6 rfl (Or.inr (Or.inl rfl))))) dk_nil)))))) rfl (Or.inr rfl)) (dss_cons (ds_if (dt_w (dw_and (dt_cm cm_notN (de_varP (pv 13 rfl (Or.inl rfl))) de_non rfl) (dw_and1 (dt_w (dw_or (dt_not (dt_tru (de_frz (do_call (k_is_right_to (P := P) (w := w) (base := base) g).kn (hr.mono (by decide : 11 ≤ 11)) rfl (passAt takesB) (dr_cons (ag_d (de_varP (pv 3 rfl (Or.inr (Or.inl rfl))))) (dr_cons (ag_d (de_varP (pv 4 rfl (Or.inr (Or.inl rfl))))) (dr_cons (ag_d (de_varP (pv 6 rfl (Or.inr (Or.inl rfl))))) (dr_cons (ag_d (de_varP (pv 13 rfl (Or.inl rfl)))) dr_nil)))))) fun _ => rfl)) (dw_or1 (dt_w (dw_and (dt_cm cm_lt (de_varP (pv 13 rfl (Or.inl rfl))) (de_varP (pv 5 rfl (Or.inl rfl))) rfl) (dw_and1 (dt_w (dw_or (dt_tru (de_frz (do_call (k_is_right_to (P := P) (w := w) (base := base) g).kn (hr.mono (by decide : 11 ≤ 11)) rfl (passAt takesB) (dr_cons (ag_d (de_varP (pv 3 rfl (Or.inr (Or.inl rfl))))) (dr_cons (ag_d (de_varP (pv 4 rfl (Or.inr (Or.inl rfl))))) (dr_cons (ag_d (de_varP (pv 6 rfl (Or.inr (Or.inl rfl))))) (dr_cons (ag_d (de_add (de_varP (pv 13 rfl (Or.inl rfl))) de_int)) dr_nil)))))) fun _ => rfl) (dw_or1 (dt_cm (cm_eq hr.units) (de_frz (do_call (k__law_told (P := P) (w := w) (base := base) g) (hr.mono (by decide : 2 ≤ 11)) rfl (passAt takesB) (dr_cons (ag_d (de_varP (pv 6 rfl (Or.inr (Or.inl rfl))))) (dr_cons (ag_d (de_add (de_varP (pv 13 rfl (Or.inl rfl))) de_int)) dr_nil)))) (de_div (de_add (de_varP (pv 13 rfl (Or.inl rfl))) de_int) (de_varP (pv 4 rfl (Or.inr (Or.inl rfl))))) rfl))))))))))))) (dss_one (ds_ret (do_d de_bl))) dss_nil) (dss_cons (ds_asg (de_tup (da_cons (de_ix (de_varP (pv 6 rfl (Or.inr (Or.inl rfl)))) de_int fun _ _ => rfl) (da_cons (de_ix (de_varP (pv 6 rfl (Or.inr (Or.inl rfl)))) de_int fun _ _ => rfl) da_nil))) (dg_t rfl (dgs_cons (dg_n sc_law.nd rfl (Or.inr rfl) rfl (Or.inl rfl)) (dgs_cons (dg_n sc_law.nd rfl (Or.inl rfl) rfl (Or.inr rfl)) dgs_nil)))) (dss_cons (ds_set sc_law.nd rfl (Or.inl rfl) rfl (do_d (de_frz (do_call (k__law_range (P := P) (w := w) (base := base) g) (hr.mono (by decide : 2 ≤ 11)) rfl (passAt takesB) (dr_cons (ag_d (de_varP (pv 3 rfl (Or.inr (Or.inl rfl))))) (dr_cons (ag_d (de_varP (pv 4 rfl (Or.inr (Or.inl rfl))))) (dr_cons (ag_d (de_varP (pv 14 rfl (Or.inr (Or.inl rfl))))) (dr_cons (ag_d (de_varP (pv 15 rfl (Or.inl rfl)))) (dr_cons (ag_d (de_varP (pv 7 rfl (Or.inr (Or.inl rfl))))) dr_nil)))))))) rfl (Or.inr rfl)) (dss_cons (ds_if (dt_not (dt_tru (de_frz (do_call (k__law_same (P := P) (w := w) (base := base) g 6) (hr.mono (by decide : 7 ≤ 11)) rfl (passAt takesB) (dr_cons (ag_d (de_frz (do_callK (k_times_to (P := P) (w := w) (base := base) g) (hr.mono (by decide : 5 ≤ 11)) rfl (passAt takesB) (dk_cons (ag_d (de_varP (pv 3 rfl (Or.inr (Or.inl rfl))))) (dk_cons (ag_d (de_varP (pv 4 rfl (Or.inr (Or.inl rfl))))) (dk_cons (ag_d (de_varP (pv 14 rfl (Or.inr (Or.inl rfl))))) (dk_cons (ag_d (de_varP (pv 15 rfl (Or.inl rfl)))) (dk_cons (ag_d (de_varP (pv 7 rfl (Or.inr (Or.inl rfl))))) dk_nil)))))))) (dr_cons (ag_d (de_varP (pv 16 rfl (Or.inl rfl)))) dr_nil)))) fun _ => rfl)) (dss_one (ds_ret (do_d de_bl))) dss_nil) (dss_cons (ds_if (dt_cm cm_notN (de_varP (pv 16 rfl (Or.inl rfl))) de_non rfl) (dss_one (ds_for (passes_of rfl) rfl (di_seq (de_tup (da_cons (de_ix (de_varP (pv 16 rfl (Or.inl rfl))) de_int fun _ _ => rfl) (da_cons (de_ix (de_varP (pv 16 rfl (Or.inl rfl))) de_int fun _ _ => rfl) (da_cons (de_sub (de_ix (de_varP (pv 16 rfl (Or.inl rfl))) de_int fun _ _ => rfl) de_int) (da_cons (de_add (de_ix (de_varP (pv 16 rfl (Or.inl rfl))) de_int fun _ _ => rfl) de_int) da_nil)))))) (dg_n sc_law.nd rfl (Or.inl rfl) rfl (Or.inr rfl)) (dss_one (ds_if (dt_w (dw_and (dt_chain cm_le cm_lt de_int (de_varP (pv 17 rfl (Or.inl rfl))) (de_mul de_int (de_frz (do_call (k__law_two (P := P) (w := w) (base := base) g) (hr.mono (by decide : 1 ≤ 11)) rfl (passAt takesB) (dr_cons (ag_d (de_varP (pv 3 rfl (Or.inr (Or.inl rfl))))) dr_nil)))) rfl) (dw_and1 (dt_cm (cm_ne hr.units) (de_frz (do_call (k_is_right_to (P := P) (w := w) (base := base) g).kn (hr.mono (by decide : 11 ≤ 11)) rfl (passAt takesB) (dr_cons (ag_d (de_varP (pv 3 rfl (Or.inr (Or.inl rfl))))) (dr_cons (ag_d (de_varP (pv 4 rfl (Or.inr (Or.inl rfl))))) (dr_cons (ag_d (de_tup (da_cons (de_varP (pv 14 rfl (Or.inr (Or.inl rfl)))) (da_cons (de_varP (pv 17 rfl (Or.inl rfl))) (da_cons (de_varP (pv 15 rfl (Or.inl rfl))) da_nil))))) (dr_cons (ag_d (de_varP (pv 7 rfl (Or.inr (Or.inl rfl))))) dr_nil)))))) (de_chain cm_le cm_le (de_ix (de_varP (pv 16 rfl (Or.inl rfl))) de_int fun _ _ => rfl) (de_varP (pv 17 rfl (Or.inl rfl))) (de_ix (de_varP (pv 16 rfl (Or.inl rfl))) de_int fun _ _ => rfl) rfl) rfl)))) (dss_one (ds_ret (do_d de_bl))) dss_nil)))) dss_nil) (dss_cons (ds_setLcF rfl sc_law.nd rfl rfl rfl (sw_true rfl rfl rfl (by decide +kernel)) (di_range1 rfl g.b_range (de_add (de_mul de_int (de_varP (pv 3 rfl (Or.inr (Or.inl rfl))))) de_int)) (blkOk_by (N := (["script", "tin", "lap", "w", "d", "top_so", "recipe_so", "b", "rows_so", "fine_so", "got", "errs_so", "first_so", "far", "kind_so", "s", "own", "m", "shifts_so", "n", "k"] : List Str)) (sc := defScope (top 64)) (own := ([("k", 20)] : List (Str × Nat))) (by decide +kernel)) rfl (fun _ _ _ _ _ => (dg_n sc_law.nd rfl (Or.inl rfl) rfl (Or.inr rfl))) (fun _ _ _ _ _ => (bif_one (dt_cm cm_notN (de_frz (do_call (k__law_range (P := P) (w := w) (base := base) g) (hr.mono (by decide : 2 ≤ 11)) rfl passNo (dr_cons (ag_d (de_varP (pv 3 rfl (Or.inr (Or.inl rfl))))) (dr_cons (ag_d (de_varP (pv 4 rfl (Or.inr (Or.inl rfl))))) (dr_cons (ag_d (de_varP (pv 14 rfl (Or.inr (Or.inl rfl))))) (dr_cons (ag_d (de_varP (pv 20 rfl (Or.inl rfl)))) (dr_cons (ag_d (de_varP (pv 7 rfl (Or.inr (Or.inl rfl))))) dr_nil))))))) de_non rfl))) (fun _ _ _ _ _ => (de_varP (pv 20 rfl (Or.inl rfl))))) (dss_cons (ds_if (dt_cm (cm_eq hr.units) (de_varP (pv 18 rfl (Or.inl rfl))) (de_frz (do_lst da_nil)) rfl) (dss_one (ds_ret (do_d de_bl))) dss_nil) (dss_cons (ds_set sc_law.nd rfl (Or.inl rfl) rfl (do_d (de_frz (do_lst (da_cons (de_frz (do_callK (k_recipe_to (P := P) (w := w) (base := base) g) (hr.mono (by decide : 5 ≤ 11)) rfl (passAt takesB) (dk_cons (ag_d (de_varP (pv 3 rfl (Or.inr (Or.inl rfl))))) (dk_cons (ag_d (de_varP (pv 4 rfl (Or.inr (Or.inl rfl))))) (dk_cons (ag_d (de_varP (pv 14 rfl (Or.inr (Or.inl rfl))))) (dk_cons (ag_d (de_varP (pv 7 rfl (Or.inr (Or.inl rfl))))) dk_nil)))))) (da_cons (de_frz (do_callK (k_shift_saved (P := P) (w := w) (base := base) g) (hr.mono (by decide : 5 ≤ 11)) rfl (passAt takesB) (dk_cons (ag_d (de_varP (pv 3 rfl (Or.inr (Or.inl rfl))))) (dk_cons (ag_d (de_varP (pv 4 rfl (Or.inr (Or.inl rfl))))) (dk_cons (ag_d (de_varP (pv 14 rfl (Or.inr (Or.inl rfl))))) (dk_cons (ag_d (de_varP (pv 7 rfl (Or.inr (Or.inl rfl))))) dk_nil)))))) da_nil))))) rfl (Or.inr rfl)) (dss_cons (ds_if (dt_not (dt_tru (de_frz (do_call (k__law_same (P := P) (w := w) (base := base) g 6) (hr.mono (by decide : 7 ≤ 11)) rfl (passAt takesB) (dr_cons (ag_d (de_varP (pv 10 rfl (Or.inl rfl)))) (dr_cons (ag_d (de_frz (do_lst (da_cons (de_tup (da_cons (de_varP (pv 14 rfl (Or.inr (Or.inl rfl)))) (da_cons (de_ix (de_frz (do_call (k__law_range (P := P) (w := w) (base := base) g) (hr.mono (by decide : 2 ≤ 11)) rfl (passAt takesB) (dr_cons (ag_d (de_varP (pv 3 rfl (Or.inr (Or.inl rfl))))) (dr_cons (ag_d (de_varP (pv 4 rfl (Or.inr (Or.inl rfl))))) (dr_cons (ag_d (de_varP (pv 14 rfl (Or.inr (Or.inl rfl))))) (dr_cons (ag_d (de_ix (de_varP (pv 18 rfl (Or.inl rfl))) de_int fun _ _ => rfl)) (dr_cons (ag_d (de_varP (pv 7 rfl (Or.inr (Or.inl rfl))))) dr_nil))))))) de_int fun _ _ => rfl) (da_cons (de_ix (de_varP (pv 18 rfl (Or.inl rfl))) de_int fun _ _ => rfl) da_nil)))) (da_cons (de_sub (de_frz (do_callK (k_least_shift (P := P) (w := w) (base := base) g) (hr.mono (by decide : 5 ≤ 11)) rfl (passAt takesB) (dk_cons (ag_d (de_varP (pv 3 rfl (Or.inr (Or.inl rfl))))) (dk_cons (ag_d (de_varP (pv 4 rfl (Or.inr (Or.inl rfl))))) (dk_cons (ag_d (de_varP (pv 14 rfl (Or.inr (Or.inl rfl))))) dk_nil))))) (de_ix (de_varP (pv 18 rfl (Or.inl rfl))) de_int fun _ _ => rfl)) da_nil))))) dr_nil)))) fun _ => rfl)) (dss_one (ds_ret (do_d de_bl))) dss_nil) (dss_one (ds_if (dt_w (dw_or (dt_cm (cm_ne hr.units) (de_frz (do_call (k_shift_saved (P := P) (w := w) (base := base) g).kn (hr.mono (by decide : 5 ≤ 11)) rfl (passAt takesB) (dr_cons (ag_d (de_varP (pv 3 rfl (Or.inr (Or.inl rfl))))) (dr_cons (ag_d (de_varP (pv 4 rfl (Or.inr (Or.inl rfl))))) (dr_cons (ag_d (de_varP (pv 14 rfl (Or.inr (Or.inl rfl))))) (dr_cons (ag_d (de_varP (pv 5 rfl (Or.inl rfl)))) dr_nil)))))) de_int rfl) (dw_or1 (dt_cm cm_lt (de_frz (do_call (k_shift_saved (P := P) (w := w) (base := base) g).kn (hr.mono (by decide : 5 ≤ 11)) rfl (passAt takesB) (dr_cons (ag_d (de_varP (pv 3 rfl (Or.inr (Or.inl rfl))))) (dr_cons (ag_d (de_varP (pv 4 rfl (Or.inr (Or.inl rfl))))) (dr_cons (ag_d (de_varP (pv 14 rfl (Or.inr (Or.inl rfl))))) (dr_cons (ag_d (de_varP (pv 7 rfl (Or.inr (Or.inl rfl))))) dr_nil)))))) de_int rfl)))) (dss_one (ds_ret (do_d de_bl))) dss_nil)))))))))))))))))))))) (dss_one (ds_ret (do_d de_bl)))))
end L40

set_option Elab.async false
set_option linter.all false
set_option maxRecDepth 100000
set_option maxHeartbeats 0
namespace L40
open PySem PySem.Spec PyProof.Rows L2 DL

def dd_is_number : He.DefD := ⟨("is_number", none), "is_number", "is_number", defArgs (top 3), defBody (top 3), defScope (top 3), [], []⟩
def dd_is_within : He.DefD := ⟨("is_within", none), "is_within", "is_within", defArgs (top 4), defBody (top 4), defScope (top 4), [], []⟩
def dd_is_long : He.DefD := ⟨("is_long", none), "is_long", "is_long", defArgs (top 5), defBody (top 5), defScope (top 5), [], []⟩
def dd_tupled : He.DefD := ⟨("tupled", none), "tupled", "tupled", defArgs (top 6), defBody (top 6), defScope (top 6), [], []⟩
def dd_sure_within : He.DefD := ⟨("sure_within", none), "sure_within", "sure_within", defArgs (top 7), defBody (top 7), defScope (top 7), [], []⟩
def dd_sure_width : He.DefD := ⟨("sure_width", none), "sure_width", "sure_width", defArgs (top 10), defBody (top 10), defScope (top 10), [], []⟩
def dd_top_in : He.DefD := ⟨("top_in", none), "top_in", "top_in", defArgs (top 11), defBody (top 11), defScope (top 11), [], []⟩
def dd_sure_word : He.DefD := ⟨("sure_word", none), "sure_word", "sure_word", defArgs (top 12), defBody (top 12), defScope (top 12), [], []⟩
def dd_sure_divisor : He.DefD := ⟨("sure_divisor", none), "sure_divisor", "sure_divisor", defArgs (top 13), defBody (top 13), defScope (top 13), [], []⟩
def dd_upper : He.DefD := ⟨("upper", none), "upper", "upper", defArgs (top 14), defBody (top 14), defScope (top 14), [], []⟩
def dd_is_recipe_in : He.DefD := ⟨("is_recipe_in", none), "is_recipe_in", "is_recipe_in", defArgs (top 17), defBody (top 17), defScope (top 17), [], []⟩
def dd_sure_recipe : He.DefD := ⟨("sure_recipe", none), "sure_recipe", "sure_recipe", defArgs (top 18), defBody (top 18), defScope (top 18), [], []⟩
def dd_sure_kind : He.DefD := ⟨("sure_kind", none), "sure_kind", "sure_kind", defArgs (top 19), defBody (top 19), defScope (top 19), [], []⟩
def dd_sure_three : He.DefD := ⟨("sure_three", none), "sure_three", "sure_three", defArgs (top 20), defBody (top 20), defScope (top 20), [], []⟩
def dd_value_of : He.DefD := ⟨("value_of", none), "value_of", "value_of", defArgs (top 21), defBody (top 21), defScope (top 21), [], []⟩
def dd_excess_in : He.DefD := ⟨("excess_in", none), "excess_in", "excess_in", defArgs (top 22), defBody (top 22), defScope (top 22), [], []⟩
def dd_floor_sum : He.DefD := ⟨("floor_sum", none), "floor_sum", "floor_sum", defArgs (top 24), defBody (top 24), defScope (top 24), [], []⟩
def dd_more_of : He.DefD := ⟨("more_of", none), "more_of", "more_of", defArgs (top 25), defBody (top 25), defScope (top 25), [], []⟩
def dd_late_count : He.DefD := ⟨("late_count", none), "late_count", "late_count", defArgs (top 26), defBody (top 26), defScope (top 26), [], []⟩
def dd_early_count : He.DefD := ⟨("early_count", none), "early_count", "early_count", defArgs (top 27), defBody (top 27), defScope (top 27), [], []⟩
def dd_piece_in : He.DefD := ⟨("piece_in", none), "piece_in", "piece_in", defArgs (top 28), defBody (top 28), defScope (top 28), [], []⟩
def dd_first_place : He.DefD := ⟨("first_place", none), "first_place", "first_place", defArgs (top 29), defBody (top 29), defScope (top 29), [], []⟩
def dd_full_count : He.DefD := ⟨("full_count", none), "full_count", "full_count", defArgs (top 30), defBody (top 30), defScope (top 30), [], []⟩
def dd_first_in : He.DefD := ⟨("first_in", none), "first_in", "first_in", defArgs (top 31), defBody (top 31), defScope (top 31), [], []⟩
def dd_looks_to_in : He.DefD := ⟨("looks_to_in", none), "looks_to_in", "looks_to_in", defArgs (top 33), defBody (top 33), defScope (top 33), [], []⟩
def dd_right_to_in : He.DefD := ⟨("right_to_in", none), "right_to_in", "right_to_in", defArgs (top 34), defBody (top 34), defScope (top 34), [], []⟩
def dd_times_to_in : He.DefD := ⟨("times_to_in", none), "times_to_in", "times_to_in", defArgs (top 35), defBody (top 35), defScope (top 35), [], []⟩
def dd_recipe_to_in : He.DefD := ⟨("recipe_to_in", none), "recipe_to_in", "recipe_to_in", defArgs (top 36), defBody (top 36), defScope (top 36), [], []⟩
def dd_sure_bound : He.DefD := ⟨("sure_bound", none), "sure_bound", "sure_bound", defArgs (top 37), defBody (top 37), defScope (top 37), [], []⟩
def dd_looks_to : He.DefD := ⟨("looks_to", none), "looks_to", "looks_to", defArgs (top 38), defBody (top 38), defScope (top 38), [], []⟩
def dd_is_right_to : He.DefD := ⟨("is_right_to", none), "is_right_to", "is_right_to", defArgs (top 39), defBody (top 39), defScope (top 39), [], []⟩
def dd_right_up_to : He.DefD := ⟨("right_up_to", none), "right_up_to", "right_up_to", defArgs (top 40), defBody (top 40), defScope (top 40), [], []⟩
def dd_errs_to : He.DefD := ⟨("errs_to", none), "errs_to", "errs_to", defArgs (top 41), defBody (top 41), defScope (top 41), [], []⟩
def dd_times_to : He.DefD := ⟨("times_to", none), "times_to", "times_to", defArgs (top 42), defBody (top 42), defScope (top 42), [], []⟩
def dd_recipe_to : He.DefD := ⟨("recipe_to", none), "recipe_to", "recipe_to", defArgs (top 43), defBody (top 43), defScope (top 43), [], []⟩
def dd_shift_saved : He.DefD := ⟨("shift_saved", none), "shift_saved", "shift_saved", defArgs (top 44), defBody (top 44), defScope (top 44), [], []⟩
def dd_times_in : He.DefD := ⟨("times_in", none), "times_in", "times_in", defArgs (top 46), defBody (top 46), defScope (top 46), [], []⟩
def dd_shift_in : He.DefD := ⟨("shift_in", none), "shift_in", "shift_in", defArgs (top 47), defBody (top 47), defScope (top 47), [], []⟩
def dd_least_shift : He.DefD := ⟨("least_shift", none), "least_shift", "least_shift", defArgs (top 48), defBody (top 48), defScope (top 48), [], []⟩
def dd__law_box : He.DefD := ⟨("_law_box", none), "_law_box", "_law_box", defArgs (top 50), defBody (top 50), defScope (top 50), [], []⟩
def dd__law_take : He.DefD := ⟨("_law_take", none), "_law_take", "_law_take", defArgs (top 51), defBody (top 51), defScope (top 51), [], []⟩
def dd__law_cells : He.DefD := ⟨("_law_cells", none), "_law_cells", "_law_cells", defArgs (top 52), defBody (top 52), defScope (top 52), [], []⟩
def dd__law_of : He.DefD := ⟨("_law_of", none), "_law_of", "_law_of", defArgs (top 53), defBody (top 53), defScope (top 53), [], []⟩
def dd__law_same : He.DefD := ⟨("_law_same", none), "_law_same", "_law_same", defArgs (top 54), defBody (top 54), defScope (top 54), [], []⟩
def dd__law_two : He.DefD := ⟨("_law_two", none), "_law_two", "_law_two", defArgs (top 55), defBody (top 55), defScope (top 55), [], []⟩
def dd__law_wide : He.DefD := ⟨("_law_wide", none), "_law_wide", "_law_wide", defArgs (top 56), defBody (top 56), defScope (top 56), [], []⟩
def dd__law_divisor : He.DefD := ⟨("_law_divisor", none), "_law_divisor", "_law_divisor", defArgs (top 57), defBody (top 57), defScope (top 57), [], []⟩
def dd__law_told : He.DefD := ⟨("_law_told", none), "_law_told", "_law_told", defArgs (top 58), defBody (top 58), defScope (top 58), [], []⟩
def dd__law_upper : He.DefD := ⟨("_law_upper", none), "_law_upper", "_law_upper", defArgs (top 59), defBody (top 59), defScope (top 59), [], []⟩
def dd__law_run : He.DefD := ⟨("_law_run", none), "_law_run", "_law_run", defArgs (top 60), defBody (top 60), defScope (top 60), [], []⟩
def dd__law_recipe : He.DefD := ⟨("_law_recipe", none), "_law_recipe", "_law_recipe", defArgs (top 61), defBody (top 61), defScope (top 61), [], []⟩
def dd__law_looks : He.DefD := ⟨("_law_looks", none), "_law_looks", "_law_looks", defArgs (top 62), defBody (top 62), defScope (top 62), [], []⟩
def dd__law_range : He.DefD := ⟨("_law_range", none), "_law_range", "_law_range", defArgs (top 63), defBody (top 63), defScope (top 63), [], []⟩
def dd_law : He.DefD := ⟨("law", none), "law", "law", defArgs (top 64), defBody (top 64), defScope (top 64), [], []⟩
def fn : List He.DefD := ([dd_is_number, dd_is_within, dd_is_long, dd_tupled, dd_sure_within, dd_sure_width, dd_top_in, dd_sure_word, dd_sure_divisor, dd_upper, dd_is_recipe_in, dd_sure_recipe, dd_sure_kind, dd_sure_three, dd_value_of, dd_excess_in, dd_floor_sum, dd_more_of, dd_late_count, dd_early_count, dd_piece_in, dd_first_place, dd_full_count, dd_first_in] : List He.DefD) ++ ([dd_looks_to_in, dd_right_to_in, dd_times_to_in, dd_recipe_to_in, dd_sure_bound, dd_looks_to, dd_is_right_to, dd_right_up_to, dd_errs_to, dd_times_to, dd_recipe_to, dd_shift_saved, dd_times_in, dd_shift_in, dd_least_shift, dd__law_box, dd__law_take, dd__law_cells, dd__law_of, dd__law_same, dd__law_two, dd__law_wide, dd__law_divisor, dd__law_told] : List He.DefD) ++ ([dd__law_upper, dd__law_run, dd__law_recipe, dd__law_looks, dd__law_range, dd_law] : List He.DefD)
def fa : List He.Fa := ([.glo "is_number", .glo "is_within", .glo "is_long", .glo "tupled", .glo "sure_within", .glo "sure_width", .glo "top_in", .glo "sure_word", .glo "sure_divisor", .glo "upper", .glo "is_recipe_in", .glo "sure_recipe", .glo "sure_kind", .glo "sure_three", .glo "value_of", .glo "excess_in", .glo "floor_sum", .glo "more_of", .glo "late_count", .glo "early_count", .glo "piece_in", .glo "first_place", .glo "full_count", .glo "first_in"] : List He.Fa) ++ ([.glo "looks_to_in", .glo "right_to_in", .glo "times_to_in", .glo "recipe_to_in", .glo "sure_bound", .glo "looks_to", .glo "is_right_to", .glo "right_up_to", .glo "errs_to", .glo "times_to", .glo "recipe_to", .glo "shift_saved", .glo "times_in", .glo "shift_in", .glo "least_shift", .glo "_law_box", .glo "_law_take", .glo "_law_cells", .glo "_law_of", .glo "_law_same", .glo "_law_two", .glo "_law_wide", .glo "_law_divisor", .glo "_law_told"] : List He.Fa) ++ ([.glo "_law_upper", .glo "_law_run", .glo "_law_recipe", .glo "_law_looks", .glo "_law_range", .glo "law", .free "ValueError", .free "abs", .free "all", .free "bool", .free "dict", .free "enumerate", .free "int", .free "isinstance", .free "len", .free "list", .free "max", .free "min", .free "range", .free "set", .free "sorted", .free "str", .free "tuple", .free "zip"] : List He.Fa) ++ ([.glo "Unfit", .exc "Unfit", .int "MOST_WIDTH" 64] : List He.Fa)
def loose : List PySem.Str := (["is_number", "is_within", "is_long", "tupled", "sure_within", "sure_width", "top_in", "sure_word", "sure_divisor", "upper", "is_recipe_in", "sure_recipe", "sure_kind", "sure_three", "value_of", "excess_in", "floor_sum", "more_of", "late_count", "early_count", "piece_in", "first_place", "full_count", "first_in"] : List PySem.Str) ++ (["looks_to_in", "right_to_in", "times_to_in", "recipe_to_in", "sure_bound", "looks_to", "is_right_to", "right_up_to", "errs_to", "times_to", "recipe_to", "shift_saved", "times_in", "shift_in", "least_shift", "_law_box", "_law_take", "_law_cells", "_law_of", "_law_same", "_law_two", "_law_wide", "_law_divisor", "_law_told"] : List PySem.Str) ++ (["_law_upper", "_law_run", "_law_recipe", "_law_looks", "_law_range", "Unfit", "MOST_WIDTH", "KINDS"] : List PySem.Str)
def exF (K : PySem.W.Frag) : Bool := noLists K && conB K "KINDS" k_KINDS
abbrev R : PySem.W.OpenRow := PySem.W.OpenLaw.row PySem.Challenge.rw_dividedbytimes_k40_main_words_up_to_a_bo
abbrev hk : PySem.W.Hook := He.hookX 4 fa fn [] [] exF
def ob (s : PySem.W.SharedT) : He.AlX := He.obsX 4 fa fn [] [] exF (HandSHeadRun.getT s)
theorem ob_eq (s : PySem.W.SharedT) : ob s = hk.obs s.abs := He.obsX_eq (HandSHeadRun.getT_eq s)
theorem run (w : World) : HandSHeadRun.RunEq R (PySem.W.view R.prog [64]) hk ob 6000 loose w := by
  intro os
  kernel_rfl
theorem ends (hc : PySem.W.WalkO (PySem.W.view R.prog [64]) loose (PySem.W.XL (PySem.W.view R.prog [64]) []) hk.says R.toRowW (HandSHeadRun.topDef R.prog 64) [] fun f vs => PySem.call f vs) : PySem.Challenge.rw_dividedbytimes_k40_main_words_up_to_a_bo.Holds := by
  w_on; o_law
  refine HandSHeadRun.head_any (r := R) (q := PySem.W.view R.prog [64]) (H := hk) (ob := ob) (M := 6000) (loose := loose) (d := HandSHeadRun.topDef R.prog 64) (kwd := []) ob_eq
    (by kernel_rfl) (fun s => by kernel_rfl) run (by kernel_rfl) (by kernel_rfl) (by kernel_rfl) (by rfl) (by first | assumption | decide +kernel) (by decide +kernel) ⟨rfl, rfl, rfl, rfl, rfl, by decide +kernel⟩ ?hw ?hc
  case hw => w_witness2
  case hc => exact hc
theorem facts {w : World} {K : PySem.W.Frag} {h : Heap} {mg : Str → Option Value} (X : K.In h) (N : h.Ns mainGlobals mg) (c : He.SaysX fa fn [] [] exF w h K) : G ⟨K, mg⟩ where
  d_is_number := by
    obtain ⟨fd, h⟩ := c.t.d.def_ 0 (d := dd_is_number) rfl
    exact ⟨_, fd, h, He.glo_ok X N (c.t.d.fact 0 (f := .glo "is_number") rfl)⟩
  d_is_within := by
    obtain ⟨fd, h⟩ := c.t.d.def_ 1 (d := dd_is_within) rfl
    exact ⟨_, fd, h, He.glo_ok X N (c.t.d.fact 1 (f := .glo "is_within") rfl)⟩
  d_is_long := by
    obtain ⟨fd, h⟩ := c.t.d.def_ 2 (d := dd_is_long) rfl
    exact ⟨_, fd, h, He.glo_ok X N (c.t.d.fact 2 (f := .glo "is_long") rfl)⟩
  d_tupled := by
    obtain ⟨fd, h⟩ := c.t.d.def_ 3 (d := dd_tupled) rfl
    exact ⟨_, fd, h, He.glo_ok X N (c.t.d.fact 3 (f := .glo "tupled") rfl)⟩
  d_sure_within := by
    obtain ⟨fd, h⟩ := c.t.d.def_ 4 (d := dd_sure_within) rfl
    exact ⟨_, fd, h, He.glo_ok X N (c.t.d.fact 4 (f := .glo "sure_within") rfl)⟩
  d_sure_width := by
    obtain ⟨fd, h⟩ := c.t.d.def_ 5 (d := dd_sure_width) rfl
    exact ⟨_, fd, h, He.glo_ok X N (c.t.d.fact 5 (f := .glo "sure_width") rfl)⟩
  d_top_in := by
    obtain ⟨fd, h⟩ := c.t.d.def_ 6 (d := dd_top_in) rfl
    exact ⟨_, fd, h, He.glo_ok X N (c.t.d.fact 6 (f := .glo "top_in") rfl)⟩
  d_sure_word := by
    obtain ⟨fd, h⟩ := c.t.d.def_ 7 (d := dd_sure_word) rfl
    exact ⟨_, fd, h, He.glo_ok X N (c.t.d.fact 7 (f := .glo "sure_word") rfl)⟩
  d_sure_divisor := by
    obtain ⟨fd, h⟩ := c.t.d.def_ 8 (d := dd_sure_divisor) rfl
    exact ⟨_, fd, h, He.glo_ok X N (c.t.d.fact 8 (f := .glo "sure_divisor") rfl)⟩
  d_upper := by
    obtain ⟨fd, h⟩ := c.t.d.def_ 9 (d := dd_upper) rfl
    exact ⟨_, fd, h, He.glo_ok X N (c.t.d.fact 9 (f := .glo "upper") rfl)⟩
  d_is_recipe_in := by
    obtain ⟨fd, h⟩ := c.t.d.def_ 10 (d := dd_is_recipe_in) rfl
    exact ⟨_, fd, h, He.glo_ok X N (c.t.d.fact 10 (f := .glo "is_recipe_in") rfl)⟩
  d_sure_recipe := by
    obtain ⟨fd, h⟩ := c.t.d.def_ 11 (d := dd_sure_recipe) rfl
    exact ⟨_, fd, h, He.glo_ok X N (c.t.d.fact 11 (f := .glo "sure_recipe") rfl)⟩
  d_sure_kind := by
    obtain ⟨fd, h⟩ := c.t.d.def_ 12 (d := dd_sure_kind) rfl
    exact ⟨_, fd, h, He.glo_ok X N (c.t.d.fact 12 (f := .glo "sure_kind") rfl)⟩
  d_sure_three := by
    obtain ⟨fd, h⟩ := c.t.d.def_ 13 (d := dd_sure_three) rfl
    exact ⟨_, fd, h, He.glo_ok X N (c.t.d.fact 13 (f := .glo "sure_three") rfl)⟩
  d_value_of := by
    obtain ⟨fd, h⟩ := c.t.d.def_ 14 (d := dd_value_of) rfl
    exact ⟨_, fd, h, He.glo_ok X N (c.t.d.fact 14 (f := .glo "value_of") rfl)⟩
  d_excess_in := by
    obtain ⟨fd, h⟩ := c.t.d.def_ 15 (d := dd_excess_in) rfl
    exact ⟨_, fd, h, He.glo_ok X N (c.t.d.fact 15 (f := .glo "excess_in") rfl)⟩
  d_floor_sum := by
    obtain ⟨fd, h⟩ := c.t.d.def_ 16 (d := dd_floor_sum) rfl
    exact ⟨_, fd, h, He.glo_ok X N (c.t.d.fact 16 (f := .glo "floor_sum") rfl)⟩
  d_more_of := by
    obtain ⟨fd, h⟩ := c.t.d.def_ 17 (d := dd_more_of) rfl
    exact ⟨_, fd, h, He.glo_ok X N (c.t.d.fact 17 (f := .glo "more_of") rfl)⟩
  d_late_count := by
    obtain ⟨fd, h⟩ := c.t.d.def_ 18 (d := dd_late_count) rfl
    exact ⟨_, fd, h, He.glo_ok X N (c.t.d.fact 18 (f := .glo "late_count") rfl)⟩
  d_early_count := by
    obtain ⟨fd, h⟩ := c.t.d.def_ 19 (d := dd_early_count) rfl
    exact ⟨_, fd, h, He.glo_ok X N (c.t.d.fact 19 (f := .glo "early_count") rfl)⟩
  d_piece_in := by
    obtain ⟨fd, h⟩ := c.t.d.def_ 20 (d := dd_piece_in) rfl
    exact ⟨_, fd, h, He.glo_ok X N (c.t.d.fact 20 (f := .glo "piece_in") rfl)⟩
  d_first_place := by
    obtain ⟨fd, h⟩ := c.t.d.def_ 21 (d := dd_first_place) rfl
    exact ⟨_, fd, h, He.glo_ok X N (c.t.d.fact 21 (f := .glo "first_place") rfl)⟩
  d_full_count := by
    obtain ⟨fd, h⟩ := c.t.d.def_ 22 (d := dd_full_count) rfl
    exact ⟨_, fd, h, He.glo_ok X N (c.t.d.fact 22 (f := .glo "full_count") rfl)⟩
  d_first_in := by
    obtain ⟨fd, h⟩ := c.t.d.def_ 23 (d := dd_first_in) rfl
    exact ⟨_, fd, h, He.glo_ok X N (c.t.d.fact 23 (f := .glo "first_in") rfl)⟩
  d_looks_to_in := by
    obtain ⟨fd, h⟩ := c.t.d.def_ 24 (d := dd_looks_to_in) rfl
    exact ⟨_, fd, h, He.glo_ok X N (c.t.d.fact 24 (f := .glo "looks_to_in") rfl)⟩
  d_right_to_in := by
    obtain ⟨fd, h⟩ := c.t.d.def_ 25 (d := dd_right_to_in) rfl
    exact ⟨_, fd, h, He.glo_ok X N (c.t.d.fact 25 (f := .glo "right_to_in") rfl)⟩
  d_times_to_in := by
    obtain ⟨fd, h⟩ := c.t.d.def_ 26 (d := dd_times_to_in) rfl
    exact ⟨_, fd, h, He.glo_ok X N (c.t.d.fact 26 (f := .glo "times_to_in") rfl)⟩
  d_recipe_to_in := by
    obtain ⟨fd, h⟩ := c.t.d.def_ 27 (d := dd_recipe_to_in) rfl
    exact ⟨_, fd, h, He.glo_ok X N (c.t.d.fact 27 (f := .glo "recipe_to_in") rfl)⟩
  d_sure_bound := by
    obtain ⟨fd, h⟩ := c.t.d.def_ 28 (d := dd_sure_bound) rfl
    exact ⟨_, fd, h, He.glo_ok X N (c.t.d.fact 28 (f := .glo "sure_bound") rfl)⟩
  d_looks_to := by
    obtain ⟨fd, h⟩ := c.t.d.def_ 29 (d := dd_looks_to) rfl
    exact ⟨_, fd, h, He.glo_ok X N (c.t.d.fact 29 (f := .glo "looks_to") rfl)⟩
  d_is_right_to := by
    obtain ⟨fd, h⟩ := c.t.d.def_ 30 (d := dd_is_right_to) rfl
    exact ⟨_, fd, h, He.glo_ok X N (c.t.d.fact 30 (f := .glo "is_right_to") rfl)⟩
  d_right_up_to := by
    obtain ⟨fd, h⟩ := c.t.d.def_ 31 (d := dd_right_up_to) rfl
    exact ⟨_, fd, h, He.glo_ok X N (c.t.d.fact 31 (f := .glo "right_up_to") rfl)⟩
  d_errs_to := by
    obtain ⟨fd, h⟩ := c.t.d.def_ 32 (d := dd_errs_to) rfl
    exact ⟨_, fd, h, He.glo_ok X N (c.t.d.fact 32 (f := .glo "errs_to") rfl)⟩
  d_times_to := by
    obtain ⟨fd, h⟩ := c.t.d.def_ 33 (d := dd_times_to) rfl
    exact ⟨_, fd, h, He.glo_ok X N (c.t.d.fact 33 (f := .glo "times_to") rfl)⟩
  d_recipe_to := by
    obtain ⟨fd, h⟩ := c.t.d.def_ 34 (d := dd_recipe_to) rfl
    exact ⟨_, fd, h, He.glo_ok X N (c.t.d.fact 34 (f := .glo "recipe_to") rfl)⟩
  d_shift_saved := by
    obtain ⟨fd, h⟩ := c.t.d.def_ 35 (d := dd_shift_saved) rfl
    exact ⟨_, fd, h, He.glo_ok X N (c.t.d.fact 35 (f := .glo "shift_saved") rfl)⟩
  d_times_in := by
    obtain ⟨fd, h⟩ := c.t.d.def_ 36 (d := dd_times_in) rfl
    exact ⟨_, fd, h, He.glo_ok X N (c.t.d.fact 36 (f := .glo "times_in") rfl)⟩
  d_shift_in := by
    obtain ⟨fd, h⟩ := c.t.d.def_ 37 (d := dd_shift_in) rfl
    exact ⟨_, fd, h, He.glo_ok X N (c.t.d.fact 37 (f := .glo "shift_in") rfl)⟩
  d_least_shift := by
    obtain ⟨fd, h⟩ := c.t.d.def_ 38 (d := dd_least_shift) rfl
    exact ⟨_, fd, h, He.glo_ok X N (c.t.d.fact 38 (f := .glo "least_shift") rfl)⟩
  d__law_box := by
    obtain ⟨fd, h⟩ := c.t.d.def_ 39 (d := dd__law_box) rfl
    exact ⟨_, fd, h, He.glo_ok X N (c.t.d.fact 39 (f := .glo "_law_box") rfl)⟩
  d__law_take := by
    obtain ⟨fd, h⟩ := c.t.d.def_ 40 (d := dd__law_take) rfl
    exact ⟨_, fd, h, He.glo_ok X N (c.t.d.fact 40 (f := .glo "_law_take") rfl)⟩
  d__law_cells := by
    obtain ⟨fd, h⟩ := c.t.d.def_ 41 (d := dd__law_cells) rfl
    exact ⟨_, fd, h, He.glo_ok X N (c.t.d.fact 41 (f := .glo "_law_cells") rfl)⟩
  d__law_of := by
    obtain ⟨fd, h⟩ := c.t.d.def_ 42 (d := dd__law_of) rfl
    exact ⟨_, fd, h, He.glo_ok X N (c.t.d.fact 42 (f := .glo "_law_of") rfl)⟩
  d__law_same := by
    obtain ⟨fd, h⟩ := c.t.d.def_ 43 (d := dd__law_same) rfl
    exact ⟨_, fd, h, He.glo_ok X N (c.t.d.fact 43 (f := .glo "_law_same") rfl)⟩
  d__law_two := by
    obtain ⟨fd, h⟩ := c.t.d.def_ 44 (d := dd__law_two) rfl
    exact ⟨_, fd, h, He.glo_ok X N (c.t.d.fact 44 (f := .glo "_law_two") rfl)⟩
  d__law_wide := by
    obtain ⟨fd, h⟩ := c.t.d.def_ 45 (d := dd__law_wide) rfl
    exact ⟨_, fd, h, He.glo_ok X N (c.t.d.fact 45 (f := .glo "_law_wide") rfl)⟩
  d__law_divisor := by
    obtain ⟨fd, h⟩ := c.t.d.def_ 46 (d := dd__law_divisor) rfl
    exact ⟨_, fd, h, He.glo_ok X N (c.t.d.fact 46 (f := .glo "_law_divisor") rfl)⟩
  d__law_told := by
    obtain ⟨fd, h⟩ := c.t.d.def_ 47 (d := dd__law_told) rfl
    exact ⟨_, fd, h, He.glo_ok X N (c.t.d.fact 47 (f := .glo "_law_told") rfl)⟩
  d__law_upper := by
    obtain ⟨fd, h⟩ := c.t.d.def_ 48 (d := dd__law_upper) rfl
    exact ⟨_, fd, h, He.glo_ok X N (c.t.d.fact 48 (f := .glo "_law_upper") rfl)⟩
  d__law_run := by
    obtain ⟨fd, h⟩ := c.t.d.def_ 49 (d := dd__law_run) rfl
    exact ⟨_, fd, h, He.glo_ok X N (c.t.d.fact 49 (f := .glo "_law_run") rfl)⟩
  d__law_recipe := by
    obtain ⟨fd, h⟩ := c.t.d.def_ 50 (d := dd__law_recipe) rfl
    exact ⟨_, fd, h, He.glo_ok X N (c.t.d.fact 50 (f := .glo "_law_recipe") rfl)⟩
  d__law_looks := by
    obtain ⟨fd, h⟩ := c.t.d.def_ 51 (d := dd__law_looks) rfl
    exact ⟨_, fd, h, He.glo_ok X N (c.t.d.fact 51 (f := .glo "_law_looks") rfl)⟩
  d__law_range := by
    obtain ⟨fd, h⟩ := c.t.d.def_ 52 (d := dd__law_range) rfl
    exact ⟨_, fd, h, He.glo_ok X N (c.t.d.fact 52 (f := .glo "_law_range") rfl)⟩
  d_law := by
    obtain ⟨fd, h⟩ := c.t.d.def_ 53 (d := dd_law) rfl
    exact ⟨_, fd, h, He.glo_ok X N (c.t.d.fact 53 (f := .glo "law") rfl)⟩
  b_ValueError := He.free_ok X N (c.t.d.fact 54 (f := .free "ValueError") rfl)
  b_abs := He.free_ok X N (c.t.d.fact 55 (f := .free "abs") rfl)
  b_all := He.free_ok X N (c.t.d.fact 56 (f := .free "all") rfl)
  b_bool := He.free_ok X N (c.t.d.fact 57 (f := .free "bool") rfl)
  b_dict := He.free_ok X N (c.t.d.fact 58 (f := .free "dict") rfl)
  b_enumerate := He.free_ok X N (c.t.d.fact 59 (f := .free "enumerate") rfl)
  b_int := He.free_ok X N (c.t.d.fact 60 (f := .free "int") rfl)
  b_isinstance := He.free_ok X N (c.t.d.fact 61 (f := .free "isinstance") rfl)
  b_len := He.free_ok X N (c.t.d.fact 62 (f := .free "len") rfl)
  b_list := He.free_ok X N (c.t.d.fact 63 (f := .free "list") rfl)
  b_max := He.free_ok X N (c.t.d.fact 64 (f := .free "max") rfl)
  b_min := He.free_ok X N (c.t.d.fact 65 (f := .free "min") rfl)
  b_range := He.free_ok X N (c.t.d.fact 66 (f := .free "range") rfl)
  b_set := He.free_ok X N (c.t.d.fact 67 (f := .free "set") rfl)
  b_sorted := He.free_ok X N (c.t.d.fact 68 (f := .free "sorted") rfl)
  b_str := He.free_ok X N (c.t.d.fact 69 (f := .free "str") rfl)
  b_tuple := He.free_ok X N (c.t.d.fact 70 (f := .free "tuple") rfl)
  b_zip := He.free_ok X N (c.t.d.fact 71 (f := .free "zip") rfl)
  c_MOST_WIDTH := He.int_ok X N (c.t.d.fact 74 (f := .int "MOST_WIDTH" 64) rfl)
  x_Unfit := by
    obtain ⟨h1, h2, h3, h4⟩ := He.exc_ok (c.t.d.fact 73 (f := .exc "Unfit") rfl)
    exact ⟨He.glo_ok X N (c.t.d.fact 72 (f := .glo "Unfit") rfl), h1, h2, h3, h4⟩
  k_KINDS := by
    have m : exF K = true := c.more
    unfold exF at m
    simp only [Bool.and_eq_true] at m
    exact conB_ok (K := ⟨K, mg⟩) X N m.2
theorem holds : PySem.Challenge.rw_dividedbytimes_k40_main_words_up_to_a_bo.Holds := by
  refine ends ?_
  refine dl_walk (l := PySem.Challenge.rw_dividedbytimes_k40_main_words_up_to_a_bo) (n := 63) (k := 12) (x := "script") rfl (by decide) (by kernel_rfl) ⟨rfl, by decide, by decide⟩ ?_
  intro w mg fa' h Y N hmg0
  obtain ⟨K, KX, c⟩ := Y
  have hmg : mg ("law" : PySem.Str) = some (.ref fa') := by
    have e : (HandSHeadRun.topDef R.prog 64).name = ("law" : PySem.Str) := by kernel_rfl
    rw [← e]
    exact hmg0
  obtain ⟨fd, hd⟩ := c.t.d.def_ 53 (d := dd_law) rfl
  have e := hmg.symm.trans (He.glo_ok KX N (c.t.d.fact 53 (f := .glo "law") rfl))
  cases e
  have g := facts KX N c
  have nl : noLists K = true := (by
    have m : exF K = true := c.more
    unfold exF at m
    simp only [Bool.and_eq_true] at m
    exact m.1)
  have b := FunD.bindsA (ps := ["script"]) hd fun _ _ _ _ _ _ us hl => match us, hl with | [_], _ => rfl
  refine ⟨K, fd, φ_law, KX, nl, fun s v => b s [v] rfl, good, fun base _ _ => ⟨erK ⟨K, mg⟩, ?_⟩⟩
  exact law_ok (K := ⟨K, mg⟩) g hd
end L40

theorem PySem.Challenge.cw_dividedbytimes_k40_main_words_up_to_a_bo_holds : PySem.Challenge.rw_dividedbytimes_k40_main_words_up_to_a_bo.Holds := by
  exact L40.holds
