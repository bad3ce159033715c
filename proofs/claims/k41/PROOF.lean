import PyProof.Rows.All
import HandS.Base
import HandS.List
import HandS.WideBits
import Wide.All
import OpenK.AllK
import Wide.FinOn
import PyProof.EqAt
import PyProof.EqKinds
import PyProof.TupleCall
import HandS.Call
import HandS.Comp
import HandS.Iter
import HandS.Zip
import HandS.Exc
import HandS.ExcOwn
import HandS.TryOnly
import HandS.Words
import HandS.WordsList
import HandS.WordsExc
import HandS.Wide
import HandS.IsInst
import HandS.Conv
import HandS.Flow
import HandS.Style
import HandS.Ends
import HandS.TupAny
import HandS.Small
import HandS.Text
import HandS.ReCheck
import HandS.RaiseMore
import HandS.ExcSuper
import HandS.HeadHook1
import HandS.Defaults
import HandS.EndBits
import HandS.HeadHook4
import HandS.ExcIs
import HandS.TupMul
import HandS.Strs
import HandS.SetFor
import HandS.SortInts
import HandS.More
import HandS.Dict
import HandS.SortOrd
import HandS.NoneIn
import PyProof.Rows.BitMore
import PySem.Challenge.RW_dividedbytimes_k41_main_sums_and_their_s
import KE.KStateDown
import Lean
import HandS.Head0
import HandS.Head1
import HandS.Head2
import HandS.HeadEnd
import HandS.HeadHook2
import HandS.HeadHook3
set_option Elab.async false
set_option linter.all false
set_option maxRecDepth 100000
set_option maxHeartbeats 2000000
namespace DL
open PySem PySem.Spec PyProof.Rows L2
abbrev St := L2.St

/-! ## data -/
/-- what is raised -/
inductive Exc where
  | unfit | cannot | many | nothing
  | bad (line : Int)
/-- what a slot holds: data (never changed), a def, a list or a dict of its own -/
inductive C where
  | d (x : PyData)
  | f (x : Str)
  | l (xs : List PyData)
  | k (kvs : List (Key × PyData))
  | t (kvs : List (List Key × PyData))
def C.own : C → Bool
  | .d _ => false
  | .f _ => false
  | .l _ => true
  | .k _ => true
  | .t _ => true
/-- the slots -/
abbrev Sl := List (Option C)
/-! ## what a piece of the text does to the slots -/
inductive Res (α : Type) where
  | ok (a : α) (ρ : Sl)
  | err (e : Exc) (ρ : Sl)
  | stuck
abbrev M (α : Type) := Sl → Res α
def M.pure {α : Type} (a : α) : M α := fun ρ => .ok a ρ
def M.bind {α β : Type} (m : M α) (f : α → M β) : M β := fun ρ => match m ρ with
  | .ok a ρ' => f a ρ'
  | .err e ρ' => .err e ρ'
  | .stuck => .stuck
instance : Monad M where
  pure := M.pure
  bind := M.bind
def M.stuck {α : Type} : M α := fun _ => .stuck
def M.of {α : Type} (o : Option α) : M α := fun ρ => match o with
  | some a => .ok a ρ
  | none => .stuck

/-! ## values -/
def mulOk (i j : Int) : Bool := decide ((Builtin.Int.intBits i : Int) + (Builtin.Int.intBits j : Int) ≤ 134217728)
def divOk (j : Int) : Bool := decide (0 < j) && decide (j.natAbs.log2 < 9000)
def shlOk (i j : Int) : Bool := decide (0 ≤ j) && decide ((Builtin.Int.intBits i : Int) + j ≤ 134217728)
def powOk (i j : Int) : Bool := decide (0 ≤ j) && decide (j ≤ 1000000) && decide (i.natAbs < 2 ^ 64)
def oAdd : PyData → PyData → Option PyData
  | .int i, .int j => some (.int (i + j))
  | .str x, .str y => if x.length + y.length ≤ sizeLine then some (.str (x ++ y)) else none
  | _, _ => none
def oSub : PyData → PyData → Option PyData
  | .int i, .int j => some (.int (i - j))
  | _, _ => none
def oMul : PyData → PyData → Option PyData
  | .int i, .int j => if mulOk i j then some (.int (i * j)) else none
  | _, _ => none
def oDiv : PyData → PyData → Option PyData
  | .int i, .int j => if divOk j then some (.int (i / j)) else none
  | _, _ => none
def oMod : PyData → PyData → Option PyData
  | .int i, .int j => if 0 < j then some (.int (i % j)) else none
  | _, _ => none
def oShl : PyData → PyData → Option PyData
  | .int i, .int j => if shlOk i j then some (.int (i * 2 ^ j.toNat)) else none
  | _, _ => none
def oShr : PyData → PyData → Option PyData
  | .int i, .int j => if 0 ≤ j then some (.int (i / 2 ^ j.toNat)) else none
  | _, _ => none
def oPow : PyData → PyData → Option PyData
  | .int i, .int j => if powOk i j then some (.int (i ^ j.toNat)) else none
  | _, _ => none
def oAnd : PyData → PyData → Option PyData
  | .int i, .int j => some (.int (Builtin.bitAnd i j))
  | _, _ => none
def oOr : PyData → PyData → Option PyData
  | .int i, .int j => some (.int (Builtin.bitOr i j))
  | _, _ => none
def oNeg : PyData → Option PyData
  | .int i => some (.int (-i))
  | _ => none
def oLt : PyData → PyData → Option Bool
  | .int i, .int j => some (decide (i < j))
  | _, _ => none
def oLe : PyData → PyData → Option Bool
  | .int i, .int j => some (decide (i ≤ j))
  | _, _ => none
def oGt : PyData → PyData → Option Bool
  | .int i, .int j => some (decide (j < i))
  | _, _ => none
def oGe : PyData → PyData → Option Bool
  | .int i, .int j => some (decide (j ≤ i))
  | _, _ => none
/-- two plain values that == tells apart as data does -/
def scalD : PyData → PyData → Bool
  | .none, .none => true | .none, .int _ => true | .int _, .none => true | .none, .bool _ => true | .bool _, .none => true | .none, .str _ => true | .str _, .none => true
  | .int _, .int _ => true | .bool _, .bool _ => true | .str _, .str _ => true
  | .int _, .str _ => true | .str _, .int _ => true | .bool _, .str _ => true | .str _, .bool _ => true
  | _, _ => false
def oEq (x y : PyData) : Option Bool := if scalD x y || (SeqAt.shaped x && SeqAt.shaped y) then some (PyData.eqv x y) else none
def oNe (x y : PyData) : Option Bool := if scalD x y || (SeqAt.shaped x && SeqAt.shaped y) then some (!PyData.eqv x y) else none
def isNone : PyData → Bool
  | .none => true
  | _ => false
def oIsN (x : PyData) : Option Bool := some (isNone x)
def oNotN (x : PyData) : Option Bool := some (!isNone x)
def oIsX (x y : PyData) : Option Bool := match y with
  | .none => some (isNone x)
  | _ => none
def oNotX (x y : PyData) : Option Bool := match y with
  | .none => some (!isNone x)
  | _ => none
def oIsB : PyData → PyData → Option Bool
  | .bool a, .bool b => some (decide (a = b))
  | _, _ => none
def oNotB : PyData → PyData → Option Bool
  | .bool a, .bool b => some (!decide (a = b))
  | _, _ => none
def flatD : PyData → Bool
  | .none => true
  | .bool _ => true
  | .int _ => true
  | .str _ => true
  | _ => false
def inD (x : PyData) (ys : List PyData) : Bool := ys.any fun y => PyData.eqv y x
def items : PyData → Option (List PyData)
  | .list xs => some xs
  | .tuple xs => some xs
  | _ => none
def oIn (x y : PyData) : Option Bool := match items y with
  | some ys => if flatD x && ys.all flatD then some (inD x ys) else none
  | none => none
def oNotIn (x y : PyData) : Option Bool := match items y with
  | some ys => if flatD x && ys.all flatD then some (!inD x ys) else none
  | none => none
def oIx : PyData → PyData → Option PyData
  | .list xs, .int i => atI xs i
  | .tuple xs, .int i => atI xs i
  | .str z, .int i => if z.length ≤ sizeLine then (atI z.cps.toList i).map fun c => .str ⟨#[c]⟩ else none
  | _, _ => none
def oLen : PyData → Option PyData
  | .list xs => some (.int xs.length)
  | .tuple xs => some (.int xs.length)
  | .str z => if z.length ≤ sizeLine then some (.int z.length) else none
  | _ => none
def oAbs : PyData → Option PyData
  | .int i => some (.int (if i < 0 then -i else i))
  | _ => none
def oInt : PyData → Option PyData
  | .int i => some (.int i)
  | .bool k => some (.int (if k then 1 else 0))
  | _ => none
def oMax : PyData → PyData → Option PyData
  | .int i, .int j => some (.int (if j > i then j else i))
  | _, _ => none
def oMin : PyData → PyData → Option PyData
  | .int i, .int j => some (.int (if j < i then j else i))
  | _, _ => none
/-- built-in classes -/
inductive Ty where
  | int | bool | str | list | tuple
def isTy : Ty → PyData → Bool
  | .int, .int _ => true
  | .int, .bool _ => true
  | .bool, .bool _ => true
  | .str, .str _ => true
  | .list, .list _ => true
  | .tuple, .tuple _ => true
  | _, _ => false
def truD : PyData → Option Bool
  | .none => some false
  | .bool b => some b
  | .int i => some (i != 0)
  | .str z => if z.length ≤ sizeLine then some ((z.length : Int) != 0) else none
  | .list xs => some (!xs.isEmpty)
  | .tuple xs => some (!xs.isEmpty)
  | _ => none
def boolsD : List PyData → Option (List Bool)
  | [] => some []
  | .bool b :: r => (boolsD r).map fun t => b :: t
  | _ :: _ => none
def intsD : List PyData → Option (List Int)
  | [] => some []
  | .int b :: r => (intsD r).map fun t => b :: t
  | _ :: _ => none
def oAll : PyData → Option PyData
  | .list xs => (boolsD xs).map fun bs => .bool (bs.all id)
  | _ => none
def oAny : PyData → Option PyData
  | .list xs => (boolsD xs).map fun bs => .bool (bs.any id)
  | _ => none
def oTuple : PyData → Option PyData
  | .list xs => some (.tuple xs)
  | .tuple xs => some (.tuple xs)
  | _ => none

/-! ## expressions -/
def mVar (i : Nat) : M PyData := fun ρ => match ρ[i]? with
  | some (some (.d x)) => .ok x ρ
  | _ => .stuck
/-- a list of the slot's own is read for the last time as its own -/
def mVarF (i : Nat) : M PyData := fun ρ => match ρ[i]? with
  | some (some (.d x)) => .ok x ρ
  | some (some (.l xs)) => .ok (.list xs) (ρ.set i (some (.d (.list xs))))
  | _ => .stuck
/-- what a slot holds goes out of it -/
def mVarM (i : Nat) : M C := fun ρ => match ρ[i]? with
  | some (some (.d x)) => .ok (.d x) ρ
  | some (some (.f x)) => .ok (.f x) ρ
  | some (some c) => .ok c (ρ.set i none)
  | _ => .stuck
def mVarC (i : Nat) : M C := fun ρ => match ρ[i]? with
  | some (some (.d x)) => .ok (.d x) ρ
  | some (some (.f a)) => .ok (.f a) ρ
  | _ => .stuck
/-- what a slot shows, whether its own or not -/
def view : C → Option PyData
  | .d x => some x
  | .l xs => some (.list xs)
  | _ => none
def mView (i : Nat) : M PyData := fun ρ => match ρ[i]? with
  | some (some c) => (match view c with
    | some x => .ok x ρ
    | none => .stuck)
  | _ => .stuck
def lift1 {α : Type} (f : PyData → Option α) (a : M PyData) : M α := M.bind a fun x => M.of (f x)
def lift2 {α : Type} (f : PyData → PyData → Option α) (a b : M PyData) : M α := M.bind a fun x => M.bind b fun y => M.of (f x y)
def bD (m : M Bool) : M PyData := M.bind m fun b => M.pure (.bool b)
def tD (m : M PyData) : M Bool := M.bind m fun d => match d with
  | .bool b => M.pure b
  | _ => M.stuck
def tTru (m : M PyData) : M Bool := lift1 truD m
def tNot (t : M Bool) : M Bool := M.bind t fun b => M.pure (!b)
def tAnd (t u : M Bool) : M Bool := M.bind t fun b => if b = true then u else M.pure false
def tOr (t u : M Bool) : M Bool := M.bind t fun b => if b = true then M.pure true else u
def mAnd (a b : M PyData) : M PyData := M.bind a fun d => match d with
  | .bool k => if k = true then b else M.pure (.bool false)
  | _ => M.stuck
def mOr (a b : M PyData) : M PyData := M.bind a fun d => match d with
  | .bool k => if k = true then M.pure (.bool true) else b
  | _ => M.stuck
def mNot (a : M PyData) : M PyData := M.bind a fun d => match d with
  | .bool k => M.pure (.bool (!k))
  | _ => M.stuck
def mIf {α : Type} (t : M Bool) (a b : M α) : M α := M.bind t fun k => if k = true then a else b
/-- a op b op c -/
def tChain (f g : PyData → PyData → Option Bool) (a b c : M PyData) : M Bool := M.bind a fun x => M.bind b fun y => M.bind (M.of (f x y)) fun k => if k = true then M.bind c fun z => M.of (g y z) else M.pure false
def mSeq : List (M PyData) → M (List PyData)
  | [] => M.pure []
  | m :: r => M.bind m fun x => M.bind (mSeq r) fun xs => M.pure (x :: xs)
def mTup (ms : List (M PyData)) : M PyData := M.bind (mSeq ms) fun xs => M.pure (.tuple xs)
def mLst (ms : List (M PyData)) : M C := M.bind (mSeq ms) fun xs => M.pure (.l xs)
def mDat (m : M PyData) : M C := M.bind m fun x => M.pure (.d x)
def mFrz (m : M C) : M PyData := M.bind m fun c => match c with
  | .d x => M.pure x
  | .l xs => M.pure (.list xs)
  | _ => M.stuck
end DL
namespace DL
open PySem PySem.Spec PyProof.Rows L2
/-! ## calls -/
/-- an argument: data, a def, the slot of an own thing -/
inductive Av where
  | d (x : PyData)
  | f (x : Str)
  | v (i : Nat)
def agD (m : M PyData) : M Av := M.bind m fun x => M.pure (.d x)
def agF (m : M C) : M Av := M.bind m fun c => match c with
  | .d x => M.pure (.d x)
  | .f a => M.pure (.f a)
  | _ => M.stuck
def agV (i : Nat) : M Av := fun ρ => match ρ[i]? with
  | some (some (.d x)) => .ok (.d x) ρ
  | some (some (.f a)) => .ok (.f a) ρ
  | some (some _) => .ok (.v i) ρ
  | _ => .stuck
def mSeqA : List (M Av) → M (List Av)
  | [] => M.pure []
  | m :: r => M.bind m fun x => M.bind (mSeqA r) fun xs => M.pure (x :: xs)
/-- the argument's contents -/
def rdA (ρ : Sl) : Av → Option C
  | .d x => some (.d x)
  | .f a => some (.f a)
  | .v i => (ρ[i]?).join
def wrA : List Av → Sl → Sl → Sl
  | .v i :: as, c :: cs, ρ => wrA as cs (ρ.set i c)
  | .d _ :: as, _ :: cs, ρ => wrA as cs ρ
  | .f _ :: as, _ :: cs, ρ => wrA as cs ρ
  | _, _, ρ => ρ
def slA : List Av → List Nat
  | [] => []
  | .v i :: r => i :: slA r
  | .d _ :: r => slA r
  | .f _ :: r => slA r
/-- the call of a def whose doing is φ -/
def mCall (φ : Sl → Res C) (m : M (List Av)) : M C := M.bind m fun as => fun ρ => if (slA as).Nodup then (match φ (as.map (rdA ρ)) with
    | .ok r cs => .ok r (wrA as cs ρ)
    | .err e cs => .err e (wrA as cs ρ)
    | .stuck => .stuck) else .stuck
end DL

namespace DL
open PySem PySem.Spec PyProof.Rows L2
/-! ## statements -/
inductive Fl where
  | nx
  | rt (c : C)
  | bk
  | ct
def sSkip : M Fl := M.pure .nx
def sBk : M Fl := M.pure .bk
def sCt : M Fl := M.pure .ct
def sSeq (a b : M Fl) : M Fl := M.bind a fun fl => match fl with
  | .nx => b
  | fl => M.pure fl
def sRet (m : M C) : M Fl := M.bind m fun c => M.pure (.rt c)
def sDo {α : Type} (m : M α) : M Fl := M.bind m fun _ => M.pure .nx
def sPut (i : Nat) (c : C) : M Fl := fun ρ => .ok .nx (ρ.set i (some c))
def sSet (i : Nat) (m : M C) : M Fl := M.bind m fun c => sPut i c
def sSet2 (i j : Nat) (a b : M C) : M Fl := M.bind a fun x => M.bind b fun y => fun ρ => .ok .nx ((ρ.set i (some x)).set j (some y))
def sSet3 (i j l : Nat) (a b c : M C) : M Fl := M.bind a fun x => M.bind b fun y => M.bind c fun z => fun ρ => .ok .nx (((ρ.set i (some x)).set j (some y)).set l (some z))
/-- targets -/
def gN (i : Nat) (x : PyData) : M Unit := fun ρ => .ok () (ρ.set i (some (.d x)))
def gsL : List (PyData → M Unit) → List PyData → M Unit
  | [], [] => M.pure ()
  | g :: gs, x :: xs => M.bind (g x) fun _ => gsL gs xs
  | _, _ => M.stuck
def gT (gs : List (PyData → M Unit)) (x : PyData) : M Unit := match x with
  | .tuple xs => if xs.length = gs.length then gsL gs xs else M.stuck
  | _ => M.stuck
def sAsg (m : M PyData) (g : PyData → M Unit) : M Fl := M.bind m fun x => sDo (g x)
def sAsg2 (m : M PyData) (g g' : PyData → M Unit) : M Fl := M.bind m fun x => M.bind (g x) fun _ => sDo (g' x)
def sErr (e : Exc) : M Fl := fun ρ => .err e ρ
def sIf (t : M Bool) (a b : M Fl) : M Fl := mIf t a b
def sWhileN (t : M Bool) (b : M Fl) : Nat → M Fl
  | 0 => M.stuck
  | n + 1 => M.bind t fun k => if k = true then M.bind b fun fl => match fl with
      | .nx => sWhileN t b n
      | .ct => sWhileN t b n
      | .bk => M.pure .nx
      | .rt c => M.pure (.rt c)
    else M.pure .nx
def Res.bad {α : Type} : Res α → Prop
  | .stuck => True
  | _ => False
open Classical in
noncomputable def sWhile (t : M Bool) (b : M Fl) : M Fl := fun ρ => if h : ∃ n, ¬ (sWhileN t b n ρ).bad then sWhileN t b h.choose ρ else .stuck
def sForL (g : PyData → M Unit) (b : M Fl) : List PyData → M Fl
  | [] => M.pure .nx
  | x :: r => M.bind (g x) fun _ => M.bind b fun fl => match fl with
      | .nx => sForL g b r
      | .ct => sForL g b r
      | .bk => M.pure .nx
      | .rt c => M.pure (.rt c)
def sFor (mi : M (List PyData)) (g : PyData → M Unit) (b : M Fl) : M Fl := M.bind mi fun xs => sForL g b xs
/-- lists of a slot's own -/
def lsAt (i : Nat) (ρ : Sl) : Option (List PyData) := match ρ[i]? with
  | some (some (.l xs)) => some xs
  | _ => none
def sOn (i : Nat) (m : M Fl) : M Fl := fun ρ => if (lsAt i ρ).isSome then m ρ else .stuck
def sApp (i : Nat) (m : M PyData) : M Fl := sOn i (M.bind m fun x => fun ρ => match lsAt i ρ with
  | some xs => if xs.length < sizeLine then .ok .nx (ρ.set i (some (.l (xs ++ [x])))) else .stuck
  | none => .stuck)
def sExt (i : Nat) (m : M C) : M Fl := sOn i (M.bind m fun x => fun ρ => match lsAt i ρ, x with
  | some xs, .l ys => if xs.length + ys.length ≤ sizeLine then .ok .nx (ρ.set i (some (.l (xs ++ ys)))) else .stuck
  | _, _ => .stuck)
def ixOf (n : Nat) : PyData → Option Nat
  | .int j => ixN n j
  | _ => none
def sSetIx (i : Nat) (mi mv : M PyData) : M Fl := M.bind mv fun v => sOn i (M.bind mi fun j => fun ρ => match lsAt i ρ with
  | some xs => (match ixOf xs.length j with
    | some k => .ok .nx (ρ.set i (some (.l (xs.set k v))))
    | none => .stuck)
  | none => .stuck)
/-! ## defs -/
/-- n parameters, N names, pm: the parameters that stay, b the body -/
def finSl (n : Nat) (pm : List Nat) (cs ρ : Sl) : Sl := (List.range n).map fun i => if i ∈ pm then (ρ[i]?).join else (cs[i]?).join
def okSl (n : Nat) (pm : List Nat) (cs : Sl) : Bool := decide (cs.length = n) && (List.range n).all fun i => pm.contains i || match cs[i]? with
  | some (some c) => !c.own
  | _ => true
def run (n N : Nat) (pm : List Nat) (b : M Fl) (cs : Sl) : Res C := if okSl n pm cs then (match b (cs ++ List.replicate (N - n) none) with
    | .ok .nx ρ => .ok (.d .none) (finSl n pm cs ρ)
    | .ok (.rt c) ρ => .ok c (finSl n pm cs ρ)
    | .ok _ _ => .stuck
    | .err e ρ => .err e (finSl n pm cs ρ)
    | .stuck => .stuck) else .stuck
end DL

namespace DL
open PySem PySem.Spec PyProof.Rows L2
/-! ## comprehensions -/
def wipeS (ρ : Sl) : List Nat → Sl
  | [] => ρ
  | v :: vs => (wipeS ρ vs).set v none
def restS (vs : List Nat) (ρ ρ' : Sl) : Sl := (List.range ρ.length).map fun i => if i ∈ vs then (ρ[i]?).join else (ρ'[i]?).join
def noOwn (vs : List Nat) (ρ : Sl) : Bool := vs.all fun i => match ρ[i]? with
  | some (some c) => !c.own
  | _ => true
def mYes : M Bool := M.pure true
def mLcL (vs : List Nat) (g : PyData → M Unit) (t : M Bool) (e : M PyData) : List PyData → List PyData → M (List PyData)
  | [], acc => M.pure acc
  | x :: r, acc => M.bind (g x) fun _ => M.bind t fun k => if k = true then M.bind e fun y => fun ρ => if acc.length < sizeLine then mLcL vs g t e r (acc ++ [y]) (wipeS ρ vs) else .stuck
      else fun ρ => mLcL vs g t e r acc (wipeS ρ vs)
def mLc (vs : List Nat) (mi : M (List PyData)) (g : PyData → M Unit) (t : M Bool) (e : M PyData) : M C := M.bind mi fun xs => fun ρ => if noOwn vs ρ then (match mLcL vs g t e xs [] (wipeS ρ vs) with
    | .ok acc ρ' => .ok (.l acc) (restS vs ρ ρ')
    | .err _ _ => .stuck
    | .stuck => .stuck) else .stuck
end DL

namespace DL
open PySem PySem.Spec PyProof.Rows L2
/-! ## more expressions -/
/-- a subscript, the length of a slot's own list -/
def mIxV (i : Nat) (m : M PyData) : M PyData := fun ρ => if (lsAt i ρ).isSome then (M.bind m fun j => fun ρ' => match lsAt i ρ' with
    | some xs => M.of (oIx (.list xs) j) ρ'
    | none => .stuck) ρ else .stuck
def mLenV (i : Nat) : M PyData := fun ρ => match lsAt i ρ with
  | some xs => .ok (.int xs.length) ρ
  | none => .stuck
def truC : C → Option Bool
  | .d x => truD x
  | .l xs => some (!xs.isEmpty)
  | _ => none
def mOrC (a b : M C) : M C := M.bind a fun c => match truC c with
  | some true => M.pure c
  | some false => b
  | none => M.stuck
/-- a list, new or shared -/
def toL : C → Option (List PyData)
  | .l xs => some xs
  | .d (.list xs) => some xs
  | _ => none
def oCat (a b : C) : Option C := match toL a, toL b with
  | some xs, some ys => if xs.length + ys.length ≤ sizeLine then some (.l (xs ++ ys)) else none
  | _, _ => (match a, b with
    | .d (.tuple xs), .d (.tuple ys) => if xs.length + ys.length ≤ sizeLine then some (.d (.tuple (xs ++ ys))) else none
    | _, _ => none)
def mCat (a b : M C) : M C := M.bind a fun x => M.bind b fun y => M.of (oCat x y)
def cutL {α : Type} (xs : List α) (lo hi : Option Int) : List α := (xs.drop (HT.sIx xs.length 0 lo)).take (HT.sIx xs.length xs.length hi - HT.sIx xs.length 0 lo)
def oSl (x : PyData) (lo hi : Option Int) : Option C := match x with
  | .list xs => some (.l (cutL xs lo hi))
  | .tuple xs => some (.d (.tuple (cutL xs lo hi)))
  | _ => none
def pNo : M (Option Int) := M.pure none
def pInt (m : M PyData) : M (Option Int) := M.bind m fun d => match d with
  | .int i => M.pure (some i)
  | _ => M.stuck
def mSl (m : M PyData) (lo hi : M (Option Int)) : M C := M.bind m fun x => M.bind lo fun l => M.bind hi fun u => M.of (oSl x l u)
def rgOk (a b : Int) : Bool := decide (-(2 ^ 62) ≤ a) && decide (a < 2 ^ 62) && decide (-(2 ^ 62) ≤ b) && decide (b < 2 ^ 62) && decide ((b - a).toNat ≤ 2 ^ 24)
def rgL (a b : Int) : List PyData := (List.range (b - a).toNat).map fun (i : Nat) => .int (a + (i : Int))
def mLstRg1 (m : M PyData) : M C := M.bind m fun x => M.of (match x with
  | .int j => if rgOk 0 j then some (.l (rgL 0 j)) else none
  | _ => none)
def sExtC (i : Nat) (m : M C) : M Fl := sOn i (M.bind m fun x => fun ρ => match lsAt i ρ, toL x with
  | some xs, some ys => if xs.length + ys.length ≤ sizeLine then .ok .nx (ρ.set i (some (.l (xs ++ ys)))) else .stuck
  | _, _ => .stuck)
/-- a slot that holds a def, called: T the defs by their names -/
def mDoor (T : Str → Option (Nat × (Sl → Res C))) (i : Nat) (n : Nat) (m : M (List Av)) : M C := fun ρ => match ρ[i]? with
  | some (some (.f x)) => (match T x with
    | some (k, φ) => if k = n then mCall φ m ρ else .stuck
    | none => .stuck)
  | _ => .stuck
end DL

namespace DL
open PySem PySem.Spec PyProof.Rows L2
/-! ## calls of what is built in, what is walked -/
def liftL {α : Type} (f : List PyData → Option α) (m : M (List PyData)) : M α := M.bind m fun xs => M.of (f xs)
def on1 {α : Type} (f : PyData → Option α) : List PyData → Option α
  | [x] => f x
  | _ => none
def on2 {α : Type} (f : PyData → PyData → Option α) : List PyData → Option α
  | [x, y] => f x y
  | _ => none
def oListC : PyData → Option C
  | .list xs => some (.l xs)
  | .tuple xs => some (.l xs)
  | _ => none
def oIsi (t : Ty) (x : PyData) : Option PyData := match x with
  | .dict _ => none
  | x => some (.bool (isTy t x))
def oIsi2 (t u : Ty) (x : PyData) : Option PyData := match x with
  | .dict _ => none
  | x => some (.bool (isTy t x || isTy u x))
def mItems (m : M PyData) : M (List PyData) := M.bind m fun d => M.of (items d)
def intsL (lo : Int) (n : Nat) : List PyData := (List.range n).map fun (i : Nat) => .int (lo + (i : Int))
def oRng1 : PyData → Option (List PyData)
  | .int j => if -(2 ^ 62) ≤ j ∧ j < 2 ^ 62 then some (intsL 0 j.toNat) else none
  | _ => none
def oRng2 : PyData → PyData → Option (List PyData)
  | .int i, .int j => if -(2 ^ 62) ≤ i ∧ i < 2 ^ 62 ∧ -(2 ^ 62) ≤ j ∧ j < 2 ^ 62 then some (intsL i (j - i).toNat) else none
  | _, _ => none
def mRng1 (m : M PyData) : M (List PyData) := lift1 oRng1 m
def mRng2 (m m' : M PyData) : M (List PyData) := lift2 oRng2 m m'
def enumL (xs : List PyData) : List PyData := (List.range xs.length).zipWith (fun (i : Nat) x => .tuple [.int (i : Int), x]) xs
def oEnum : PyData → Option (List PyData)
  | .list xs => some (enumL xs)
  | _ => none
def mEnum (m : M PyData) : M (List PyData) := lift1 oEnum m
def zipL (xs ys : List PyData) : List PyData := xs.zipWith (fun x y => .tuple [x, y]) ys
def oZip : PyData → PyData → Option (List PyData)
  | .list xs, .list ys => some (zipL xs ys)
  | .tuple xs, .tuple ys => some (zipL xs ys)
  | _, _ => none
def mZip (m m' : M PyData) : M (List PyData) := lift2 oZip m m'
end DL

namespace DL
open PySem PySem.Spec PyProof.Rows L2
def Out {α : Type} (r : Res α) (P : α → Sl → Prop) (E : Exc → Sl → Prop) : Prop := match r with
  | .ok a ρ => P a ρ
  | .err e ρ => E e ρ
  | .stuck => False
/-- the plain law: what the law's def does tells True -/
def Good (φ : Sl → Res C) (ns : List Int) : Prop := Out (φ [some (.d (.list (ns.map .int)))]) (fun c _ => c = .d (.bool true)) fun _ _ => False
end DL

namespace DL
open PySem PySem.Spec PyProof.Rows L2
/-! ## try -/
def Exc.same : Exc → Exc → Bool
  | .unfit, .unfit => true
  | .cannot, .cannot => true
  | .many, .many => true
  | .nothing, .nothing => true
  | .bad _, .bad _ => true
  | _, _ => false
/-- try: b, except ex as the i-th slot: return a list of the items xs -/
def sTryRet (b : M Fl) (ex : Exc) (i : Nat) (xs : List PyData) : M Fl := fun ρ => match b ρ with
  | .ok fl ρ' => .ok fl ρ'
  | .err e ρ' => if e.same ex = true then (if i < ρ'.length then .ok (.rt (.l xs)) (ρ'.set i none) else .stuck) else .err e ρ'
  | .stuck => .stuck
end DL

set_option Elab.async false
set_option linter.all false
set_option maxRecDepth 100000
namespace DL
open PySem PySem.Spec L2
/-! ## more of the text: turned about, repeated, try with a store -/
def oRev : PyData → Option C
  | .list xs => some (.l xs.reverse)
  | .tuple xs => some (.d (.tuple xs.reverse))
  | _ => none
def mRev (m : M PyData) : M C := M.bind m fun x => M.of (oRev x)
def repOk (n : Nat) (k : Int) : Bool := decide (-9223372036854775808 ≤ k) && decide (k < 9223372036854775808) && decide (n * k.toNat ≤ sizeLine)
def repOkT (n : Nat) (k : Int) : Bool := decide (0 < n) && decide (n ≤ 1000) && decide (2 ≤ k) && decide (k ≤ 1000)
def oRep (c : C) (y : PyData) : Option C := match c, y with
  | .l xs, .int k => if repOk xs.length k then some (.l (List.replicate k.toNat xs).flatten) else none
  | .d (.tuple xs), .int k => if repOkT xs.length k then some (.d (.tuple (List.replicate k.toNat xs).flatten)) else none
  | _, _ => none
def mRep (a : M C) (b : M PyData) : M C := M.bind a fun x => M.bind b fun y => M.of (oRep x y)
/-- try: b, except ex as the i-th slot: the j-th slot holds bb -/
def sTrySet (b : M Fl) (ex : Exc) (i j : Nat) (bb : Bool) : M Fl := fun ρ => match b ρ with
  | .ok fl ρ' => .ok fl ρ'
  | .err e ρ' => if e.same ex = true then (if i < ρ'.length ∧ j < ρ'.length then .ok .nx (((ρ'.set i none).set j (some (.d (.bool bb)))).set i none) else .stuck) else .err e ρ'
  | .stuck => .stuck
end DL
namespace DL
open PySem PySem.Spec L2
/-! ## a slot's list, its own or shared, compared where it stands -/
def vlAt (i : Nat) (ρ : Sl) : Option (List PyData) := match ρ[i]? with
  | some (some (.l xs)) => some xs
  | some (some (.d (.list xs))) => some xs
  | _ => none
def eqS (x y : PyData) : Option Bool := if SeqAt.shaped x && SeqAt.shaped y then some (PyData.eqv x y) else none
def neS (x y : PyData) : Option Bool := if SeqAt.shaped x && SeqAt.shaped y then some (!PyData.eqv x y) else none
def tCmpV (f : PyData → PyData → Option Bool) (i : Nat) (m : M PyData) : M Bool := fun ρ => if (vlAt i ρ).isSome = true then (M.bind m fun y => fun ρ' => match vlAt i ρ' with
  | some xs => M.of (f (.list xs) y) ρ'
  | none => .stuck) ρ else .stuck
end DL
namespace DL
open PySem PySem.Spec L2
/-! ## sorted -/
def insU (x : Int) : List Int → List Int
  | [] => [x]
  | y :: r => if x < y then x :: y :: r else if x = y then y :: r else y :: insU x r
/-- ascending, none twice -/
def sortU : List Int → List Int
  | [] => []
  | x :: r => insU x (sortU r)
def insS (x : Int) : List Int → List Int
  | [] => [x]
  | y :: r => if x ≤ y then x :: y :: r else y :: insS x r
def sortS : List Int → List Int
  | [] => []
  | x :: r => insS x (sortS r)
def oSortSet : PyData → Option C
  | .list xs => (match intsD xs with
    | some ns => if ns.length < 64 then some (.l ((sortU ns).map .int)) else none
    | none => none)
  | _ => none
def keysD : List PyData → Option (List Int)
  | [] => some []
  | .tuple [.int k, _] :: r => (keysD r).map fun t => k :: t
  | _ => none
/-- sorted(dict(pairs)) -/
def oSortDict : PyData → Option C
  | .list xs => (match keysD xs with
    | some ns => if ns.length < 64 then some (.l ((sortU ns).map .int)) else none
    | none => none)
  | _ => none
def oSortI : PyData → Option C
  | .list xs => (match intsD xs with
    | some ns => some (.l ((sortS ns).map .int))
    | none => none)
  | _ => none
end DL

set_option Elab.async false
set_option linter.all false
set_option maxRecDepth 100000
set_option maxHeartbeats 2000000
namespace DL
open PySem PySem.Spec PyProof.Rows L2

/-- the fragment, and what the module's names hold -/
structure Kx where
  fr : PySem.W.Frag
  mg : Str → Option Value
instance : Coe Kx PySem.W.Frag := ⟨Kx.fr⟩
abbrev _root_.L2.Cx.kx (X : Cx) : Kx := ⟨X.K, X.mg⟩
mutual
/-- a value stands for data; its lists are tracked -/
inductive Dp (K : PySem.W.Frag) (H : Hp) : V → PyData → Prop
  | non : Dp K H .non .none
  | bl (b : Bool) : Dp K H (.bl b) (.bool b)
  | int (i : Int) : Dp K H (.int i) (.int i)
  | str (x : Str) : Dp K H (.str x) (.str x)
  | lst {a : Addr} {xs : List V} {ds : List PyData} : Rd H a (.lst xs) → DpAll K H xs ds → Dp K H (.ref a) (.list ds)
  | tup {a : Addr} {xs : List V} {ds : List PyData} : SqT K H a xs → DpAll K H xs ds → Dp K H (.ref a) (.tuple ds)
inductive DpAll (K : PySem.W.Frag) (H : Hp) : List V → List PyData → Prop
  | nil : DpAll K H [] []
  | cons {v : V} {vs : List V} {d : PyData} {ds : List PyData} : Dp K H v d → DpAll K H vs ds → DpAll K H (v :: vs) (d :: ds)
end
theorem rd_mono {H H' : Hp} {a : Addr} {u : HO} (e : Same H H') (h : Rd H a u) : Rd H' a u := by
  rcases h with h | ⟨o, h⟩
  · exact .inl (e _ _ h)
  · exact .inr ⟨o, e _ _ h⟩
theorem rd_seq {K : PySem.W.Frag} {H H' : Hp} {a : Addr} {xs : List V} (e : Same H H') (h : Rd H a (.lst xs)) : SqL K H' a xs := .inl (rd_mono e h)
mutual
theorem dp_to {K : PySem.W.Frag} {F : Hp} : ∀ {v : V} {d : PyData}, Dp K F v d → L2.Dp K F v d
  | _, _, .non => .non
  | _, _, .bl b => .bl b
  | _, _, .int i => .int i
  | _, _, .str x => .str x
  | _, _, .lst h a => .lst (.inl h) (dpAll_to a)
  | _, _, .tup h a => .tup h (dpAll_to a)
theorem dpAll_to {K : PySem.W.Frag} {F : Hp} : ∀ {vs : List V} {ds : List PyData}, DpAll K F vs ds → L2.DpAll K F vs ds
  | _, _, .nil => .nil
  | _, _, .cons h t => .cons (dp_to h) (dpAll_to t)
end
theorem sqT_mono {K : Kx} {H H' : Hp} {a : Addr} {xs : List V} (e : Same H H') (h : SqT K H a xs) : SqT K H' a xs := by
  rcases h with (h | ⟨o, h⟩) | h
  · exact .inl (.inl (e _ _ h))
  · exact .inl (.inr ⟨o, e _ _ h⟩)
  · exact .inr h
mutual
theorem dp_mono {K : Kx} {F F' : Hp} (e : Same F F') : ∀ {v : V} {d : PyData}, Dp K F v d → Dp K F' v d
  | _, _, .non => .non
  | _, _, .bl b => .bl b
  | _, _, .int i => .int i
  | _, _, .str x => .str x
  | _, _, .lst h a => .lst (rd_mono e h) (dpAll_mono e a)
  | _, _, .tup h a => .tup (sqT_mono e h) (dpAll_mono e a)
theorem dpAll_mono {K : Kx} {F F' : Hp} (e : Same F F') : ∀ {vs : List V} {ds : List PyData}, DpAll K F vs ds → DpAll K F' vs ds
  | _, _, .nil => .nil
  | _, _, .cons h t => .cons (dp_mono e h) (dpAll_mono e t)
end
/-- values of a dict -/
abbrev KVD {κ : Type} (K : Kx) (F : Hp) : List (κ × PyData) → List (κ × V) → Prop := Paired fun p q => p.1 = q.1 ∧ Dp K F q.2 p.2
theorem kvd_mono {κ : Type} {K : Kx} {F F' : Hp} (e : Same F F') {a : List (κ × PyData)} {b : List (κ × V)} (h : KVD K F a b) : KVD K F' a b := Paired.mapP h fun _ _ z => ⟨z.1, dp_mono e z.2⟩
/-- an object with such contents -/
def IsO (K : Kx) (F : Hp) : C → HO → Prop
  | .l xs, .lst vs => DpAll K F vs xs
  | .k kvs, .dK ws => KVD K F kvs ws
  | .t kvs, .dT ws => KVD K F kvs ws
  | _, _ => False
theorem isO_mono {K : Kx} {F F' : Hp} (e : Same F F') {c : C} {o : HO} (h : IsO K F c o) : IsO K F' c o := by
  cases c <;> cases o <;> first
    | exact dpAll_mono e h
    | exact kvd_mono e h
    | exact h
theorem isO_l {K : Kx} {F : Hp} {xs : List PyData} {o : HO} (h : IsO K F (.l xs) o) : ∃ vs, o = .lst vs ∧ DpAll K F vs xs := by
  cases o with
  | lst vs => exact ⟨vs, rfl, h⟩
  | _ => exact (show False from h).elim
theorem isO_k {K : Kx} {F : Hp} {xs : List (Key × PyData)} {o : HO} (h : IsO K F (.k xs) o) : ∃ vs, o = .dK vs ∧ KVD K F xs vs := by
  cases o with
  | dK vs => exact ⟨vs, rfl, h⟩
  | _ => exact (show False from h).elim
theorem isO_t {K : Kx} {F : Hp} {xs : List (List Key × PyData)} {o : HO} (h : IsO K F (.t xs) o) : ∃ vs, o = .dT vs ∧ KVD K F xs vs := by
  cases o with
  | dT vs => exact ⟨vs, rfl, h⟩
  | _ => exact (show False from h).elim
theorem dpa_len {K : Kx} {F : Hp} : ∀ {vs : List V} {ds : List PyData}, DpAll K F vs ds → vs.length = ds.length
  | _, _, .nil => rfl
  | _, _, .cons _ t => by rw [List.length_cons, List.length_cons, dpa_len t]
theorem dpa_at {K : Kx} {F : Hp} : ∀ {vs : List V} {ds : List PyData} {i : Nat} {d : PyData}, DpAll K F vs ds → ds[i]? = some d → ∃ v, vs[i]? = some v ∧ Dp K F v d
  | _, _, _, _, .nil, e => by simp at e
  | _, _, 0, _, .cons h _, e => by simp at e; subst e; exact ⟨_, rfl, h⟩
  | _, _, i + 1, d, .cons _ t, e => by
    obtain ⟨v, h1, h2⟩ := dpa_at (i := i) (d := d) t (by simpa using e)
    exact ⟨v, by simpa using h1, h2⟩
theorem dpa_at' {K : Kx} {F : Hp} {vs : List V} {ds : List PyData} {i : Nat} {v : V} (h : DpAll K F vs ds) (e : vs[i]? = some v) : ∃ d, ds[i]? = some d ∧ Dp K F v d := by
  have hi : i < vs.length := (List.getElem?_eq_some_iff.mp e).1
  have hj : i < ds.length := by rw [← dpa_len h]; exact hi
  obtain ⟨w, h1, h2⟩ := dpa_at h (List.getElem?_eq_getElem hj)
  rw [e] at h1
  cases h1
  exact ⟨_, List.getElem?_eq_getElem hj, h2⟩
theorem dpa_app {K : Kx} {F : Hp} : ∀ {vs ws : List V} {ds es : List PyData}, DpAll K F vs ds → DpAll K F ws es → DpAll K F (vs ++ ws) (ds ++ es)
  | _, _, _, _, .nil, h => h
  | _, _, _, _, .cons h t, h2 => .cons h (dpa_app t h2)
theorem dpa_one {K : Kx} {F : Hp} {v : V} {d : PyData} (h : Dp K F v d) : DpAll K F [v] [d] := .cons h .nil
theorem dpa_take {K : Kx} {F : Hp} : ∀ {vs : List V} {ds : List PyData} (n : Nat), DpAll K F vs ds → DpAll K F (vs.take n) (ds.take n)
  | _, _, 0, _ => by rw [List.take_zero, List.take_zero]; exact .nil
  | _, _, _ + 1, .nil => .nil
  | _, _, n + 1, .cons h t => .cons h (dpa_take n t)
theorem dpa_drop {K : Kx} {F : Hp} : ∀ {vs : List V} {ds : List PyData} (n : Nat), DpAll K F vs ds → DpAll K F (vs.drop n) (ds.drop n)
  | _, _, 0, h => h
  | _, _, _ + 1, .nil => .nil
  | _, _, n + 1, .cons _ t => dpa_drop n t
theorem dpa_rev {K : Kx} {F : Hp} : ∀ {vs : List V} {ds : List PyData}, DpAll K F vs ds → DpAll K F vs.reverse ds.reverse
  | _, _, .nil => .nil
  | _, _, .cons h t => by
    rw [List.reverse_cons, List.reverse_cons]
    exact dpa_app (dpa_rev t) (dpa_one h)
theorem dpa_dropLast {K : Kx} {F : Hp} {vs : List V} {ds : List PyData} (h : DpAll K F vs ds) : DpAll K F vs.dropLast ds.dropLast := by
  rw [List.dropLast_eq_take, List.dropLast_eq_take, dpa_len h]
  exact dpa_take _ h
theorem dpa_set {K : Kx} {F : Hp} {v : V} {d : PyData} (q : Dp K F v d) : ∀ {vs : List V} {ds : List PyData} (i : Nat), DpAll K F vs ds → DpAll K F (vs.set i v) (ds.set i d)
  | _, _, _, .nil => .nil
  | _, _, 0, .cons _ t => .cons q t
  | _, _, i + 1, .cons h t => .cons h (dpa_set q i t)
theorem dpa_ints {K : Kx} {F : Hp} : ∀ (ns : List Int), DpAll K F (ns.map V.int) (ns.map PyData.int)
  | [] => .nil
  | n :: r => .cons (.int n) (dpa_ints r)

/-! ## slots against the frame's slots and the heap -/
def ownAt (ρ : Sl) (i : Nat) : Prop := ∃ c, ρ[i]? = some (some c) ∧ c.own = true
def Own (ρ : Sl) (σ : St) (b : Addr) : Prop := ∃ i, ownAt ρ i ∧ σ[i]? = some (some (.ref b))
/-- F: what is shared and never changes -/
structure Rp (K : Kx) (F : Hp) (ρ : Sl) (σ : St) (H : Hp) : Prop where
  sub : Same F H
  len : ρ.length = σ.length
  dat : ∀ (i : Nat) (x : PyData), ρ[i]? = some (some (.d x)) → ∃ v, σ[i]? = some (some v) ∧ Dp K F v x
  fn : ∀ (i : Nat) (x : Str), ρ[i]? = some (some (.f x)) → ∃ a, K.mg x = some (.ref a) ∧ σ[i]? = some (some (.ref a))
  own : ∀ (i : Nat) (c : C), ρ[i]? = some (some c) → c.own = true → ∃ a o, σ[i]? = some (some (.ref a)) ∧ F a = none ∧ H a = some o ∧ IsO K F c o
  apart : ∀ (i j : Nat) (a : Addr), ownAt ρ i → ownAt ρ j → σ[i]? = some (some (.ref a)) → σ[j]? = some (some (.ref a)) → i = j
/-- slots whose values stay; slots whose own things stay -/
structure Pn where
  s : Nat → Bool
  o : Nat → Bool
def Pn.all (P : Pn) (i : Nat) : Bool := P.s i || P.o i
def allP (n : Nat) : Pn := ⟨fun i => decide (i < n), fun i => decide (i < n)⟩
def ofP (l : List Nat) : Pn := ⟨fun i => l.contains i, fun i => l.contains i⟩
theorem ne_o {P : Pn} {i j : Nat} (hi : P.o i = false) (hj : P.o j = true) : j ≠ i := fun e => by subst e; rw [hj] at hi; cases hi
/-- from one state to a later one; P: slots that stay -/
structure Go (K : Kx) (P : Pn) (ρ : Sl) (σ : St) (H F : Hp) (ρ' : Sl) (σ' : St) (H' F' : Hp) : Prop where
  rp : Rp K F' ρ' σ' H'
  fr : Same F F'
  hp : ∀ b o, ¬ Own ρ σ b → H b = some o → H' b = some o
  th : ∀ b o, H b = some o → ∃ o', H' b = some o'
  nw : ∀ b o, F' b = some o → F b = some o ∨ H b = none ∨ Own ρ σ b
  ow : ∀ b, Own ρ' σ' b → Own ρ σ b ∨ H b = none
  pn : ∀ i, P.s i = true → σ'[i]? = σ[i]?
  po : ∀ i, P.o i = true → ownAt ρ i → ownAt ρ' i
  ln : σ'.length = σ.length
theorem Go.refl {K : Kx} {P : Pn} {ρ : Sl} {σ : St} {H F : Hp} (r : Rp K F ρ σ H) : Go K P ρ σ H F ρ σ H F :=
  ⟨r, Same.refl F, fun _ _ _ e => e, fun _ o e => ⟨o, e⟩, fun _ _ e => .inl e, fun _ e => .inl e, fun _ _ => rfl, fun _ _ e => e, rfl⟩
theorem Go.trans {K : Kx} {P : Pn} {ρ ρ1 ρ2 : Sl} {σ σ1 σ2 : St} {H H1 H2 F F1 F2 : Hp} (a : Go K P ρ σ H F ρ1 σ1 H1 F1) (b : Go K P ρ1 σ1 H1 F1 ρ2 σ2 H2 F2) : Go K P ρ σ H F ρ2 σ2 H2 F2 where
  rp := b.rp
  fr := a.fr.trans b.fr
  hp := fun x o n e => by
    refine b.hp x o (fun z => ?_) (a.hp x o n e)
    rcases a.ow x z with q | q
    · exact n q
    · rw [q] at e; cases e
  th := fun x o e => by
    obtain ⟨o1, e1⟩ := a.th x o e
    exact b.th x o1 e1
  nw := fun x o e => by
    rcases b.nw x o e with q | q | q
    · exact a.nw x o q
    · refine .inr (.inl ?_)
      cases z : H x with
      | none => rfl
      | some u =>
        obtain ⟨u', z'⟩ := a.th x u z
        rw [q] at z'; cases z'
    · rcases a.ow x q with z | z
      · exact .inr (.inr z)
      · exact .inr (.inl z)
  ow := fun x e => by
    rcases b.ow x e with q | q
    · exact a.ow x q
    · cases z : H x with
      | none => exact .inr rfl
      | some u =>
        obtain ⟨u', z'⟩ := a.th x u z
        rw [q] at z'; cases z'
  pn := fun i hi => (b.pn i hi).trans (a.pn i hi)
  po := fun i hi e => b.po i hi (a.po i hi e)
  ln := b.ln.trans a.ln
theorem Go.back {K : Kx} {P : Pn} {ρ ρ1 : Sl} {σ σ1 : St} {H H1 F F1 : Hp} (a : Go K P ρ σ H F ρ1 σ1 H1 F1) {p : Addr} (h : H1 p = none) : H p = none := by
  cases z : H p with
  | none => rfl
  | some u =>
    obtain ⟨u', z'⟩ := a.th p u z
    rw [h] at z'; cases z'
theorem Rp.notOwn {K : Kx} {F : Hp} {ρ : Sl} {σ : St} {H : Hp} (r : Rp K F ρ σ H) {b : Addr} (h : Own ρ σ b) : F b = none ∧ ∃ o, H b = some o := by
  obtain ⟨i, ⟨c, e, hc⟩, hs⟩ := h
  obtain ⟨a, o, h1, h2, h3, _⟩ := r.own i c e hc
  rw [hs] at h1
  cases h1
  exact ⟨h2, o, h3⟩
theorem Rp.free {K : Kx} {F : Hp} {ρ : Sl} {σ : St} {H : Hp} (r : Rp K F ρ σ H) {p : Addr} (h : H p = none) : F p = none := by
  cases z : F p with
  | none => rfl
  | some u => rw [r.sub p u z] at h; cases h
theorem same_upd {H : Hp} {p : Addr} {o : HO} (h : H p = none) : Same H (upd H p o) := fun b x e => by
  rw [upd_ne (ne_of_none e h)]
  exact e
/-- a new object that nobody changes -/
theorem Go.data {K : Kx} {P : Pn} {ρ : Sl} {σ : St} {H F : Hp} (r : Rp K F ρ σ H) {p : Addr} (h : H p = none) (o : HO) : Go K P ρ σ H F ρ σ (upd H p o) (upd F p o) := by
  have hF := r.free h
  have s1 : Same F (upd F p o) := same_upd hF
  refine ⟨⟨fun b x e => ?_, r.len, fun i x e => ?_, r.fn, fun i c e hc => ?_, r.apart⟩, s1, fun b x _ e => same_upd h b x e, fun b x e => ⟨x, same_upd h b x e⟩, fun b x e => ?_, fun b e => .inl e, fun _ _ => rfl, fun _ _ e => e, rfl⟩
  · by_cases hb : b = p
    · subst hb; rw [upd_same] at e ⊢; exact e
    · rw [upd_ne hb] at e ⊢; exact r.sub b x e
  · obtain ⟨v, h1, h2⟩ := r.dat i x e
    exact ⟨v, h1, dp_mono s1 h2⟩
  · obtain ⟨a, u, h1, h2, h3, h4⟩ := r.own i c e hc
    have ne : a ≠ p := ne_of_none h3 h
    exact ⟨a, u, h1, by rw [upd_ne ne]; exact h2, by rw [upd_ne ne]; exact h3, isO_mono s1 h4⟩
  · by_cases hb : b = p
    · subst hb; exact .inr (.inl h)
    · rw [upd_ne hb] at e; exact .inl e
/-- a new object that is nobody's yet -/
theorem Go.temp {K : Kx} {P : Pn} {ρ : Sl} {σ : St} {H F : Hp} (r : Rp K F ρ σ H) {p : Addr} (h : H p = none) (o : HO) : Go K P ρ σ H F ρ σ (upd H p o) F := by
  refine ⟨⟨fun b x e => same_upd h b x (r.sub b x e), r.len, r.dat, r.fn, fun i c e hc => ?_, r.apart⟩, Same.refl F, fun b x _ e => same_upd h b x e, fun b x e => ⟨x, same_upd h b x e⟩, fun b x e => .inl e, fun b e => .inl e, fun _ _ => rfl, fun _ _ e => e, rfl⟩
  obtain ⟨a, u, h1, h2, h3, h4⟩ := r.own i c e hc
  exact ⟨a, u, h1, h2, by rw [upd_ne (ne_of_none h3 h)]; exact h3, h4⟩
/-- what is new, or was one's own -/
abbrev FR := Addr → Prop
def Fr (ρ : Sl) (σ : St) (H : Hp) : FR := fun p => H p = none ∨ Own ρ σ p
theorem Go.fr0 {K : Kx} {P : Pn} {ρ ρ1 : Sl} {σ σ1 : St} {H H1 F F1 : Hp} (a : Go K P ρ σ H F ρ1 σ1 H1 F1) {p : Addr} (h : Fr ρ1 σ1 H1 p) : Fr ρ σ H p := by
  rcases h with h | h
  · exact .inl (a.back h)
  · rcases a.ow p h with z | z
    · exact .inr z
    · exact .inl z
/-- an object that is nobody's is shared from now on -/
theorem Go.share {K : Kx} {P : Pn} {ρ0 ρ : Sl} {σ0 σ : St} {H0 F0 H F : Hp} (g : Go K P ρ0 σ0 H0 F0 ρ σ H F) {p : Addr} {o : HO} (h0 : Fr ρ0 σ0 H0 p) (h : H p = some o) (hF : F p = none) (no : ¬ Own ρ σ p) : Go K P ρ0 σ0 H0 F0 ρ σ H (upd F p o) := by
  have s1 : Same F (upd F p o) := same_upd hF
  refine ⟨⟨fun b x e => ?_, g.rp.len, fun i x e => ?_, g.rp.fn, fun i c e hc => ?_, g.rp.apart⟩, g.fr.trans s1, g.hp, g.th, fun b x e => ?_, g.ow, g.pn, g.po, g.ln⟩
  · by_cases hb : b = p
    · subst hb; rw [upd_same] at e; rw [← e]; exact h
    · rw [upd_ne hb] at e; exact g.rp.sub b x e
  · obtain ⟨v, h1, h2⟩ := g.rp.dat i x e
    exact ⟨v, h1, dp_mono s1 h2⟩
  · obtain ⟨a, u, h1, h2, h3, h4⟩ := g.rp.own i c e hc
    have ne : a ≠ p := fun z => no ⟨i, ⟨c, e, hc⟩, z ▸ h1⟩
    exact ⟨a, u, h1, by rw [upd_ne ne]; exact h2, h3, isO_mono s1 h4⟩
  · by_cases hb : b = p
    · subst hb; exact .inr h0
    · rw [upd_ne hb] at e; exact g.nw b x e

theorem Out.mono {α : Type} {r : Res α} {P P' : α → Sl → Prop} {E E' : Exc → Sl → Prop} (h : Out r P E) (hP : ∀ a ρ, P a ρ → P' a ρ) (hE : ∀ e ρ, E e ρ → E' e ρ) : Out r P' E' := by
  cases r with
  | ok a ρ => exact hP a ρ h
  | err e ρ => exact hE e ρ h
  | stuck => exact h
theorem Out.bind {α β : Type} {m : M α} {f : α → M β} {ρ : Sl} {P : β → Sl → Prop} {E : Exc → Sl → Prop} (h : Out (M.bind m f ρ) P E) : Out (m ρ) (fun a ρ1 => Out (f a ρ1) P E) E := by
  unfold M.bind at h
  cases e : m ρ with
  | ok a ρ1 => rw [e] at h; exact h
  | err x ρ1 => rw [e] at h; exact h
  | stuck => rw [e] at h; exact h
theorem Out.of {α : Type} {o : Option α} {ρ : Sl} {P : α → Sl → Prop} {E : Exc → Sl → Prop} (h : Out (M.of o ρ) P E) : ∃ a, o = some a ∧ P a ρ := by
  cases o with
  | some a => exact ⟨a, rfl, h⟩
  | none => exact h.elim

/-! ## the link -/
/-- slots that stay, how what is raised stands, what is wanted of it -/
structure Ct where
  P : Pn
  ER : Exc → Value → Option Addr → Hp → Prop
  W : WX
/-- what an expression gives: R tells how the value stands for what m gives -/
def T1 {α β : Type} (K : Kx) (c : Ct) (R : FR → Sl → St → Hp → Hp → α → β → Prop) (m : M α) (F : Hp) (ρ : Sl) : St → Hp → (β → Hp → Prop) → Prop := fun σ H Q =>
  Out (m ρ) (fun a ρ' => ∀ v H' F', Go K c.P ρ σ H F ρ' σ H' F' → R (Fr ρ σ H) ρ' σ H' F' a v → Q v H') (fun e ρ' => ∀ cv dd H' F', Go K c.P ρ σ H F ρ' σ H' F' → c.ER e cv dd H' → c.W cv dd σ H')
def Tr {α β : Type} (K : Kx) (c : Ct) (R : FR → Sl → St → Hp → Hp → α → β → Prop) (m : M α) : St → Hp → (β → Hp → Prop) → Prop := fun σ H Q => ∃ F ρ, Rp K F ρ σ H ∧ T1 K c R m F ρ σ H Q
def RD (K : Kx) : FR → Sl → St → Hp → Hp → PyData → V → Prop := fun _ _ _ _ F' d v => Dp K F' v d
def RB : FR → Sl → St → Hp → Hp → Bool → Bool → Prop := fun _ _ _ _ _ a b => a = b
/-- data, a def, or a new object of one's own -/
def RC (K : Kx) : FR → Sl → St → Hp → Hp → C → V → Prop := fun fr ρ' σ H' F' c v => match c with
  | .d x => Dp K F' v x
  | .f x => ∃ a, K.mg x = some (.ref a) ∧ v = .ref a
  | c => ∃ p o, v = .ref p ∧ fr p ∧ F' p = none ∧ H' p = some o ∧ IsO K F' c o ∧ ¬ Own ρ' σ p
/-- rebasing a step -/
theorem T1.base {α β : Type} {K : Kx} {c : Ct} {R R' : FR → Sl → St → Hp → Hp → α → β → Prop} {m : M α} {F F1 : Hp} {ρ ρ1 : Sl} {σ : St} {H H1 : Hp} {Q : β → Hp → Prop} (g : Go K c.P ρ σ H F ρ1 σ H1 F1)
    (hR : ∀ ρ' H' F' a v, Go K c.P ρ1 σ H1 F1 ρ' σ H' F' → R' (Fr ρ1 σ H1) ρ' σ H' F' a v → R (Fr ρ σ H) ρ' σ H' F' a v)
    (h : Out (m ρ1) (fun a ρ' => ∀ v H' F', Go K c.P ρ σ H F ρ' σ H' F' → R (Fr ρ σ H) ρ' σ H' F' a v → Q v H') (fun e ρ' => ∀ cv dd H' F', Go K c.P ρ σ H F ρ' σ H' F' → c.ER e cv dd H' → c.W cv dd σ H')) : T1 K c R' m F1 ρ1 σ H1 Q :=
  Out.mono h (fun a ρ' q v H' F' g' r => q v H' F' (g.trans g') (hR ρ' H' F' a v g' r)) fun e ρ' q cv dd H' F' g' r => q cv dd H' F' (g.trans g') r
theorem pe_imp {X : Cx} {e : Expr} {t t' : TE} (h : PE X e t) (i : ∀ σ H Q, t' σ H Q → t σ H Q) : PE X e t' := ⟨fun pins s σ H Q I q => h.run pins s σ H Q I (i σ H Q q)⟩
theorem pt_imp {X : Cx} {e : Expr} {t t' : TT} (h : PT X e t) (i : ∀ σ H Q, t' σ H Q → t σ H Q) : PT X e t' := ⟨fun pins s σ H Q I q => h.run pins s σ H Q I (i σ H Q q)⟩
theorem pw_imp {X : Cx} {e : Expr} {t t' : TT} (h : PW X e t) (i : ∀ σ H Q, t' σ H Q → t σ H Q) : PW X e t' := ⟨fun wh pins s σ H Q I q => h.run wh pins s σ H Q I (i σ H Q q)⟩
theorem pa_imp {X : Cx} {e : List Expr} {t t' : TA} (h : PA X e t) (i : ∀ σ H Q, t' σ H Q → t σ H Q) : PA X e t' := ⟨fun p pins s σ H Q I q => h.run p pins s σ H Q I (i σ H Q q)⟩
theorem ps_imp {X : Cx} {e : Stmt} {t t' : TS} (h : PS X e t) (i : ∀ D σ H, t' D σ H → t D σ H) : PS X e t' := ⟨fun pins s σ H D I q => h.run pins s σ H D I (i D σ H q)⟩
theorem pss_imp {X : Cx} {e : List Stmt} {t t' : TS} (h : PSs X e t) (i : ∀ D σ H, t' D σ H → t D σ H) : PSs X e t' := ⟨fun pins s σ H D I q => h.run pins s σ H D I (i D σ H q)⟩
/-- an expression gives data -/
abbrev DE (X : Cx) (c : Ct) (e : Expr) (m : M PyData) : Prop := PE X e (Tr X.kx c (RD X.kx) m)
/-- an expression gives contents -/
abbrev DO (X : Cx) (c : Ct) (e : Expr) (m : M C) : Prop := PE X e (Tr X.kx c (RC X.kx) m)
/-- a test -/
abbrev DT (X : Cx) (c : Ct) (e : Expr) (m : M Bool) : Prop := PT X e (Tr X.kx c RB m)
abbrev DW (X : Cx) (c : Ct) (e : Expr) (m : M Bool) : Prop := PW X e (Tr X.kx c RB m)
end DL

set_option Elab.async false
set_option linter.all false
set_option maxRecDepth 100000
set_option maxHeartbeats 2000000
namespace DL
open PySem PySem.Spec PyProof.Rows L2

theorem Tr.pure {α β : Type} {K : Kx} {c : Ct} {R : FR → Sl → St → Hp → Hp → α → β → Prop} {a : α} {σ : St} {H : Hp} {Q : β → Hp → Prop} (h : Tr K c R (M.pure a) σ H Q) : ∃ F ρ, Rp K F ρ σ H ∧ ∀ v H' F', Go K c.P ρ σ H F ρ σ H' F' → R (Fr ρ σ H) ρ σ H' F' a v → Q v H' := h
section
variable {X : Cx} {c : Ct} {e a b d : Expr} {pos : Pos}

/-! ### constants, names -/
theorem de_int {i j} : DE X c (.Constant (.int i) j pos) (M.pure (.int i)) := pe_imp pe_int fun σ H Q ⟨F, ρ, r, h⟩ => h _ H F (Go.refl r) (.int i)
theorem de_bl {i j} : DE X c (.Constant (.bool i) j pos) (M.pure (.bool i)) := pe_imp pe_bl fun σ H Q ⟨F, ρ, r, h⟩ => h _ H F (Go.refl r) (.bl i)
theorem de_non {j} : DE X c (.Constant .none j pos) (M.pure .none) := pe_imp pe_non fun σ H Q ⟨F, ρ, r, h⟩ => h _ H F (Go.refl r) .non
theorem de_str {x j} : DE X c (.Constant (.str x) j pos) (M.pure (.str x)) := pe_imp pe_str fun σ H Q ⟨F, ρ, r, h⟩ => h _ H F (Go.refl r) (.str x)
theorem de_varP {i : Nat} (h : PE X e (L2.tVar i)) : DE X c e (mVar i) := pe_imp h fun σ H Q ⟨F, ρ, r, h⟩ => by
  unfold T1 mVar at h
  cases z : ρ[i]? with
  | none => rw [z] at h; exact h.elim
  | some o =>
    cases o with
    | none => rw [z] at h; exact h.elim
    | some k =>
      cases k with
      | d x =>
        rw [z] at h
        obtain ⟨v, h1, h2⟩ := r.dat i x z
        exact ⟨v, h1, h v H F (Go.refl r) h2⟩
      | _ => rw [z] at h; exact h.elim
theorem do_varP {i : Nat} (h : PE X e (L2.tVar i)) : DO X c e (mVarC i) := pe_imp h fun σ H Q ⟨F, ρ, r, h⟩ => by
  unfold T1 mVarC at h
  cases z : ρ[i]? with
  | none => rw [z] at h; exact h.elim
  | some o =>
    cases o with
    | none => rw [z] at h; exact h.elim
    | some k =>
      cases k with
      | d x =>
        rw [z] at h
        obtain ⟨v, h1, h2⟩ := r.dat i x z
        exact ⟨v, h1, h v H F (Go.refl r) h2⟩
      | f x =>
        rw [z] at h
        obtain ⟨a, h1, h2⟩ := r.fn i x z
        exact ⟨_, h2, h (.ref a) H F (Go.refl r) ⟨a, h1, rfl⟩⟩
      | _ => rw [z] at h; exact h.elim
/-- giving up a list of one's own -/
theorem Go.give {K : Kx} {P : Pn} {F : Hp} {ρ : Sl} {σ : St} {H : Hp} {i : Nat} {xs : List PyData} (r : Rp K F ρ σ H) (z : ρ[i]? = some (some (.l xs))) (hi : P.o i = false) :
    ∃ a F', σ[i]? = some (some (.ref a)) ∧ Go K P ρ σ H F (ρ.set i (some (.d (.list xs)))) σ H F' ∧ Dp K F' (.ref a) (.list xs) := by
  obtain ⟨a, o, h1, h2, h3, h4⟩ := r.own i _ z rfl
  obtain ⟨vs, rfl, h5⟩ := isO_l h4
  have s1 : Same F (upd F a (.lst vs)) := same_upd h2
  have hlt : i < ρ.length := (List.getElem?_eq_some_iff.mp z).1
  have dd : Dp K (upd F a (.lst vs)) (.ref a) (.list xs) := .lst (.inl upd_same) (dpAll_mono s1 h5)
  have oi : ownAt ρ i := ⟨_, z, rfl⟩
  have get : ∀ j, j ≠ i → (ρ.set i (some (.d (.list xs))))[j]? = ρ[j]? := fun j hj => List.getElem?_set_ne (Ne.symm hj)
  have self : (ρ.set i (some (.d (.list xs))))[i]? = some (some (.d (.list xs))) := List.getElem?_set_self hlt
  have back : ∀ j, ownAt (ρ.set i (some (.d (.list xs)))) j → j ≠ i ∧ ownAt ρ j := fun j ⟨k, e1, e2⟩ => by
    by_cases hj : j = i
    · subst hj; rw [self] at e1; cases e1; cases e2
    · rw [get j hj] at e1; exact ⟨hj, k, e1, e2⟩
  refine ⟨a, upd F a (.lst vs), h1, ⟨⟨fun b x e => ?_, by rw [List.length_set]; exact r.len, fun j x e => ?_, fun j x e => ?_, fun j k e hk => ?_, fun j k b h h' e e' => r.apart j k b (back j h).2 (back k h').2 e e'⟩, s1, fun _ _ _ e => e, fun _ o e => ⟨o, e⟩, fun b x e => ?_, fun b ⟨j, h, e⟩ => .inl ⟨j, (back j h).2, e⟩, fun j hj => rfl, fun j hj ⟨k, e1, e2⟩ => ⟨k, by rw [get j (ne_o hi hj)]; exact e1, e2⟩, rfl⟩, dd⟩
  · by_cases hb : b = a
    · subst hb; rw [upd_same] at e; rw [← e]; exact h3
    · rw [upd_ne hb] at e; exact r.sub b x e
  · by_cases hj : j = i
    · subst hj; rw [self] at e; cases e; exact ⟨_, h1, dd⟩
    · rw [get j hj] at e
      obtain ⟨v, q1, q2⟩ := r.dat j x e
      exact ⟨v, q1, dp_mono s1 q2⟩
  · by_cases hj : j = i
    · subst hj; rw [self] at e; cases e
    · rw [get j hj] at e; exact r.fn j x e
  · obtain ⟨hj, _⟩ := back j ⟨k, e, hk⟩
    rw [get j hj] at e
    obtain ⟨a', u, q1, q2, q3, q4⟩ := r.own j k e hk
    have ne : a' ≠ a := fun q => hj (r.apart j i a ⟨k, e, hk⟩ oi (q ▸ q1) h1)
    exact ⟨a', u, q1, by rw [upd_ne ne]; exact q2, q3, isO_mono s1 q4⟩
  · by_cases hb : b = a
    · subst hb; exact .inr (.inr ⟨i, oi, h1⟩)
    · rw [upd_ne hb] at e; exact .inl e
theorem de_varFP {i : Nat} (hi : c.P.o i = false) (h : PE X e (L2.tVar i)) : DE X c e (mVarF i) := pe_imp h fun σ H Q ⟨F, ρ, r, h⟩ => by
  unfold T1 mVarF at h
  cases z : ρ[i]? with
  | none => rw [z] at h; exact h.elim
  | some o =>
    cases o with
    | none => rw [z] at h; exact h.elim
    | some k =>
      cases k with
      | d x =>
        rw [z] at h
        obtain ⟨v, h1, h2⟩ := r.dat i x z
        exact ⟨v, h1, h v H F (Go.refl r) h2⟩
      | l xs =>
        rw [z] at h
        obtain ⟨a, F', h1, g, dd⟩ := Go.give r z hi
        exact ⟨_, h1, h _ H F' g dd⟩
      | _ => rw [z] at h; exact h.elim
theorem de_globP {v : V} {m : PyData} (h : PE X e (tC v)) (hd : ∀ F, Dp X.kx F v m) : DE X c e (M.pure m) := pe_imp h fun σ H Q ⟨F, ρ, r, h⟩ => h _ H F (Go.refl r) (hd F)
theorem do_globP {x : Str} {f : Addr} (h : PE X e (tC (.ref f))) (hm : X.mg x = some (.ref f)) : DO X c e (M.pure (.f x)) := pe_imp h fun σ H Q ⟨F, ρ, r, h⟩ => h _ H F (Go.refl r) ⟨f, hm, rfl⟩

/-! ### operators -/
def OpD (K : Kx) (P : Pn) (r : R2) (f : PyData → PyData → Option PyData) : Prop :=
  ∀ {ρ : Sl} {σ : St} {H F : Hp} {v u : V} {x y z : PyData} {Q : VK}, Rp K F ρ σ H → Dp K F v x → Dp K F u y → f x y = some z → (∀ w H' F', Go K P ρ σ H F ρ σ H' F' → Dp K F' w z → Q w H') → r v u H Q
theorem de_op {op : Operator} {r : R2} {f : PyData → PyData → Option PyData} {m1 m2 : M PyData} (ho : OpR X (binaryOp op) r) (hf : OpD X.kx c.P r f) (ha : DE X c a m1) (hb : DE X c b m2) : DE X c (.BinOp a op b pos) (lift2 f m1 m2) :=
  pe_imp (pe_op ho ha hb) fun σ H Q ⟨F, ρ, r, h⟩ => ⟨F, ρ, r, Out.mono (Out.bind h) (fun x ρ1 h1 v H1 F1 g1 d1 => ⟨F1, ρ1, g1.rp, Out.mono (Out.bind h1) (fun y ρ2 h2 u H2 F2 g2 d2 => by
    obtain ⟨z, e, q⟩ := Out.of h2
    exact hf g2.rp (dp_mono g2.fr d1) d2 e fun w H' F' g3 d3 => q w H' F' ((g1.trans g2).trans g3) d3) fun e ρ2 q cv dd H2 F2 g2 er => q cv dd H2 F2 (g1.trans g2) er⟩) fun e ρ1 q => q⟩
theorem de_un {op : UnaryOp} {r : V → Hp → VK → Prop} {f : PyData → Option PyData} {m1 : M PyData} (ho : UnR X (unaryOp op) r)
    (hf : ∀ {ρ : Sl} {σ : St} {H F : Hp} {v : V} {x z : PyData} {Q : VK}, Rp X.kx F ρ σ H → Dp X.kx F v x → f x = some z → (∀ w H' F', Go X.kx c.P ρ σ H F ρ σ H' F' → Dp X.kx F' w z → Q w H') → r v H Q) (ha : DE X c a m1) : DE X c (.UnaryOp op a pos) (lift1 f m1) :=
  pe_imp (pe_un ho ha) fun σ H Q ⟨F, ρ, r, h⟩ => ⟨F, ρ, r, Out.mono (Out.bind h) (fun x ρ1 h1 v H1 F1 g1 d1 => by
    obtain ⟨z, e, q⟩ := Out.of h1
    exact hf g1.rp d1 e fun w H' F' g3 d3 => q w H' F' (g1.trans g3) d3) fun e ρ1 q => q⟩
theorem oi_of {K : Kx} {P : Pn} {cc : Int → Int → Prop} {g : Int → Int → V} {f : PyData → PyData → Option PyData} (hf : ∀ x y z, f x y = some z → ∃ i j k, x = .int i ∧ y = .int j ∧ cc i j ∧ g i j = .int k ∧ z = .int k) : OpD K P (rI cc g) f := fun {ρ σ H F v u x y z Q} r hx hy e q => by
  obtain ⟨i, j, k, rfl, rfl, hc, h1, rfl⟩ := hf x y z e
  cases hx
  cases hy
  refine ⟨i, j, rfl, rfl, hc, ?_⟩
  rw [h1]
  exact q _ H F (Go.refl r) (.int k)
theorem oi_of0 {K : Kx} {P : Pn} {g : Int → Int → V} {f : PyData → PyData → Option PyData} (hf : ∀ x y z, f x y = some z → ∃ i j k, x = .int i ∧ y = .int j ∧ g i j = .int k ∧ z = .int k) : OpD K P (rI0 g) f := fun {ρ σ H F v u x y z Q} r hx hy e q => by
  obtain ⟨i, j, k, rfl, rfl, h1, rfl⟩ := hf x y z e
  cases hx
  cases hy
  refine ⟨i, j, rfl, rfl, ?_⟩
  rw [h1]
  exact q _ H F (Go.refl r) (.int k)
theorem ints_or (x y : PyData) : (∃ i j, x = .int i ∧ y = .int j) ∨ ∀ i j, x = .int i → y = .int j → False := by
  cases x <;> cases y <;> first
    | exact .inl ⟨_, _, rfl, rfl⟩
    | (refine .inr fun _ _ e _ => ?_; cases e; done)
    | (refine .inr fun _ _ _ e => ?_; cases e; done)
theorem ints_of {f : PyData → PyData → Option PyData} {x y z : PyData} (h : f x y = some z) (hn : ∀ x y, (∀ i j, x = .int i → y = .int j → False) → f x y = none) : ∃ i j, x = .int i ∧ y = .int j := by
  rcases ints_or x y with k | k
  · exact k
  · rw [hn _ _ k] at h; cases h
theorem os_sub {K : Kx} {P : Pn} : OpD K P (rI0 fun i j => .int (i - j)) oSub := oi_of0 fun x y z h => by
  obtain ⟨i, j, rfl, rfl⟩ := ints_of h fun x y n => by cases x <;> cases y <;> first | rfl | exact (n _ _ rfl rfl).elim
  exact ⟨i, j, i - j, rfl, rfl, rfl, (Option.some.inj h).symm⟩
theorem os_and {K : Kx} {P : Pn} : OpD K P (rI0 fun i j => .int (Builtin.bitAnd i j)) oAnd := oi_of0 fun x y z h => by
  obtain ⟨i, j, rfl, rfl⟩ := ints_of h fun x y n => by cases x <;> cases y <;> first | rfl | exact (n _ _ rfl rfl).elim
  exact ⟨i, j, _, rfl, rfl, rfl, (Option.some.inj h).symm⟩
theorem os_or {K : Kx} {P : Pn} : OpD K P (rI0 fun i j => .int (Builtin.bitOr i j)) oOr := oi_of0 fun x y z h => by
  obtain ⟨i, j, rfl, rfl⟩ := ints_of h fun x y n => by cases x <;> cases y <;> first | rfl | exact (n _ _ rfl rfl).elim
  exact ⟨i, j, _, rfl, rfl, rfl, (Option.some.inj h).symm⟩
theorem os_mul {K : Kx} {P : Pn} : OpD K P (rI CMulX fun i j => .int (i * j)) oMul := oi_of fun x y z h => by
  obtain ⟨i, j, rfl, rfl⟩ := ints_of h fun x y n => by cases x <;> cases y <;> first | rfl | exact (n _ _ rfl rfl).elim
  have h' : (if mulOk i j then some (PyData.int (i * j)) else none) = some z := h
  by_cases hm : mulOk i j = true
  · rw [if_pos hm] at h'
    exact ⟨i, j, _, rfl, rfl, of_decide_eq_true (p := (Builtin.Int.intBits i : Int) + (Builtin.Int.intBits j : Int) ≤ 134217728) hm, rfl, (Option.some.inj h').symm⟩
  · rw [if_neg hm] at h'; cases h'
theorem os_div {K : Kx} {P : Pn} : OpD K P (rI CDivW fun i j => .int (i / j)) oDiv := oi_of fun x y z h => by
  obtain ⟨i, j, rfl, rfl⟩ := ints_of h fun x y n => by cases x <;> cases y <;> first | rfl | exact (n _ _ rfl rfl).elim
  have h' : (if divOk j then some (PyData.int (i / j)) else none) = some z := h
  by_cases hm : divOk j = true
  · rw [if_pos hm] at h'
    unfold divOk at hm
    rw [Bool.and_eq_true] at hm
    exact ⟨i, j, _, rfl, rfl, ⟨of_decide_eq_true hm.1, of_decide_eq_true hm.2⟩, rfl, (Option.some.inj h').symm⟩
  · rw [if_neg hm] at h'; cases h'
theorem os_mod {K : Kx} {P : Pn} : OpD K P (rI (fun _ j => 0 < j) fun i j => .int (i % j)) oMod := oi_of fun x y z h => by
  obtain ⟨i, j, rfl, rfl⟩ := ints_of h fun x y n => by cases x <;> cases y <;> first | rfl | exact (n _ _ rfl rfl).elim
  have h' : (if 0 < j then some (PyData.int (i % j)) else none) = some z := h
  by_cases hm : 0 < j
  · rw [if_pos hm] at h'
    exact ⟨i, j, _, rfl, rfl, hm, rfl, (Option.some.inj h').symm⟩
  · rw [if_neg hm] at h'; cases h'
theorem os_shl {K : Kx} {P : Pn} : OpD K P (rI CShl fun i j => .int (i * 2 ^ j.toNat)) oShl := oi_of fun x y z h => by
  obtain ⟨i, j, rfl, rfl⟩ := ints_of h fun x y n => by cases x <;> cases y <;> first | rfl | exact (n _ _ rfl rfl).elim
  have h' : (if shlOk i j then some (PyData.int (i * 2 ^ j.toNat)) else none) = some z := h
  by_cases hm : shlOk i j = true
  · rw [if_pos hm] at h'
    unfold shlOk at hm
    rw [Bool.and_eq_true] at hm
    refine ⟨i, j, _, rfl, rfl, ⟨of_decide_eq_true hm.1, ?_⟩, rfl, (Option.some.inj h').symm⟩
    have e : (2 : Int) ^ 27 = 134217728 := by decide
    rw [e]
    exact of_decide_eq_true hm.2
  · rw [if_neg hm] at h'; cases h'
theorem os_shr {K : Kx} {P : Pn} : OpD K P (rI (fun _ j => 0 ≤ j) fun i j => .int (i / 2 ^ j.toNat)) oShr := oi_of fun x y z h => by
  obtain ⟨i, j, rfl, rfl⟩ := ints_of h fun x y n => by cases x <;> cases y <;> first | rfl | exact (n _ _ rfl rfl).elim
  have h' : (if 0 ≤ j then some (PyData.int (i / 2 ^ j.toNat)) else none) = some z := h
  by_cases hm : 0 ≤ j
  · rw [if_pos hm] at h'
    exact ⟨i, j, _, rfl, rfl, hm, rfl, (Option.some.inj h').symm⟩
  · rw [if_neg hm] at h'; cases h'
theorem os_pow {K : Kx} {P : Pn} : OpD K P (rI CPow fun i j => .int (i ^ j.toNat)) oPow := oi_of fun x y z h => by
  obtain ⟨i, j, rfl, rfl⟩ := ints_of h fun x y n => by cases x <;> cases y <;> first | rfl | exact (n _ _ rfl rfl).elim
  have h' : (if powOk i j then some (PyData.int (i ^ j.toNat)) else none) = some z := h
  by_cases hm : powOk i j = true
  · rw [if_pos hm] at h'
    unfold powOk at hm
    rw [Bool.and_eq_true, Bool.and_eq_true] at hm
    exact ⟨i, j, _, rfl, rfl, ⟨of_decide_eq_true hm.1.1, of_decide_eq_true hm.1.2, of_decide_eq_true hm.2⟩, rfl, (Option.some.inj h').symm⟩
  · rw [if_neg hm] at h'; cases h'
abbrev rAddS2 : R2 := fun x y H Q => ∃ i j, x = .str i ∧ y = .str j ∧ i.length + j.length ≤ sizeLine ∧ Q (.str (i ++ j)) H
theorem os_add {K : Kx} {P : Pn} : OpD K P (fun x y H Q => rI0 (fun i j => .int (i + j)) x y H Q ∨ rAddS2 x y H Q) oAdd := fun {ρ σ H F v u x y z Q} r hx hy e q => by
  cases x <;> first
    | (cases y <;> first
        | (cases hx; cases hy; cases e; exact .inl ⟨_, _, rfl, rfl, q _ H F (Go.refl r) (.int _)⟩)
        | cases e)
    | skip
  case str x =>
    cases y with
    | str y =>
      have h' : (if x.length + y.length ≤ sizeLine then some (PyData.str (x ++ y)) else none) = some z := e
      by_cases hm : x.length + y.length ≤ sizeLine
      · rw [if_pos hm] at h'
        cases h'
        cases hx
        cases hy
        exact .inr ⟨x, y, rfl, rfl, hm, q _ H F (Go.refl r) (.str _)⟩
      · rw [if_neg hm] at h'; cases h'
    | _ => cases e
variable {m1 m2 m3 : M PyData}
theorem de_add (ha : DE X c a m1) (hb : DE X c b m2) : DE X c (.BinOp a .Add b pos) (lift2 oAdd m1 m2) := de_op (OpR.or op_add op_add_str) os_add ha hb
theorem de_sub (ha : DE X c a m1) (hb : DE X c b m2) : DE X c (.BinOp a .Sub b pos) (lift2 oSub m1 m2) := de_op op_sub os_sub ha hb
theorem de_mul (ha : DE X c a m1) (hb : DE X c b m2) : DE X c (.BinOp a .Mult b pos) (lift2 oMul m1 m2) := de_op op_mulX os_mul ha hb
theorem de_div (ha : DE X c a m1) (hb : DE X c b m2) : DE X c (.BinOp a .FloorDiv b pos) (lift2 oDiv m1 m2) := de_op op_fdivW os_div ha hb
theorem de_mod (ha : DE X c a m1) (hb : DE X c b m2) : DE X c (.BinOp a .Mod b pos) (lift2 oMod m1 m2) := de_op op_mod os_mod ha hb
theorem de_shl (ha : DE X c a m1) (hb : DE X c b m2) : DE X c (.BinOp a .LShift b pos) (lift2 oShl m1 m2) := de_op op_shlW os_shl ha hb
theorem de_shr (ha : DE X c a m1) (hb : DE X c b m2) : DE X c (.BinOp a .RShift b pos) (lift2 oShr m1 m2) := de_op op_shr os_shr ha hb
theorem de_pow (ha : DE X c a m1) (hb : DE X c b m2) : DE X c (.BinOp a .Pow b pos) (lift2 oPow m1 m2) := de_op op_pow os_pow ha hb
theorem de_and (ha : DE X c a m1) (hb : DE X c b m2) : DE X c (.BinOp a .BitAnd b pos) (lift2 oAnd m1 m2) := de_op L2.op_and os_and ha hb
theorem de_or (ha : DE X c a m1) (hb : DE X c b m2) : DE X c (.BinOp a .BitOr b pos) (lift2 oOr m1 m2) := de_op L2.op_or os_or ha hb
theorem de_neg (ha : DE X c a m1) : DE X c (.UnaryOp .USub a pos) (lift1 oNeg m1) := de_un un_neg (fun {ρ σ H F v x z Q} r hx e q => by
  cases x <;> first
    | (cases hx; cases e; exact ⟨_, rfl, q _ H F (Go.refl r) (.int _)⟩)
    | cases e) ha

/-! ### comparisons -/
def CmD (K : Kx) (P : Pn) (r : R2) (f : PyData → PyData → Option Bool) : Prop :=
  ∀ {ρ : Sl} {σ : St} {H F : Hp} {v u : V} {x y : PyData} {k : Bool} {Q : VK}, Rp K F ρ σ H → Dp K F v x → Dp K F u y → f x y = some k → (∀ H' F', Go K P ρ σ H F ρ σ H' F' → Q (.bl k) H') → r v u H Q
theorem de_cmp {op : CmpOp} {r : R2} {f : PyData → PyData → Option Bool} (ho : OpR X (compareOp op) r) (hf : CmD X.kx c.P r f) (ha : DE X c a m1) (hb : DE X c b m2) (hm : behindInMarks op b = false) : DE X c (.Compare a [op] [b] pos) (bD (lift2 f m1 m2)) :=
  pe_imp (pe_cmpR ho ha hb hm) fun σ H Q ⟨F, ρ, r, h⟩ => ⟨F, ρ, r, Out.mono (Out.bind (Out.bind h)) (fun x ρ1 h1 v H1 F1 g1 d1 => ⟨F1, ρ1, g1.rp, Out.mono (Out.bind h1) (fun y ρ2 h2 u H2 F2 g2 d2 => by
    obtain ⟨z, e, q⟩ := Out.of h2
    exact hf g2.rp (dp_mono g2.fr d1) d2 e fun H' F' g3 => q _ H' F' ((g1.trans g2).trans g3) (.bl z)) fun e ρ2 q cv dd H2 F2 g2 er => q cv dd H2 F2 (g1.trans g2) er⟩) fun e ρ1 q => q⟩
theorem dt_cmp {op : CmpOp} {r : R2} {f : PyData → PyData → Option Bool} (ho : OpR X (compareOp op) r) (hf : CmD X.kx c.P r f) (ha : DE X c a m1) (hb : DE X c b m2) (hm : behindInMarks op b = false) : DT X c (.Compare a [op] [b] pos) (lift2 f m1 m2) :=
  pt_imp (pt_cmpR ho ha hb hm) fun σ H Q ⟨F, ρ, r, h⟩ => ⟨F, ρ, r, Out.mono (Out.bind h) (fun x ρ1 h1 v H1 F1 g1 d1 => ⟨F1, ρ1, g1.rp, Out.mono (Out.bind h1) (fun y ρ2 h2 u H2 F2 g2 d2 => by
    obtain ⟨z, e, q⟩ := Out.of h2
    exact hf g2.rp (dp_mono g2.fr d1) d2 e fun H' F' g3 => ⟨z, rfl, q _ H' F' ((g1.trans g2).trans g3) rfl⟩) fun e ρ2 q cv dd H2 F2 g2 er => q cv dd H2 F2 (g1.trans g2) er⟩) fun e ρ1 q => q⟩
theorem ci_of {K : Kx} {P : Pn} {p : Int → Int → Bool} {f : PyData → PyData → Option Bool} (hf : ∀ x y z, f x y = some z → ∃ i j, x = .int i ∧ y = .int j ∧ z = p i j) : CmD K P (rI0 fun i j => .bl (p i j)) f := fun {ρ σ H F v u x y z Q} r hx hy e q => by
  obtain ⟨i, j, rfl, rfl, rfl⟩ := hf x y z e
  cases hx
  cases hy
  exact ⟨i, j, rfl, rfl, q H F (Go.refl r)⟩
theorem cs_lt {K : Kx} {P : Pn} : CmD K P (rI0 fun i j => .bl (decide (i < j))) oLt := ci_of fun x y z h => by
  cases x <;> first
    | (cases y <;> first
        | exact ⟨_, _, rfl, rfl, (Option.some.inj h).symm⟩
        | cases h)
    | cases h
theorem cs_le {K : Kx} {P : Pn} : CmD K P (rI0 fun i j => .bl (decide (i ≤ j))) oLe := ci_of fun x y z h => by
  cases x <;> first
    | (cases y <;> first
        | exact ⟨_, _, rfl, rfl, (Option.some.inj h).symm⟩
        | cases h)
    | cases h
theorem cs_gt {K : Kx} {P : Pn} : CmD K P (rI0 fun i j => .bl (decide (j < i))) oGt := ci_of fun x y z h => by
  cases x <;> first
    | (cases y <;> first
        | exact ⟨_, _, rfl, rfl, (Option.some.inj h).symm⟩
        | cases h)
    | cases h
theorem cs_ge {K : Kx} {P : Pn} : CmD K P (rI0 fun i j => .bl (decide (j ≤ i))) oGe := ci_of fun x y z h => by
  cases x <;> first
    | (cases y <;> first
        | exact ⟨_, _, rfl, rfl, (Option.some.inj h).symm⟩
        | cases h)
    | cases h
theorem scal_of {K : Kx} {F : Hp} {v u : V} {x y : PyData} (hx : Dp K F v x) (hy : Dp K F u y) (h : scalD x y = true) : scal v u = true ∧ decide (v = u) = PyData.eqv x y := by
  cases hx <;> cases hy <;> first
    | exact absurd (show false = true from h) Bool.false_ne_true
    | (refine ⟨rfl, ?_⟩; first | rfl | (simp only [PyData.eqv, V.int.injEq, V.bl.injEq, V.str.injEq, reduceCtorEq, decide_false, decide_true]; first | rfl | exact (Bool.beq_eq_decide_eq _ _).symm))
theorem cs_eq {K : Kx} {P : Pn} : CmD K P (fun x y H Q => rEq x y H Q ∨ rEqD K x y H Q) oEq := fun {ρ σ H F v u x y k Q} r hx hy e q => by
  unfold oEq at e
  by_cases h1 : scalD x y = true
  · rw [h1, Bool.true_or, if_pos rfl] at e
    cases e
    obtain ⟨s1, s2⟩ := scal_of hx hy h1
    exact .inl ⟨s1, by rw [s2]; exact q H F (Go.refl r)⟩
  · have h1' : scalD x y = false := by simpa using h1
    rw [h1', Bool.false_or] at e
    by_cases h2 : (SeqAt.shaped x && SeqAt.shaped y) = true
    · rw [if_pos h2] at e
      cases e
      rw [Bool.and_eq_true] at h2
      exact .inr ⟨x, y, dp_to (dp_mono r.sub hx), dp_to (dp_mono r.sub hy), h2.1, h2.2, q H F (Go.refl r)⟩
    · rw [if_neg h2] at e; cases e
theorem cs_ne {K : Kx} {P : Pn} : CmD K P (fun x y H Q => rNe x y H Q ∨ rNeD K x y H Q) oNe := fun {ρ σ H F v u x y k Q} r hx hy e q => by
  unfold oNe at e
  by_cases h1 : scalD x y = true
  · rw [h1, Bool.true_or, if_pos rfl] at e
    cases e
    obtain ⟨s1, s2⟩ := scal_of hx hy h1
    exact .inl ⟨s1, by rw [s2]; exact q H F (Go.refl r)⟩
  · have h1' : scalD x y = false := by simpa using h1
    rw [h1', Bool.false_or] at e
    by_cases h2 : (SeqAt.shaped x && SeqAt.shaped y) = true
    · rw [if_pos h2] at e
      cases e
      rw [Bool.and_eq_true] at h2
      exact .inr ⟨x, y, dp_to (dp_mono r.sub hx), dp_to (dp_mono r.sub hy), h2.1, h2.2, q H F (Go.refl r)⟩
    · rw [if_neg h2] at e; cases e
theorem none_of {K : Kx} {F : Hp} {v : V} {x : PyData} (h : Dp K F v x) : decide (v = .non) = isNone x := by
  cases h <;> rfl
theorem cs_isN {K : Kx} {P : Pn} : CmD K P (fun x y H Q => y = .non ∧ Q (.bl (decide (x = .non))) H) (fun x y => match y with | .none => some (isNone x) | _ => none) := fun {ρ σ H F v u x y k Q} r hx hy e q => by
  cases y <;> first
    | (cases e; cases hy; exact ⟨rfl, by rw [none_of hx]; exact q H F (Go.refl r)⟩)
    | cases e
theorem cs_notN {K : Kx} {P : Pn} : CmD K P (fun x y H Q => y = .non ∧ Q (.bl (!decide (x = .non))) H) (fun x y => match y with | .none => some (!isNone x) | _ => none) := fun {ρ σ H F v u x y k Q} r hx hy e q => by
  cases y <;> first
    | (cases e; cases hy; exact ⟨rfl, by rw [none_of hx]; exact q H F (Go.refl r)⟩)
    | cases e
theorem cs_isB {K : Kx} {P : Pn} : CmD K P rIsB oIsB := fun {ρ σ H F v u x y k Q} r hx hy e q => by
  cases x <;> first
    | (cases y <;> first
        | (cases e; cases hx; cases hy; exact ⟨_, _, rfl, rfl, q H F (Go.refl r)⟩)
        | cases e)
    | cases e
theorem cs_notB {K : Kx} {P : Pn} : CmD K P rNotB oNotB := fun {ρ σ H F v u x y k Q} r hx hy e q => by
  cases x <;> first
    | (cases y <;> first
        | (cases e; cases hx; cases hy; exact ⟨_, _, rfl, rfl, q H F (Go.refl r)⟩)
        | cases e)
    | cases e
theorem flat_of {K : Kx} {F : Hp} {v : V} {x : PyData} (h : Dp K F v x) : flatV v = flatD x := by
  cases h <;> rfl
theorem eqV_of {K : Kx} {F : Hp} {v u : V} {x y : PyData} (hx : Dp K F v x) (hy : Dp K F u y) (f1 : flatD x = true) (f2 : flatD y = true) : eqV v u = PyData.eqv x y := by
  cases hx <;> cases hy <;> first
    | exact absurd (show false = true from f1) Bool.false_ne_true
    | exact absurd (show false = true from f2) Bool.false_ne_true
    | rfl
    | (simp only [eqV, PyData.eqv]; done)
    | (simp only [eqV, PyData.eqv]; rfl)
theorem inV_of {K : Kx} {F : Hp} {v : V} {x : PyData} (hx : Dp K F v x) (f1 : flatD x = true) : ∀ {vs : List V} {ys : List PyData}, DpAll K F vs ys → ys.all flatD = true → vs.all flatV = true ∧ inV v vs = inD x ys
  | _, _, .nil, _ => ⟨rfl, rfl⟩
  | w :: vs, y :: ys, .cons h t, f => by
    rw [List.all_cons, Bool.and_eq_true] at f
    obtain ⟨i1, i2⟩ := inV_of hx f1 t f.2
    refine ⟨?_, ?_⟩
    · rw [List.all_cons, flat_of h, f.1, i1] <;> rfl
    · show ((w :: vs).any fun y => eqV y v) = ((y :: ys).any fun y => PyData.eqv y x)
      rw [List.any_cons, List.any_cons, eqV_of h hx f.1 f1]
      exact congrArg _ i2
theorem cs_in {K : Kx} {P : Pn} : CmD K P (rIn K false) oIn := fun {ρ σ H F v u x y k Q} r hx hy e q => by
  unfold oIn at e
  cases hy with
  | lst hs ha =>
    rename_i a vs ys
    have e' : (if (flatD x && ys.all flatD) = true then some (inD x ys) else none) = some k := e
    by_cases hf : (flatD x && ys.all flatD) = true
    · rw [if_pos hf] at e'
      cases e'
      rw [Bool.and_eq_true] at hf
      obtain ⟨i1, i2⟩ := inV_of hx hf.1 ha hf.2
      exact ⟨a, vs, rfl, .inl (rd_seq r.sub hs), by rw [flat_of hx]; exact hf.1, i1, by rw [if_neg Bool.false_ne_true, i2]; exact q H F (Go.refl r)⟩
    · rw [if_neg hf] at e'; cases e'
  | tup hs ha =>
    rename_i a vs ys
    have e' : (if (flatD x && ys.all flatD) = true then some (inD x ys) else none) = some k := e
    by_cases hf : (flatD x && ys.all flatD) = true
    · rw [if_pos hf] at e'
      cases e'
      rw [Bool.and_eq_true] at hf
      obtain ⟨i1, i2⟩ := inV_of hx hf.1 ha hf.2
      exact ⟨a, vs, rfl, .inr (sqT_mono r.sub hs), by rw [flat_of hx]; exact hf.1, i1, by rw [if_neg Bool.false_ne_true, i2]; exact q H F (Go.refl r)⟩
    · rw [if_neg hf] at e'; cases e'
  | _ => cases e
theorem cs_notIn {K : Kx} {P : Pn} : CmD K P (rIn K true) oNotIn := fun {ρ σ H F v u x y k Q} r hx hy e q => by
  unfold oNotIn at e
  cases hy with
  | lst hs ha =>
    rename_i a vs ys
    have e' : (if (flatD x && ys.all flatD) = true then some (!inD x ys) else none) = some k := e
    by_cases hf : (flatD x && ys.all flatD) = true
    · rw [if_pos hf] at e'
      cases e'
      rw [Bool.and_eq_true] at hf
      obtain ⟨i1, i2⟩ := inV_of hx hf.1 ha hf.2
      exact ⟨a, vs, rfl, .inl (rd_seq r.sub hs), by rw [flat_of hx]; exact hf.1, i1, by rw [if_pos rfl, i2]; exact q H F (Go.refl r)⟩
    · rw [if_neg hf] at e'; cases e'
  | tup hs ha =>
    rename_i a vs ys
    have e' : (if (flatD x && ys.all flatD) = true then some (!inD x ys) else none) = some k := e
    by_cases hf : (flatD x && ys.all flatD) = true
    · rw [if_pos hf] at e'
      cases e'
      rw [Bool.and_eq_true] at hf
      obtain ⟨i1, i2⟩ := inV_of hx hf.1 ha hf.2
      exact ⟨a, vs, rfl, .inr (sqT_mono r.sub hs), by rw [flat_of hx]; exact hf.1, i1, by rw [if_pos rfl, i2]; exact q H F (Go.refl r)⟩
    · rw [if_neg hf] at e'; cases e'
  | _ => cases e
/-- the rules by their operators -/
structure Cm (X : Cx) (c : Ct) (op : CmpOp) (f : PyData → PyData → Option Bool) : Prop where
  ex : ∃ r, OpR X (compareOp op) r ∧ CmD X.kx c.P r f
theorem cm_lt : Cm X c .Lt oLt := ⟨_, op_lt, cs_lt⟩
theorem cm_le : Cm X c .LtE oLe := ⟨_, op_le, cs_le⟩
theorem cm_gt : Cm X c .Gt oGt := ⟨_, op_gt, cs_gt⟩
theorem cm_ge : Cm X c .GtE oGe := ⟨_, op_ge, cs_ge⟩
theorem cm_eq (hu : X.A.units + 64 < cLine) : Cm X c .Eq oEq := ⟨_, OpR.or op_eq (op_eqD hu), cs_eq⟩
theorem cm_ne (hu : X.A.units + 64 < cLine) : Cm X c .NotEq oNe := ⟨_, OpR.or op_ne (op_neD hu), cs_ne⟩
theorem cm_in : Cm X c .In oIn := ⟨_, op_in_seq, cs_in⟩
theorem cm_notIn : Cm X c .NotIn oNotIn := ⟨_, op_notIn_seq, cs_notIn⟩
theorem cm_isN : Cm X c .Is oIsX := ⟨_, op_isN, cs_isN⟩
theorem cm_notN : Cm X c .IsNot oNotX := ⟨_, op_notN, cs_notN⟩
theorem cm_isB : Cm X c .Is oIsB := ⟨_, op_isBl, cs_isB⟩
theorem cm_notB : Cm X c .IsNot oNotB := ⟨_, op_notBl, cs_notB⟩
theorem de_cm {op : CmpOp} {f : PyData → PyData → Option Bool} (h : Cm X c op f) (ha : DE X c a m1) (hb : DE X c b m2) (hm : behindInMarks op b = false) : DE X c (.Compare a [op] [b] pos) (bD (lift2 f m1 m2)) := by
  obtain ⟨r, h1, h2⟩ := h.ex
  exact de_cmp h1 h2 ha hb hm
theorem dt_cm {op : CmpOp} {f : PyData → PyData → Option Bool} (h : Cm X c op f) (ha : DE X c a m1) (hb : DE X c b m2) (hm : behindInMarks op b = false) : DT X c (.Compare a [op] [b] pos) (lift2 f m1 m2) := by
  obtain ⟨r, h1, h2⟩ := h.ex
  exact dt_cmp h1 h2 ha hb hm
theorem de_chain {op op' : CmpOp} {f f' : PyData → PyData → Option Bool} (h : Cm X c op f) (h' : Cm X c op' f') (ha : DE X c a m1) (hb : DE X c b m2) (hd : DE X c d m3) (hm : lastMarks [op, op'] [b, d] = false) :
    DE X c (.Compare a [op, op'] [b, d] pos) (bD (tChain f f' m1 m2 m3)) := by
  obtain ⟨r, h1, h2⟩ := h.ex
  obtain ⟨r', h1', h2'⟩ := h'.ex
  refine pe_imp (pe_chain h1 h1' ha hb hd hm) fun σ H Q ⟨F, ρ, r, h⟩ => ⟨F, ρ, r, Out.mono (Out.bind (Out.bind h)) (fun x ρ1 q1 v H1 F1 g1 d1 => ⟨F1, ρ1, g1.rp, Out.mono (Out.bind q1) (fun y ρ2 q2 u H2 F2 g2 d2 => ?_) fun e ρ2 q cv dd H2 F2 g2 er => q cv dd H2 F2 (g1.trans g2) er⟩) fun e ρ1 q => q⟩
  obtain ⟨k, e, q3⟩ := Out.of (Out.bind q2)
  refine h2 g2.rp (dp_mono g2.fr d1) d2 e fun H3 F3 g3 => ⟨k, rfl, ?_⟩
  cases k with
  | false =>
    rw [if_neg Bool.false_ne_true] at q3 ⊢
    exact q3 _ H3 F3 ((g1.trans g2).trans g3) (.bl false)
  | true =>
    rw [if_pos rfl] at q3 ⊢
    refine ⟨F3, ρ2, g3.rp, Out.mono (Out.bind q3) (fun z ρ3 q4 w H4 F4 g4 d4 => ?_) fun e ρ2 q cv dd H2 F2 g4 er => q cv dd H2 F2 (((g1.trans g2).trans g3).trans g4) er⟩
    obtain ⟨k2, e2, q5⟩ := Out.of q4
    exact h2' g4.rp (dp_mono (g3.fr.trans g4.fr) d2) d4 e2 fun H5 F5 g5 => q5 _ H5 F5 ((((g1.trans g2).trans g3).trans g4).trans g5) (.bl k2)
theorem dt_chain {op op' : CmpOp} {f f' : PyData → PyData → Option Bool} (h : Cm X c op f) (h' : Cm X c op' f') (ha : DE X c a m1) (hb : DE X c b m2) (hd : DE X c d m3) (hm : lastMarks [op, op'] [b, d] = false) :
    DT X c (.Compare a [op, op'] [b, d] pos) (tChain f f' m1 m2 m3) := by
  obtain ⟨r, h1, h2⟩ := h.ex
  obtain ⟨r', h1', h2'⟩ := h'.ex
  refine pt_imp (pt_chain h1 h1' ha hb hd hm) fun σ H Q ⟨F, ρ, r, h⟩ => ⟨F, ρ, r, Out.mono (Out.bind h) (fun x ρ1 q1 v H1 F1 g1 d1 => ⟨F1, ρ1, g1.rp, Out.mono (Out.bind q1) (fun y ρ2 q2 u H2 F2 g2 d2 => ?_) fun e ρ2 q cv dd H2 F2 g2 er => q cv dd H2 F2 (g1.trans g2) er⟩) fun e ρ1 q => q⟩
  obtain ⟨k, e, q3⟩ := Out.of (Out.bind q2)
  refine h2 g2.rp (dp_mono g2.fr d1) d2 e fun H3 F3 g3 => ⟨k, rfl, ?_⟩
  cases k with
  | false =>
    rw [if_neg Bool.false_ne_true] at q3 ⊢
    exact ⟨false, rfl, q3 _ H3 F3 ((g1.trans g2).trans g3) rfl⟩
  | true =>
    rw [if_pos rfl] at q3 ⊢
    refine ⟨F3, ρ2, g3.rp, Out.mono (Out.bind q3) (fun z ρ3 q4 w H4 F4 g4 d4 => ?_) fun e ρ2 q cv dd H2 F2 g4 er => q cv dd H2 F2 (((g1.trans g2).trans g3).trans g4) er⟩
    obtain ⟨k2, e2, q5⟩ := Out.of q4
    exact h2' g4.rp (dp_mono (g3.fr.trans g4.fr) d2) d4 e2 fun H5 F5 g5 => ⟨k2, rfl, q5 _ H5 F5 ((((g1.trans g2).trans g3).trans g4).trans g5) rfl⟩

/-! ### tests -/
variable {t1 t2 : M Bool} {rest : List Expr}
theorem tb_of {Q : Bool → Hp → Prop} {σ : St} {H : Hp} {m : M PyData} (h : Tr X.kx c RB (DL.tD m) σ H Q) : Tr X.kx c (RD X.kx) m σ H (fun x H1 => ∃ k, x = .bl k ∧ Q k H1) := by
  obtain ⟨F, ρ, r, h⟩ := h
  refine ⟨F, ρ, r, Out.mono (Out.bind h) (fun x ρ1 q v H1 F1 g1 d1 => ?_) fun e ρ1 q => q⟩
  cases x <;> first
    | (cases d1; exact ⟨_, rfl, q _ H1 F1 g1 rfl⟩)
    | exact q.elim
theorem dt_val (h : DE X c a m1) (he : ∀ whole, isTrue a X.env whole = (do let v ← whole; standAt a.pos; holding [v] (truthy v))) : DT X c a (DL.tD m1) := pt_imp (pt_val h he) fun σ H Q q => tb_of q
theorem truV_of {K : Kx} {F H : Hp} {v : V} {x : PyData} {k : Bool} (s : Same F H) (h : Dp K F v x) (e : truD x = some k) : TruV K v H k := by
  cases h with
  | non => exact (Option.some.inj e).symm
  | bl b => exact (Option.some.inj e).symm
  | int i => exact (Option.some.inj e).symm
  | str z =>
    have e' : (if z.length ≤ sizeLine then some ((z.length : Int) != 0) else none) = some k := e
    by_cases hz : z.length ≤ sizeLine
    · rw [if_pos hz] at e'
      exact ⟨hz, (Option.some.inj e').symm⟩
    · rw [if_neg hz] at e'; cases e'
  | lst hs ha =>
    have e' := Option.some.inj e
    refine .inl ⟨_, rd_seq s hs, ?_⟩
    rw [← e']
    cases ha <;> rfl
  | tup hs ha =>
    have e' := Option.some.inj e
    refine .inr (.inl ⟨_, sqT_mono s hs, ?_⟩)
    rw [← e']
    cases ha <;> rfl
theorem dt_tru (h : DE X c a m1) (he : ∀ whole, isTrue a X.env whole = (do let v ← whole; standAt a.pos; holding [v] (truthy v))) : DT X c a (tTru m1) := pt_imp (pt_truth h he) fun σ H Q ⟨F, ρ, r, q⟩ =>
  ⟨F, ρ, r, Out.mono (Out.bind q) (fun x ρ1 q1 v H1 F1 g1 d1 => by
    obtain ⟨k, e, q2⟩ := Out.of q1
    exact ⟨k, truV_of g1.rp.sub d1 e, q2 _ H1 F1 g1 rfl⟩) fun e ρ1 q => q⟩
theorem dt_not (h : DT X c a t1) : DT X c (.UnaryOp .Not a pos) (DL.tNot t1) := pt_imp (pt_not h) fun σ H Q ⟨F, ρ, r, q⟩ =>
  ⟨F, ρ, r, Out.mono (Out.bind q) (fun x ρ1 q1 v H1 F1 g1 d1 => by
    cases d1
    exact q1 _ H1 F1 g1 rfl) fun e ρ1 q => q⟩
theorem dw_and1 (h : DT X c a t1) : DW X c (.BoolOp .And [a] pos) t1 := pw_and1 h
theorem dw_or1 (h : DT X c a t1) : DW X c (.BoolOp .Or [a] pos) t1 := pw_or1 h
theorem dw_and (ha : DT X c a t1) (hb : DW X c (.BoolOp .And (b :: rest) pos) t2) : DW X c (.BoolOp .And (a :: b :: rest) pos) (DL.tAnd t1 t2) := pw_imp (pw_and ha hb) fun σ H Q ⟨F, ρ, r, q⟩ =>
  ⟨F, ρ, r, Out.mono (Out.bind q) (fun x ρ1 q1 v H1 F1 g1 d1 => by
    cases d1
    cases x with
    | true => exact ⟨F1, ρ1, g1.rp, T1.base g1 (fun _ _ _ _ _ _ z => z) q1⟩
    | false => exact q1 _ H1 F1 g1 rfl) fun e ρ1 q => q⟩
theorem dw_or (ha : DT X c a t1) (hb : DW X c (.BoolOp .Or (b :: rest) pos) t2) : DW X c (.BoolOp .Or (a :: b :: rest) pos) (DL.tOr t1 t2) := pw_imp (pw_or ha hb) fun σ H Q ⟨F, ρ, r, q⟩ =>
  ⟨F, ρ, r, Out.mono (Out.bind q) (fun x ρ1 q1 v H1 F1 g1 d1 => by
    cases d1
    cases x with
    | false => exact ⟨F1, ρ1, g1.rp, T1.base g1 (fun _ _ _ _ _ _ z => z) q1⟩
    | true => exact q1 _ H1 F1 g1 rfl) fun e ρ1 q => q⟩
theorem dt_w (h : DW X c a t1) : DT X c a t1 := PW.pt h
theorem de_andV (ha : DE X c a m1) (hb : DE X c (.BoolOp .And (b :: rest) pos) m2) : DE X c (.BoolOp .And (a :: b :: rest) pos) (mAnd m1 m2) := pe_imp (pe_and ha hb) fun σ H Q ⟨F, ρ, r, q⟩ =>
  ⟨F, ρ, r, Out.mono (Out.bind q) (fun x ρ1 q1 v H1 F1 g1 d1 => by
    cases x <;> first
      | (cases d1
         rename_i k
         refine ⟨k, rfl, ?_⟩
         cases k with
         | true => exact ⟨F1, ρ1, g1.rp, T1.base g1 (fun _ _ _ _ _ _ z => z) q1⟩
         | false => exact q1 _ H1 F1 g1 (.bl false))
      | exact q1.elim) fun e ρ1 q => q⟩
theorem de_orV (ha : DE X c a m1) (hb : DE X c (.BoolOp .Or (b :: rest) pos) m2) : DE X c (.BoolOp .Or (a :: b :: rest) pos) (mOr m1 m2) := pe_imp (pe_or ha hb) fun σ H Q ⟨F, ρ, r, q⟩ =>
  ⟨F, ρ, r, Out.mono (Out.bind q) (fun x ρ1 q1 v H1 F1 g1 d1 => by
    cases x <;> first
      | (cases d1
         rename_i k
         refine ⟨k, rfl, ?_⟩
         cases k with
         | false => exact ⟨F1, ρ1, g1.rp, T1.base g1 (fun _ _ _ _ _ _ z => z) q1⟩
         | true => exact q1 _ H1 F1 g1 (.bl true))
      | exact q1.elim) fun e ρ1 q => q⟩
theorem de_one {op} (h : DE X c a m1) : DE X c (.BoolOp op [a] pos) m1 := pe_one h
theorem de_notV (ha : DE X c a m1) : DE X c (.UnaryOp .Not a pos) (mNot m1) := pe_imp (pe_not ha) fun σ H Q ⟨F, ρ, r, q⟩ =>
  ⟨F, ρ, r, Out.mono (Out.bind q) (fun x ρ1 q1 v H1 F1 g1 d1 => by
    cases x <;> first
      | (cases d1; exact ⟨_, rfl, q1 _ H1 F1 g1 (.bl _)⟩)
      | exact q1.elim) fun e ρ1 q => q⟩
theorem rc_base {K : Kx} {P : Pn} {F F1 : Hp} {ρ ρ1 : Sl} {σ σ1 : St} {H H1 : Hp} (g : Go K P ρ σ H F ρ1 σ1 H1 F1) {ρ' : Sl} {σ' : St} {H' F' : Hp} {a : C} {v : V} (r : RC K (Fr ρ1 σ1 H1) ρ' σ' H' F' a v) : RC K (Fr ρ σ H) ρ' σ' H' F' a v := by
  cases a with
  | d x => exact r
  | f x => exact r
  | l x => obtain ⟨p, o, h1, h2, h3⟩ := r; exact ⟨p, o, h1, g.fr0 h2, h3⟩
  | k x => obtain ⟨p, o, h1, h2, h3⟩ := r; exact ⟨p, o, h1, g.fr0 h2, h3⟩
  | t x => obtain ⟨p, o, h1, h2, h3⟩ := r; exact ⟨p, o, h1, g.fr0 h2, h3⟩
theorem de_if (ht : DT X c d t1) (ha : DE X c a m1) (hb : DE X c b m2) : DE X c (.IfExp d a b pos) (mIf t1 m1 m2) := pe_imp (pe_ifExp ht ha hb) fun σ H Q ⟨F, ρ, r, q⟩ =>
  ⟨F, ρ, r, Out.mono (Out.bind q) (fun x ρ1 q1 v H1 F1 g1 d1 => by
    cases d1
    cases x with
    | true => exact ⟨F1, ρ1, g1.rp, T1.base g1 (fun _ _ _ _ _ _ z => z) q1⟩
    | false => exact ⟨F1, ρ1, g1.rp, T1.base g1 (fun _ _ _ _ _ _ z => z) q1⟩) fun e ρ1 q => q⟩
theorem do_if {n1 n2 : M C} (ht : DT X c d t1) (ha : DO X c a n1) (hb : DO X c b n2) : DO X c (.IfExp d a b pos) (mIf t1 n1 n2) := pe_imp (pe_ifExp ht ha hb) fun σ H Q ⟨F, ρ, r, q⟩ =>
  ⟨F, ρ, r, Out.mono (Out.bind q) (fun x ρ1 q1 v H1 F1 g1 d1 => by
    cases d1
    cases x with
    | true => exact ⟨F1, ρ1, g1.rp, T1.base g1 (fun _ _ _ _ _ _ z => rc_base g1 z) q1⟩
    | false => exact ⟨F1, ρ1, g1.rp, T1.base g1 (fun _ _ _ _ _ _ z => rc_base g1 z) q1⟩) fun e ρ1 q => q⟩

/-! ### contents as data, data as contents -/
theorem do_d (h : DE X c a m1) : DO X c a (mDat m1) := pe_imp h fun σ H Q ⟨F, ρ, r, q⟩ => ⟨F, ρ, r, Out.mono (Out.bind q) (fun x ρ1 q1 v H1 F1 g1 d1 => q1 v H1 F1 g1 d1) fun e ρ1 q => q⟩
theorem de_frz {n1 : M C} (h : DO X c a n1) : DE X c a (mFrz n1) := pe_imp h fun σ H Q ⟨F, ρ, r, q⟩ => ⟨F, ρ, r, Out.mono (Out.bind q) (fun x ρ1 q1 v H1 F1 g1 d1 => by
  cases x with
  | d x => exact q1 v H1 F1 g1 d1
  | l xs =>
    obtain ⟨p, o, rfl, h0, hF, hH, ho, no⟩ := d1
    obtain ⟨vs, rfl, h5⟩ := isO_l ho
    exact q1 _ H1 _ (g1.share h0 hH hF no) (.lst (.inl upd_same) (dpAll_mono (same_upd hF) h5))
  | _ => exact q1.elim) fun e ρ1 q => q⟩
end
end DL

set_option Elab.async false
set_option linter.all false
set_option maxRecDepth 100000
set_option maxHeartbeats 2000000
namespace DL
open PySem PySem.Spec PyProof.Rows L2

/-! ### lists of data -/
def RL (K : Kx) : FR → Sl → St → Hp → Hp → List PyData → List V → Prop := fun _ _ _ _ F' ds vs => DpAll K F' vs ds
abbrev DA (X : Cx) (c : Ct) (es : List Expr) (m : M (List PyData)) : Prop := PA X es (Tr X.kx c (RL X.kx) m)
section
variable {X : Cx} {c : Ct} {e a b d : Expr} {es : List Expr} {pos p : Pos} {m1 m2 m3 : M PyData} {ms : List (M PyData)} {x : Str}
theorem da_nil : DA X c [] (mSeq []) := pa_imp pa_nil fun σ H Q ⟨F, ρ, r, h⟩ => h _ H F (Go.refl r) .nil
theorem da_cons (ha : DE X c e m1) (hr : DA X c es (mSeq ms)) (hs : starEach (e :: es) X.env = (false, eval e X.env) :: starEach es X.env := by rfl) : DA X c (e :: es) (mSeq (m1 :: ms)) :=
  pa_imp (pa_cons ha hr hs) fun σ H Q ⟨F, ρ, r, h⟩ => ⟨F, ρ, r, Out.mono (Out.bind h) (fun x ρ1 h1 v H1 F1 g1 d1 => ⟨F1, ρ1, g1.rp, Out.mono (Out.bind h1) (fun ys ρ2 h2 vs H2 F2 g2 d2 =>
    h2 _ H2 F2 (g1.trans g2) (.cons (dp_mono g2.fr d1) d2)) fun e ρ2 q cv dd H2 F2 g2 er => q cv dd H2 F2 (g1.trans g2) er⟩) fun e ρ1 q => q⟩
theorem Out.bind' {α β : Type} {m : M α} {f : α → M β} {ρ : Sl} {P : β → Sl → Prop} {E : Exc → Sl → Prop} (h : Out (m ρ) (fun a ρ1 => Out (f a ρ1) P E) E) : Out (M.bind m f ρ) P E := by
  unfold M.bind
  cases e : m ρ with
  | ok a ρ1 => rw [e] at h; exact h
  | err x ρ1 => rw [e] at h; exact h
  | stuck => rw [e] at h; exact h
theorem mseq_len : ∀ (ms : List (M PyData)) (ρ : Sl) (P : List PyData → Sl → Prop) (E : Exc → Sl → Prop), Out (mSeq ms ρ) P E → Out (mSeq ms ρ) (fun xs ρ' => xs.length = ms.length ∧ P xs ρ') E
  | [], ρ, P, E, h => ⟨rfl, h⟩
  | m :: r, ρ, P, E, h => by
    refine Out.bind' (Out.mono (Out.bind h) (fun a ρ1 h1 => ?_) fun e ρ1 q => q)
    refine Out.bind' (Out.mono (mseq_len r ρ1 _ _ (Out.bind h1)) (fun b ρ2 h2 => ?_) fun e ρ1 q => q)
    exact ⟨by rw [List.length_cons, List.length_cons, h2.1], h2.2⟩
theorem de_tup {x1} (h : DA X c es (mSeq ms)) (hl : ms.length ≤ 1000 := by decide) : DE X c (.Tuple es x1 pos) (mTup ms) := pe_imp (pe_tup h) fun σ H Q ⟨F, ρ, r, q⟩ =>
  ⟨F, ρ, r, Out.mono (mseq_len _ _ _ _ (Out.bind q)) (fun ys ρ1 ⟨l, q1⟩ vs H1 F1 g1 d1 => ⟨by
    rw [dpa_len d1, l]
    exact Nat.le_of_lt (small1000 hl), fun p hp => q1 _ _ _ (g1.trans (Go.data g1.rp hp (.tup vs))) (.tup (.inl (.inl upd_same)) (dpAll_mono (same_upd (g1.rp.free hp)) d1))⟩) fun e ρ1 q => q⟩
theorem do_lst (h : DA X c es (mSeq ms)) (hl : ms.length ≤ 1000 := by decide) : DO X c (.List es pos) (mLst ms) := pe_imp (pe_lst h) fun σ H Q ⟨F, ρ, r, q⟩ =>
  ⟨F, ρ, r, Out.mono (mseq_len _ _ _ _ (Out.bind q)) (fun ys ρ1 ⟨l, q1⟩ vs H1 F1 g1 d1 => ⟨by
    rw [dpa_len d1, l]
    exact Nat.le_of_lt (small1000 hl), fun p hp => q1 _ _ F1 (g1.trans (Go.temp g1.rp hp (.lst vs))) ⟨p, .lst vs, rfl, .inl (g1.back hp), g1.rp.free hp, upd_same, d1, fun z => by
      obtain ⟨_, o, y⟩ := g1.rp.notOwn z
      rw [hp] at y; cases y⟩⟩) fun e ρ1 q => q⟩

/-! ### built-in functions of one and two arguments -/
def CaD (K : Kx) (P : Pn) (r : List V → Hp → VK → Prop) (f : List PyData → Option PyData) : Prop :=
  ∀ {ρ : Sl} {σ : St} {H F : Hp} {vs : List V} {xs : List PyData} {z : PyData} {Q : VK}, Rp K F ρ σ H → DpAll K F vs xs → f xs = some z → (∀ w H' F', Go K P ρ σ H F ρ σ H' F' → Dp K F' w z → Q w H') → r vs H Q
def CaO (K : Kx) (P : Pn) (r : List V → Hp → VK → Prop) (f : List PyData → Option C) : Prop :=
  ∀ {ρ : Sl} {σ : St} {H F : Hp} {vs : List V} {xs : List PyData} {z : C} {Q : VK}, Rp K F ρ σ H → DpAll K F vs xs → f xs = some z → (∀ w H' F', Go K P ρ σ H F ρ σ H' F' → RC K (Fr ρ σ H) ρ σ H' F' z w → Q w H') → r vs H Q
theorem ca_use {r : List V → Hp → VK → Prop} {f : List PyData → Option PyData} {m : M (List PyData)} (hf : CaD X.kx c.P r f) {σ : St} {H : Hp} {Q : VK} (h : Tr X.kx c (RD X.kx) (liftL f m) σ H Q) : Tr X.kx c (RL X.kx) m σ H (fun vs H1 => r vs H1 Q) := by
  obtain ⟨F, ρ, r, q⟩ := h
  refine ⟨F, ρ, r, Out.mono (Out.bind q) (fun ys ρ1 q1 vs H1 F1 g1 d1 => ?_) fun e ρ1 q => q⟩
  obtain ⟨z, e, q2⟩ := Out.of q1
  exact hf g1.rp d1 e fun w H' F' g' d' => q2 w H' F' (g1.trans g') d'
theorem co_use {r : List V → Hp → VK → Prop} {f : List PyData → Option C} {m : M (List PyData)} (hf : CaO X.kx c.P r f) {σ : St} {H : Hp} {Q : VK} (h : Tr X.kx c (RC X.kx) (liftL f m) σ H Q) : Tr X.kx c (RL X.kx) m σ H (fun vs H1 => r vs H1 Q) := by
  obtain ⟨F, ρ, r, q⟩ := h
  refine ⟨F, ρ, r, Out.mono (Out.bind q) (fun ys ρ1 q1 vs H1 F1 g1 d1 => ?_) fun e ρ1 q => q⟩
  obtain ⟨z, e, q2⟩ := Out.of q1
  exact hf g1.rp d1 e fun w H' F' g' d' => q2 w H' F' (g1.trans g') (rc_base g1 d')
theorem de_callB {id : String} {r : List V → Hp → VK → Prop} {f : List PyData → Option PyData} {m : M (List PyData)} (hc : CallR X (.builtin id) r) (hf : CaD X.kx c.P r f) (hg : Gl X x) (hm : X.mg x = none) (hv : bootBuiltins x = some (.builtin id)) (ha : DA X c (e :: es) m)
    (hn : x ≠ "__name__" := by decide) (hdb : (x == ("__debug__" : Str)) = false := by decide) (he : starEach (e :: es) X.env = (false, eval e X.env) :: starEach es X.env := by rfl) (hpl : (backTo pos (starEach es X.env)).any (·.1) = false := by rfl) :
    DE X c (.Call (.Name x p) (e :: es) [] pos) (liftL f m) := pe_imp (pe_callB hc hg hm hv ha hn hdb he hpl) fun σ H Q q => ca_use hf q
theorem de_callTy {id : String} {r : List V → Hp → VK → Prop} {f : List PyData → Option PyData} {m : M (List PyData)} (hc : CallR X (.type id) r) (hf : CaD X.kx c.P r f) (hg : Gl X x) (hm : X.mg x = none) (hv : bootBuiltins x = some (.type id)) (ha : DA X c (e :: es) m)
    (hn : x ≠ "__name__" := by decide) (hdb : (x == ("__debug__" : Str)) = false := by decide) (he : starEach (e :: es) X.env = (false, eval e X.env) :: starEach es X.env := by rfl) (hpl : (backTo pos (starEach es X.env)).any (·.1) = false := by rfl) :
    DE X c (.Call (.Name x p) (e :: es) [] pos) (liftL f m) := pe_imp (pe_callTy hc hg hm hv ha hn hdb he hpl) fun σ H Q q => ca_use hf q
theorem do_callTy {id : String} {r : List V → Hp → VK → Prop} {f : List PyData → Option C} {m : M (List PyData)} (hc : CallR X (.type id) r) (hf : CaO X.kx c.P r f) (hg : Gl X x) (hm : X.mg x = none) (hv : bootBuiltins x = some (.type id)) (ha : DA X c (e :: es) m)
    (hn : x ≠ "__name__" := by decide) (hdb : (x == ("__debug__" : Str)) = false := by decide) (he : starEach (e :: es) X.env = (false, eval e X.env) :: starEach es X.env := by rfl) (hpl : (backTo pos (starEach es X.env)).any (·.1) = false := by rfl) :
    DO X c (.Call (.Name x p) (e :: es) [] pos) (liftL f m) := pe_imp (pe_callTy hc hg hm hv ha hn hdb he hpl) fun σ H Q q => co_use hf q
/-- one, two arguments -/
theorem on1_some {α : Type} {f : PyData → Option α} {xs : List PyData} {z : α} (h : on1 f xs = some z) : ∃ x, xs = [x] ∧ f x = some z := by
  match xs, h with
  | [x], h => exact ⟨x, rfl, h⟩
theorem on2_some {α : Type} {f : PyData → PyData → Option α} {xs : List PyData} {z : α} (h : on2 f xs = some z) : ∃ x y, xs = [x, y] ∧ f x y = some z := by
  match xs, h with
  | [x, y], h => exact ⟨x, y, rfl, h⟩
theorem dpa_1 {K : Kx} {F : Hp} {vs : List V} {x : PyData} (h : DpAll K F vs [x]) : ∃ v, vs = [v] ∧ Dp K F v x := by
  cases h with
  | cons h t => cases t; exact ⟨_, rfl, h⟩
theorem dpa_2 {K : Kx} {F : Hp} {vs : List V} {x y : PyData} (h : DpAll K F vs [x, y]) : ∃ v u, vs = [v, u] ∧ Dp K F v x ∧ Dp K F u y := by
  cases h with
  | cons h t =>
    obtain ⟨u, rfl, h2⟩ := dpa_1 t
    exact ⟨_, u, rfl, h, h2⟩
theorem ca_abs {K : Kx} {P : Pn} : CaD K P (fun xs H Q => ∃ i, xs = [.int i] ∧ Q (.int (if i < 0 then -i else i)) H) (on1 oAbs) := fun {ρ σ H F vs xs z Q} r d e q => by
  obtain ⟨x, rfl, e⟩ := on1_some e
  obtain ⟨v, rfl, d0⟩ := dpa_1 d
  cases x <;> first
    | (cases e; cases d0; exact ⟨_, rfl, q _ H F (Go.refl r) (.int _)⟩)
    | cases e
theorem ca_max2 {K : Kx} {P : Pn} : CaD K P (fun xs H Q => ∃ i j, xs = [.int i, .int j] ∧ Q (.int (if j > i then j else i)) H) (on2 oMax) := fun {ρ σ H F vs xs z Q} r d e q => by
  obtain ⟨x, y, rfl, e⟩ := on2_some e
  obtain ⟨v, u, rfl, d1, d2⟩ := dpa_2 d
  cases x <;> first
    | (cases y <;> first
        | (cases e; cases d1; cases d2; exact ⟨_, _, rfl, q _ H F (Go.refl r) (.int _)⟩)
        | cases e)
    | cases e
theorem ca_min2 {K : Kx} {P : Pn} : CaD K P (fun xs H Q => ∃ i j, xs = [.int i, .int j] ∧ Q (.int (if j < i then j else i)) H) (on2 oMin) := fun {ρ σ H F vs xs z Q} r d e q => by
  obtain ⟨x, y, rfl, e⟩ := on2_some e
  obtain ⟨v, u, rfl, d1, d2⟩ := dpa_2 d
  cases x <;> first
    | (cases y <;> first
        | (cases e; cases d1; cases d2; exact ⟨_, _, rfl, q _ H F (Go.refl r) (.int _)⟩)
        | cases e)
    | cases e
theorem ca_int {K : Kx} {P : Pn} : CaD K P (fun xs H Q => (∃ i, xs = [.int i] ∧ Q (.int i) H) ∨ ∃ k, xs = [.bl k] ∧ Q (.int (if k then 1 else 0)) H) (on1 oInt) := fun {ρ σ H F vs xs z Q} r d e q => by
  obtain ⟨x, rfl, e⟩ := on1_some e
  obtain ⟨v, rfl, d0⟩ := dpa_1 d
  cases x with
  | int i => cases e; cases d0; exact .inl ⟨_, rfl, q _ H F (Go.refl r) (.int _)⟩
  | bool i => cases e; cases d0; exact .inr ⟨_, rfl, q _ H F (Go.refl r) (.int _)⟩
  | _ => cases e
theorem ca_len {K : Kx} {P : Pn} : CaD K P (fun xs H Q => ∃ x n, xs = [x] ∧ LenV K x H n ∧ Q (.int n) H) (on1 oLen) := fun {ρ σ H F vs xs z Q} r d e q => by
  obtain ⟨x, rfl, e⟩ := on1_some e
  obtain ⟨v, rfl, d0⟩ := dpa_1 d
  cases d0 with
  | lst hs ha => cases e; exact ⟨_, _, rfl, .inl ⟨_, rd_seq r.sub hs, rfl⟩, by rw [dpa_len ha]; exact q _ H F (Go.refl r) (.int _)⟩
  | tup hs ha => cases e; exact ⟨_, _, rfl, .inr ⟨_, sqT_mono r.sub hs, rfl⟩, by rw [dpa_len ha]; exact q _ H F (Go.refl r) (.int _)⟩
  | str s =>
    have e' : (if s.length ≤ sizeLine then some (PyData.int s.length) else none) = some z := e
    by_cases hz : s.length ≤ sizeLine
    · rw [if_pos hz] at e'
      cases e'
      exact ⟨_, _, rfl, ⟨hz, rfl⟩, q _ H F (Go.refl r) (.int _)⟩
    · rw [if_neg hz] at e'; cases e'
  | _ => cases e
theorem bools_of {K : Kx} {F : Hp} : ∀ {vs : List V} {xs : List PyData} {bs : List Bool}, DpAll K F vs xs → boolsD xs = some bs → vs = bs.map V.bl
  | _, _, bs, .nil, e => by cases e; rfl
  | v :: vs, x :: xs, bs, .cons h t, e => by
    cases h with
    | bl b =>
      have e' : (boolsD xs).map (fun t => b :: t) = some bs := e
      obtain ⟨t', e1, rfl⟩ := Option.map_eq_some_iff.mp e'
      rw [bools_of t e1] <;> rfl
    | _ => cases e
theorem ints_ofD {K : Kx} {F : Hp} : ∀ {vs : List V} {xs : List PyData} {bs : List Int}, DpAll K F vs xs → intsD xs = some bs → vs = bs.map V.int
  | _, _, bs, .nil, e => by cases e; rfl
  | v :: vs, x :: xs, bs, .cons h t, e => by
    cases h with
    | int b =>
      have e' : (intsD xs).map (fun t => b :: t) = some bs := e
      obtain ⟨t', e1, rfl⟩ := Option.map_eq_some_iff.mp e'
      rw [ints_ofD t e1] <;> rfl
    | _ => cases e
theorem ca_all {K : Kx} {P : Pn} : CaD K P (rAll K) (on1 oAll) := fun {ρ σ H F vs xs z Q} r d e q => by
  obtain ⟨x, rfl, e⟩ := on1_some e
  obtain ⟨v, rfl, d0⟩ := dpa_1 d
  cases d0 with
  | lst hs ha =>
    rename_i a ws ys e0
    have e' : (boolsD ys).map (fun bs => PyData.bool (bs.all id)) = some z := e
    obtain ⟨bs, e1, rfl⟩ := Option.map_eq_some_iff.mp e'
    have e2 := bools_of ha e1
    subst e2
    exact ⟨a, bs, rfl, rd_seq r.sub hs, q _ H F (Go.refl r) (.bl _)⟩
  | _ => cases e
theorem ca_any {K : Kx} {P : Pn} : CaD K P (rAny K) (on1 oAny) := fun {ρ σ H F vs xs z Q} r d e q => by
  obtain ⟨x, rfl, e⟩ := on1_some e
  obtain ⟨v, rfl, d0⟩ := dpa_1 d
  cases d0 with
  | lst hs ha =>
    rename_i a ws ys e0
    have e' : (boolsD ys).map (fun bs => PyData.bool (bs.any id)) = some z := e
    obtain ⟨bs, e1, rfl⟩ := Option.map_eq_some_iff.mp e'
    have e2 := bools_of ha e1
    subst e2
    exact ⟨a, bs, rfl, rd_seq r.sub hs, q _ H F (Go.refl r) (.bl _)⟩
  | _ => cases e
theorem no_own {K : Kx} {F : Hp} {ρ : Sl} {σ : St} {H : Hp} (r : Rp K F ρ σ H) {p : Addr} (h : H p = none) : ¬ Own ρ σ p := fun z => by
  obtain ⟨_, o, y⟩ := r.notOwn z
  rw [h] at y; cases y
theorem co_list {K : Kx} {P : Pn} : CaO K P (fun xs H Q => ∃ p ys, xs = [.ref p] ∧ (SqL K H p ys ∨ SqT K H p ys) ∧ ∀ l, H l = none → Q (.ref l) (upd H l (.lst ys))) (on1 oListC) := fun {ρ σ H F vs xs z Q} r d e q => by
  obtain ⟨x, rfl, e⟩ := on1_some e
  obtain ⟨v, rfl, d0⟩ := dpa_1 d
  cases d0 with
  | lst hs ha => cases e; exact ⟨_, _, rfl, .inl (rd_seq r.sub hs), fun l hl => q _ _ F (Go.temp r hl _) ⟨l, _, rfl, .inl hl, r.free hl, upd_same, ha, no_own r hl⟩⟩
  | tup hs ha => cases e; exact ⟨_, _, rfl, .inr (sqT_mono r.sub hs), fun l hl => q _ _ F (Go.temp r hl _) ⟨l, _, rfl, .inl hl, r.free hl, upd_same, ha, no_own r hl⟩⟩
  | _ => cases e
theorem ca_tuple {K : Kx} {P : Pn} : CaD K P (fun xs H Q => ∃ p ys, xs = [.ref p] ∧ ((SqL K H p ys ∧ ∀ l, H l = none → Q (.ref l) (upd H l (.tup ys))) ∨ (SqT K H p ys ∧ Q (.ref p) H))) (on1 oTuple) := fun {ρ σ H F vs xs z Q} r d e q => by
  obtain ⟨x, rfl, e⟩ := on1_some e
  obtain ⟨v, rfl, d0⟩ := dpa_1 d
  cases d0 with
  | lst hs ha => cases e; exact ⟨_, _, rfl, .inl ⟨rd_seq r.sub hs, fun l hl => q _ _ _ (Go.data r hl _) (.tup (.inl (.inl upd_same)) (dpAll_mono (same_upd (r.free hl)) ha))⟩⟩
  | tup hs ha => cases e; exact ⟨_, _, rfl, .inr ⟨sqT_mono r.sub hs, q _ H F (Go.refl r) (.tup hs ha)⟩⟩
  | _ => cases e
/-! ### isinstance -/
def tyN : Ty → String
  | .int => "int" | .bool => "bool" | .str => "str" | .list => "list" | .tuple => "tuple"
def dTy : PyData → String
  | .none => "NoneType" | .bool _ => "bool" | .int _ => "int" | .str _ => "str" | .list _ => "list" | .tuple _ => "tuple" | .dict _ => "dict"
theorem tyX_of {K : Kx} {F : Hp} {v : V} {x : PyData} (h : Dp K F v x) : TyX K F v (.type (dTy x)) := by
  cases h with
  | non => exact .base .non
  | bl b => exact .base (.bl b)
  | int i => exact .base (.int i)
  | str x => exact .base (.str x)
  | lst hs ha =>
    rcases hs with h | ⟨o, h⟩
    · exact .base (.lst h)
    · exact .base (.frz h)
  | tup hs ha =>
    rcases hs with (h | ⟨o, h⟩) | ⟨o, its, n, h1, h2, _⟩
    · exact .base (.tup h)
    · exact .fTuple h
    · exact .kTuple h1 h2
theorem tyX_mono {K : Kx} {F H : Hp} (s : Same F H) {v : V} {x : PyData} (h : Dp K F v x) : TyX K H v (.type (dTy x)) := tyX_of (dp_mono s h)
theorem kitB_ty (t : Ty) (x : PyData) (h : ∀ kvs, x ≠ .dict kvs) : kitB (dTy x) (tyN t) = some (isTy t x) := by
  cases x with
  | dict kvs => exact absurd rfl (h kvs)
  | none => cases t <;> (show kitB _ _ = _; decide +kernel)
  | bool b => cases t <;> (show kitB "bool" _ = some _; first | (show _ = some true; decide +kernel) | (show _ = some false; decide +kernel))
  | int b => cases t <;> (show kitB "int" _ = some _; first | (show _ = some true; decide +kernel) | (show _ = some false; decide +kernel))
  | str b => cases t <;> (show kitB "str" _ = some _; first | (show _ = some true; decide +kernel) | (show _ = some false; decide +kernel))
  | list b => cases t <;> (show kitB "list" _ = some _; first | (show _ = some true; decide +kernel) | (show _ = some false; decide +kernel))
  | tuple b => cases t <;> (show kitB "tuple" _ = some _; first | (show _ = some true; decide +kernel) | (show _ = some false; decide +kernel))
theorem oIsi_some {t : Ty} {x z : PyData} (h : oIsi t x = some z) : (∀ kvs, x ≠ .dict kvs) ∧ z = .bool (isTy t x) := by
  cases x with
  | dict kvs => cases h
  | _ => exact ⟨fun _ e => (by cases e), (Option.some.inj h).symm⟩
/-- isinstance(e, T) -/
theorem de_isi {t : Ty} {y : Str} {p1 p2 : Pos} (hg : Gl X "isinstance") (hm : X.mg "isinstance" = none) (gy : Gl X y) (my : X.mg y = none) (vy : bootBuiltins y = some (.type (tyN t))) (ha : DE X c a m1)
    (hv : bootBuiltins "isinstance" = some (.builtin "isinstance") := by decide +kernel) (ny : y ≠ "__name__" := by decide) (dy : (y == ("__debug__" : Str)) = false := by decide)
    (he : starEach [a, .Name y p1] X.env = (false, eval a X.env) :: starEach [.Name y p1] X.env := by rfl) (he2 : starEach [.Name y p1] X.env = (false, eval (.Name y p1) X.env) :: starEach [] X.env := by rfl) (hpl : (backTo pos (starEach [.Name y p1] X.env)).any (·.1) = false := by rfl) :
    DE X c (.Call (.Name "isinstance" p2) [a, .Name y p1] [] pos) (lift1 (oIsi t) m1) :=
  pe_imp (pe_callB call_isi hg hm hv (pa_cons ha (pa_cons (pe_bltn (v := .ty (tyN t)) gy my vy rfl ny dy) pa_nil he2) he) (by decide) (by decide) he hpl) fun σ H Q ⟨F, ρ, r, q⟩ =>
    ⟨F, ρ, r, Out.mono (Out.bind q) (fun x ρ1 q1 v H1 F1 g1 d1 => by
      obtain ⟨z, e, q2⟩ := Out.of q1
      obtain ⟨nd, rfl⟩ := oIsi_some e
      exact ⟨v, .ty (tyN t), _, _, isTy t x, rfl, .ty _, tyX_mono g1.rp.sub d1, kit_ty (kitB_ty t x nd), q2 _ H1 F1 g1 (.bl _)⟩) fun e ρ1 q => q⟩
/-- isinstance(e, (T, U)) -/
theorem de_isi2 {t u : Ty} {y w : Str} {p1 p2 p3 p4 : Pos} {k : Nat} (hg : Gl X "isinstance") (hm : X.mg "isinstance" = none) (gy : Gl X y) (my : X.mg y = none) (vy : bootBuiltins y = some (.type (tyN t))) (gw : Gl X w) (mw : X.mg w = none) (vw : bootBuiltins w = some (.type (tyN u))) (ha : DE X c a m1)
    (hv : bootBuiltins "isinstance" = some (.builtin "isinstance") := by decide +kernel) (ny : y ≠ "__name__" := by decide) (dy : (y == ("__debug__" : Str)) = false := by decide) (nw : w ≠ "__name__" := by decide) (dw : (w == ("__debug__" : Str)) = false := by decide)
    (he : starEach [a, .Tuple [.Name y p1, .Name w p3] k p4] X.env = (false, eval a X.env) :: starEach [.Tuple [.Name y p1, .Name w p3] k p4] X.env := by rfl) (he2 : starEach [.Tuple [.Name y p1, .Name w p3] k p4] X.env = (false, eval (.Tuple [.Name y p1, .Name w p3] k p4) X.env) :: starEach [] X.env := by rfl)
    (he3 : starEach [.Name y p1, .Name w p3] X.env = (false, eval (.Name y p1) X.env) :: starEach [.Name w p3] X.env := by rfl) (he4 : starEach [.Name w p3] X.env = (false, eval (.Name w p3) X.env) :: starEach [] X.env := by rfl)
    (hpl : (backTo pos (starEach [.Tuple [.Name y p1, .Name w p3] k p4] X.env)).any (·.1) = false := by rfl) :
    DE X c (.Call (.Name "isinstance" p2) [a, .Tuple [.Name y p1, .Name w p3] k p4] [] pos) (lift1 (oIsi2 t u) m1) :=
  pe_imp (pe_callB call_isiT hg hm hv (pa_cons ha (pa_cons (pe_tup (pa_cons (pe_bltn (v := .ty (tyN t)) gy my vy rfl ny dy) (pa_cons (pe_bltn (v := .ty (tyN u)) gw mw vw rfl nw dw) pa_nil he4) he3)) pa_nil he2) he) (by decide) (by decide) he hpl) fun σ H Q ⟨F, ρ, r, q⟩ =>
    ⟨F, ρ, r, Out.mono (Out.bind q) (fun x ρ1 q1 v H1 F1 g1 d1 => by
      obtain ⟨z, e, q2⟩ := Out.of q1
      have nd : (∀ kvs, x ≠ .dict kvs) ∧ z = .bool (isTy t x || isTy u x) := by
        cases x with
        | dict kvs => cases e
        | _ => exact ⟨fun _ e => (by cases e), (Option.some.inj e).symm⟩
      obtain ⟨nd, rfl⟩ := nd
      refine ⟨by show 2 ≤ sizeLine; decide, fun tp hp => ?_⟩
      refine ⟨v, tp, [.ty (tyN t), .ty (tyN u)], .type (dTy x), [.type (tyN t), .type (tyN u)], isTy t x || isTy u x, rfl, upd_same, .cons (.ty _) (.cons (.ty _) .nil), tyX_mono (g1.rp.sub.trans (same_upd hp)) d1, ?_, q2 _ _ _ (g1.trans (Go.data g1.rp hp _)) (.bl _)⟩
      refine kitAny_cons (kit_ty (kitB_ty t x nd)) (fun hb => ?_) (fun hb => by rw [hb] <;> rfl)
      rw [hb, Bool.false_or]
      exact kitAny_cons (kit_ty (kitB_ty u x nd)) (fun hb => by rw [hb]; rfl) (fun hb => hb)) fun e ρ1 q => q⟩
/-! ### items -/
theorem atI_dpa {K : Kx} {F : Hp} {vs : List V} {ds : List PyData} {i : Int} {d : PyData} (h : DpAll K F vs ds) (e : atI ds i = some d) : ∃ v, atI vs i = some v ∧ Dp K F v d := by
  unfold atI at e ⊢
  rw [dpa_len h]
  cases z : ixN ds.length i with
  | none => rw [z] at e; cases e
  | some j =>
    rw [z] at e
    obtain ⟨v, h1, h2⟩ := dpa_at h (show ds[j]? = some d from e)
    exact ⟨v, h1, h2⟩
theorem os_ix {K : Kx} {P : Pn} : OpD K P (rIx K) oIx := fun {ρ σ H F v u x y z Q} r hx hy e q => by
  cases y with
  | int i =>
    cases hy
    cases hx with
    | lst hs ha =>
      obtain ⟨w, h1, h2⟩ := atI_dpa ha (show atI _ i = some z from e)
      exact .inl ⟨_, _, i, w, rfl, rfl, rd_seq r.sub hs, h1, q w H F (Go.refl r) h2⟩
    | tup hs ha =>
      obtain ⟨w, h1, h2⟩ := atI_dpa ha (show atI _ i = some z from e)
      exact .inr (.inl ⟨_, _, i, w, rfl, rfl, sqT_mono r.sub hs, h1, q w H F (Go.refl r) h2⟩)
    | str s =>
      have e' : (if s.length ≤ sizeLine then (atI s.cps.toList i).map (fun c => PyData.str ⟨#[c]⟩) else none) = some z := e
      by_cases hz : s.length ≤ sizeLine
      · rw [if_pos hz] at e'
        obtain ⟨c, e1, rfl⟩ := Option.map_eq_some_iff.mp e'
        exact .inr (.inr ⟨s, i, c, rfl, rfl, hz, e1, q _ H F (Go.refl r) (.str _)⟩)
      · rw [if_neg hz] at e'; cases e'
    | _ => cases e
  | _ => cases x <;> cases e
theorem de_ix (ha : DE X c a m1) (hb : DE X c b m2) (hs : PlainIx b) : DE X c (.Subscript a b pos) (lift2 oIx m1 m2) :=
  pe_imp (pe_ix ix_seq ha hb hs) fun σ H Q ⟨F, ρ, r, h⟩ => ⟨F, ρ, r, Out.mono (Out.bind h) (fun x ρ1 h1 v H1 F1 g1 d1 => ⟨F1, ρ1, g1.rp, Out.mono (Out.bind h1) (fun y ρ2 h2 u H2 F2 g2 d2 => by
    obtain ⟨z, e, q⟩ := Out.of h2
    exact os_ix (P := c.P) g2.rp (dp_mono g2.fr d1) d2 e fun w H' F' g3 d3 => q w H' F' ((g1.trans g2).trans g3) d3) fun e ρ2 q cv dd H2 F2 g2 er => q cv dd H2 F2 (g1.trans g2) er⟩) fun e ρ1 q => q⟩
end
end DL

set_option Elab.async false
set_option linter.all false
set_option maxRecDepth 100000
set_option maxHeartbeats 2000000
namespace DL
open PySem PySem.Spec PyProof.Rows L2

/-! ### arguments -/
def RA1 (K : Kx) (σ : St) (F' : Hp) : Av → V → Prop
  | .d x, v => Dp K F' v x
  | .f x, v => ∃ a, K.mg x = some (.ref a) ∧ v = .ref a
  | .v i, v => σ[i]? = some (some v)
inductive RAs (K : Kx) (σ : St) (F' : Hp) : List Av → List V → Prop where
  | nil : RAs K σ F' [] []
  | cons {a v as vs} (h : RA1 K σ F' a v) (t : RAs K σ F' as vs) : RAs K σ F' (a :: as) (v :: vs)
theorem ra1_mono {K : Kx} {σ : St} {F F' : Hp} (e : Same F F') {a : Av} {v : V} (h : RA1 K σ F a v) : RA1 K σ F' a v := by
  cases a with
  | d x => exact dp_mono e h
  | f x => exact h
  | v i => exact h
theorem ras_mono {K : Kx} {σ : St} {F F' : Hp} (e : Same F F') {as : List Av} {vs : List V} (h : RAs K σ F as vs) : RAs K σ F' as vs := by
  induction h with
  | nil => exact .nil
  | cons h t ih => exact .cons (ra1_mono e h) ih
theorem ras_len {K : Kx} {σ : St} {F : Hp} {as : List Av} {vs : List V} (h : RAs K σ F as vs) : as.length = vs.length := by
  induction h with
  | nil => rfl
  | cons h t ih => rw [List.length_cons, List.length_cons, ih]
theorem ras_at {K : Kx} {σ : St} {F : Hp} {as : List Av} {vs : List V} (h : RAs K σ F as vs) : ∀ {j : Nat} {a : Av}, as[j]? = some a → ∃ v, vs[j]? = some v ∧ RA1 K σ F a v := by
  induction h with
  | nil => intro j a e; simp at e
  | cons h t ih =>
    intro j a e
    cases j with
    | zero => simp at e; subst e; exact ⟨_, rfl, h⟩
    | succ j =>
      obtain ⟨v, h1, h2⟩ := ih (j := j) (a := a) (by simpa using e)
      exact ⟨v, by simpa using h1, h2⟩
def RA (K : Kx) : FR → Sl → St → Hp → Hp → List Av → List V → Prop := fun _ _ σ _ F' as vs => RAs K σ F' as vs
def RA0 (K : Kx) : FR → Sl → St → Hp → Hp → Av → V → Prop := fun _ _ σ _ F' a v => RA1 K σ F' a v
abbrev DAr (X : Cx) (c : Ct) (es : List Expr) (m : M (List Av)) : Prop := PA X es (Tr X.kx c (RA X.kx) m)
abbrev D1 (X : Cx) (c : Ct) (e : Expr) (m : M Av) : Prop := PE X e (Tr X.kx c (RA0 X.kx) m)
section
variable {X : Cx} {c : Ct} {e : Expr} {es : List Expr} {m1 : M PyData} {n1 : M C} {a1 : M Av} {ms : List (M Av)}
theorem ag_d (h : DE X c e m1) : D1 X c e (agD m1) := pe_imp h fun σ H Q ⟨F, ρ, r, q⟩ => ⟨F, ρ, r, Out.mono (Out.bind q) (fun x ρ1 q1 v H1 F1 g1 d1 => q1 v H1 F1 g1 d1) fun e ρ1 q => q⟩
theorem ag_f (h : DO X c e n1) : D1 X c e (agF n1) := pe_imp h fun σ H Q ⟨F, ρ, r, q⟩ => ⟨F, ρ, r, Out.mono (Out.bind q) (fun x ρ1 q1 v H1 F1 g1 d1 => by
  cases x with
  | d x => exact q1 v H1 F1 g1 d1
  | f x => exact q1 v H1 F1 g1 d1
  | _ => exact q1.elim) fun e ρ1 q => q⟩
theorem ag_v {i : Nat} (h : PE X e (L2.tVar i)) : D1 X c e (agV i) := pe_imp h fun σ H Q ⟨F, ρ, r, h⟩ => by
  unfold T1 agV at h
  cases z : ρ[i]? with
  | none => rw [z] at h; exact h.elim
  | some o =>
    cases o with
    | none => rw [z] at h; exact h.elim
    | some k =>
      have own : k.own = true → Out (Res.ok (Av.v i) ρ) (fun a ρ' => ∀ v H' F', Go X.kx c.P ρ σ H F ρ' σ H' F' → RA0 X.kx (Fr ρ σ H) ρ' σ H' F' a v → Q v H') (fun e ρ' => ∀ cv dd H' F', Go X.kx c.P ρ σ H F ρ' σ H' F' → c.ER e cv dd H' → c.W cv dd σ H') → tVar i σ H Q := fun hk q => by
        obtain ⟨a, o, h1, _⟩ := r.own i k z hk
        exact ⟨_, h1, q (.ref a) H F (Go.refl r) h1⟩
      cases k with
      | d x =>
        rw [z] at h
        obtain ⟨v, h1, h2⟩ := r.dat i x z
        exact ⟨v, h1, h v H F (Go.refl r) h2⟩
      | f x =>
        rw [z] at h
        obtain ⟨a, h1, h2⟩ := r.fn i x z
        exact ⟨_, h2, h (.ref a) H F (Go.refl r) ⟨a, h1, rfl⟩⟩
      | l x => rw [z] at h; exact own rfl h
      | k x => rw [z] at h; exact own rfl h
      | t x => rw [z] at h; exact own rfl h
theorem dr_nil : DAr X c [] (mSeqA []) := pa_imp pa_nil fun σ H Q ⟨F, ρ, r, h⟩ => h _ H F (Go.refl r) .nil
theorem dr_cons (ha : D1 X c e a1) (hr : DAr X c es (mSeqA ms)) (hs : starEach (e :: es) X.env = (false, eval e X.env) :: starEach es X.env := by rfl) : DAr X c (e :: es) (mSeqA (a1 :: ms)) :=
  pa_imp (pa_cons ha hr hs) fun σ H Q ⟨F, ρ, r, h⟩ => ⟨F, ρ, r, Out.mono (Out.bind h) (fun x ρ1 h1 v H1 F1 g1 d1 => ⟨F1, ρ1, g1.rp, Out.mono (Out.bind h1) (fun ys ρ2 h2 vs H2 F2 g2 d2 =>
    h2 _ H2 F2 (g1.trans g2) (.cons (ra1_mono g2.fr d1) d2)) fun e ρ2 q cv dd H2 F2 g2 er => q cv dd H2 F2 (g1.trans g2) er⟩) fun e ρ1 q => q⟩
end
/-! ### the slots of the arguments -/
theorem mem_slA {i : Nat} : ∀ {as : List Av}, i ∈ slA as ↔ ∃ j : Nat, as[j]? = some (Av.v i)
  | [] => by simp [slA]
  | a :: as => by
    have ih := mem_slA (i := i) (as := as)
    constructor
    · intro h
      cases a with
      | v k =>
        rcases List.mem_cons.mp (show i ∈ k :: slA as from h) with e | h
        · exact ⟨0, by rw [e]; rfl⟩
        · obtain ⟨j, q⟩ := ih.mp h; exact ⟨j + 1, by simpa using q⟩
      | d x => obtain ⟨j, q⟩ := ih.mp h; exact ⟨j + 1, by simpa using q⟩
      | f x => obtain ⟨j, q⟩ := ih.mp h; exact ⟨j + 1, by simpa using q⟩
    · rintro ⟨j, q⟩
      cases j with
      | zero =>
        simp at q
        subst q
        exact List.mem_cons_self
      | succ j =>
        have := ih.mpr ⟨j, by simpa using q⟩
        cases a with
        | v k => exact List.mem_cons_of_mem _ this
        | d x => exact this
        | f x => exact this
theorem slA_one {i : Nat} : ∀ {as : List Av} {j k : Nat}, (slA as).Nodup → as[j]? = some (Av.v i) → as[k]? = some (Av.v i) → j = k
  | [], j, k, _, h, _ => by simp at h
  | a :: as, 0, 0, _, _, _ => rfl
  | a :: as, 0, k + 1, nd, h1, h2 => by
    simp at h1; subst h1
    exact absurd (mem_slA.mpr ⟨k, by simpa using h2⟩) (List.nodup_cons.mp (show (i :: slA as).Nodup from nd)).1
  | a :: as, j + 1, 0, nd, h1, h2 => by
    simp at h2; subst h2
    exact absurd (mem_slA.mpr ⟨j, by simpa using h1⟩) (List.nodup_cons.mp (show (i :: slA as).Nodup from nd)).1
  | a :: as, j + 1, k + 1, nd, h1, h2 => by
    have nd' : (slA as).Nodup := by
      cases a with
      | v k => exact (List.nodup_cons.mp (show (k :: slA as).Nodup from nd)).2
      | d x => exact nd
      | f x => exact nd
    exact congrArg Nat.succ (slA_one (i := i) (as := as) nd' (by simpa using h1) (by simpa using h2))
theorem wrA_len : ∀ (as : List Av) (cs ρ : Sl), (wrA as cs ρ).length = ρ.length
  | [], _, _ => rfl
  | .v i :: as, [], ρ => rfl
  | .d i :: as, [], ρ => rfl
  | .f i :: as, [], ρ => rfl
  | .v i :: as, c :: cs, ρ => by show (wrA as cs (ρ.set i c)).length = _; rw [wrA_len, List.length_set]
  | .d i :: as, c :: cs, ρ => wrA_len as cs ρ
  | .f i :: as, c :: cs, ρ => wrA_len as cs ρ
theorem wrA_out {i : Nat} : ∀ {as : List Av} {cs ρ : Sl}, i ∉ slA as → (wrA as cs ρ)[i]? = ρ[i]?
  | [], _, _, _ => rfl
  | .v k :: as, [], ρ, _ => rfl
  | .d k :: as, [], ρ, _ => rfl
  | .f k :: as, [], ρ, _ => rfl
  | .v k :: as, c :: cs, ρ, h => by
    have h' : i ∉ k :: slA as := h
    rw [List.mem_cons, not_or] at h'
    show (wrA as cs (ρ.set k c))[i]? = _
    rw [wrA_out h'.2, List.getElem?_set_ne (Ne.symm h'.1)]
  | .d k :: as, c :: cs, ρ, h => wrA_out (as := as) h
  | .f k :: as, c :: cs, ρ, h => wrA_out (as := as) h
theorem wrA_in {i : Nat} : ∀ {as : List Av} {cs ρ : Sl} {j : Nat} {c : Option C}, (slA as).Nodup → as[j]? = some (Av.v i) → cs[j]? = some c → i < ρ.length → (wrA as cs ρ)[i]? = some c
  | [], _, _, j, _, _, h, _, _ => by simp at h
  | _ :: _, [], _, j, _, _, _, h, _ => by simp at h
  | a :: as, c0 :: cs, ρ, 0, c, nd, h1, h2, hi => by
    simp at h1 h2
    subst h1
    subst h2
    show (wrA as cs (ρ.set i c0))[i]? = _
    rw [wrA_out (List.nodup_cons.mp (show (i :: slA as).Nodup from nd)).1, List.getElem?_set_self hi]
  | a :: as, c0 :: cs, ρ, j + 1, c, nd, h1, h2, hi => by
    cases a with
    | v k => exact wrA_in (as := as) (ρ := ρ.set k c0) (j := j) (List.nodup_cons.mp (show (k :: slA as).Nodup from nd)).2 (by simpa using h1) (by simpa using h2) (by rw [List.length_set]; exact hi)
    | d x => exact wrA_in (as := as) (ρ := ρ) (j := j) nd (by simpa using h1) (by simpa using h2) hi
    | f x => exact wrA_in (as := as) (ρ := ρ) (j := j) nd (by simpa using h1) (by simpa using h2) hi
section
variable {K : Kx} {P : Pn} {F F' H H' : Hp} {ρ cs' : Sl} {σ : St} {as : List Av} {vs : List V}
theorem join_some {o : Option (Option C)} {c : C} (h : o.join = some c) : o = some (some c) := by
  cases o with
  | none => cases h
  | some o => cases o with
    | none => cases h
    | some x => cases h; rfl
theorem rd_at {i : Nat} {o : Option C} (h : (as.map (rdA ρ))[i]? = some o) : ∃ a, as[i]? = some a ∧ rdA ρ a = o := by
  rw [List.getElem?_map] at h
  cases e : as[i]? with
  | none => rw [e] at h; cases h
  | some a => rw [e] at h; exact ⟨a, rfl, Option.some.inj h⟩
theorem vs_at {i : Nat} {v : V} (h : vs[i]? = some v) : (vs.map some)[i]? = some (some v) := by rw [List.getElem?_map, h]; rfl
theorem vs_at' {i : Nat} {v : V} (h : (vs.map some)[i]? = some (some v)) : vs[i]? = some v := by
  rw [List.getElem?_map] at h
  cases e : vs[i]? with
  | none => rw [e] at h; cases h
  | some a => rw [e] at h; cases h; rfl
/-- what is own among the arguments stands in a slot -/
theorem own_arg (r : RAs K σ F as vs) {i : Nat} (h : ownAt (as.map (rdA ρ)) i) : ∃ k v c, as[i]? = some (Av.v k) ∧ ρ[k]? = some (some c) ∧ c.own = true ∧ vs[i]? = some v ∧ σ[k]? = some (some v) := by
  obtain ⟨c, h1, h2⟩ := h
  obtain ⟨a, h3, h4⟩ := rd_at h1
  obtain ⟨v, h5, h6⟩ := ras_at r h3
  cases a with
  | d x => cases h4; cases h2
  | f x => cases h4; cases h2
  | v k => exact ⟨k, v, c, h3, join_some h4, h2, h5, h6⟩
theorem rp_args (r : Rp K F ρ σ H) (h : RAs K σ F as vs) (nd : (slA as).Nodup) : Rp K F (as.map (rdA ρ)) (vs.map some) H where
  sub := r.sub
  len := by rw [List.length_map, List.length_map, ras_len h]
  dat := fun i x e => by
    obtain ⟨a, h3, h4⟩ := rd_at e
    obtain ⟨v, h5, h6⟩ := ras_at h h3
    cases a with
    | d y => cases h4; exact ⟨v, vs_at h5, h6⟩
    | f y => cases h4
    | v k =>
      obtain ⟨v', q1, q2⟩ := r.dat k x (join_some h4)
      rw [show σ[k]? = some (some v) from h6] at q1
      cases q1
      exact ⟨v, vs_at h5, q2⟩
  fn := fun i x e => by
    obtain ⟨a, h3, h4⟩ := rd_at e
    obtain ⟨v, h5, h6⟩ := ras_at h h3
    cases a with
    | d y => cases h4
    | f y =>
      cases h4
      obtain ⟨a, q1, rfl⟩ := h6
      exact ⟨a, q1, vs_at h5⟩
    | v k =>
      obtain ⟨a, q1, q2⟩ := r.fn k x (join_some h4)
      rw [show σ[k]? = some (some v) from h6] at q2
      cases q2
      exact ⟨a, q1, vs_at h5⟩
  own := fun i c e hc => by
    obtain ⟨k, v, c', h1, h2, h3, h4, h5⟩ := own_arg h ⟨c, e, hc⟩
    obtain ⟨a, h6, h7⟩ := rd_at e
    rw [h1] at h6
    cases h6
    have e2 : ρ[k]? = some (some c) := join_some h7
    obtain ⟨b, o, q1, q2⟩ := r.own k c e2 hc
    rw [h5] at q1
    cases q1
    exact ⟨b, o, vs_at h4, q2⟩
  apart := fun i j a o1 o2 e1 e2 => by
    obtain ⟨k, v, c, h1, h2, h3, h4, h5⟩ := own_arg h o1
    obtain ⟨k', v', c', h1', h2', h3', h4', h5'⟩ := own_arg h o2
    rw [vs_at h4] at e1; cases e1
    rw [vs_at h4'] at e2; cases e2
    have := r.apart k k' a ⟨c, h2, h3⟩ ⟨c', h2', h3'⟩ h5 h5'
    subst this
    exact slA_one nd h1 h1'
/-- an own argument is an own slot of the caller -/
theorem own_up (h : RAs K σ F as vs) {b : Addr} (o : Own (as.map (rdA ρ)) (vs.map some) b) : ∃ k, k ∈ slA as ∧ ownAt ρ k ∧ σ[k]? = some (some (.ref b)) := by
  obtain ⟨i, o1, e⟩ := o
  obtain ⟨k, v, c, h1, h2, h3, h4, h5⟩ := own_arg h o1
  rw [vs_at h4] at e; cases e
  exact ⟨k, mem_slA.mpr ⟨i, h1⟩, ⟨c, h2, h3⟩, h5⟩
theorem Go.call (r : Rp K F ρ σ H) (h : RAs K σ F as vs) (nd : (slA as).Nodup) (g : Go K (allP vs.length) (as.map (rdA ρ)) (vs.map some) H F cs' (vs.map some) H' F') :
    Go K P ρ σ H F (wrA as cs' ρ) σ H' F' ∧ ∀ p, Own (wrA as cs' ρ) σ p → Own cs' (vs.map some) p ∨ Own ρ σ p := by
  have hlen : cs'.length = vs.length := by rw [g.rp.len, List.length_map]
  have kw : ∀ i, (∃ j v, as[j]? = some (Av.v i) ∧ vs[j]? = some v ∧ σ[i]? = some (some v) ∧ (wrA as cs' ρ)[i]? = cs'[j]?) ∨ (i ∉ slA as ∧ (wrA as cs' ρ)[i]? = ρ[i]?) := fun i => by
    by_cases hi : i ∈ slA as
    · obtain ⟨j, hj⟩ := mem_slA.mp hi
      obtain ⟨v, h1, h2⟩ := ras_at h hj
      have h2' : σ[i]? = some (some v) := h2
      have l1 : i < ρ.length := by rw [r.len]; exact (List.getElem?_eq_some_iff.mp h2').1
      have l2 : j < cs'.length := by rw [hlen]; exact (List.getElem?_eq_some_iff.mp h1).1
      exact .inl ⟨j, v, hj, h1, h2', by rw [wrA_in nd hj (List.getElem?_eq_getElem l2) l1, List.getElem?_eq_getElem l2]⟩
    · exact .inr ⟨hi, wrA_out hi⟩
  have up : ∀ b, Own (as.map (rdA ρ)) (vs.map some) b → Own ρ σ b := fun b o => by
    obtain ⟨k, _, h1, h2⟩ := own_up h o
    exact ⟨k, h1, h2⟩
  have no : ∀ i b, i ∉ slA as → ownAt ρ i → σ[i]? = some (some (.ref b)) → ¬ Own (as.map (rdA ρ)) (vs.map some) b := fun i b hi o e z => by
    obtain ⟨k, h0, h1, h2⟩ := own_up h z
    exact hi (r.apart i k b o h1 e h2 ▸ h0)
  have ownT : ∀ i, ownAt (wrA as cs' ρ) i → (∃ j v, as[j]? = some (Av.v i) ∧ vs[j]? = some v ∧ σ[i]? = some (some v) ∧ ownAt cs' j) ∨ (i ∉ slA as ∧ ownAt ρ i) := fun i ⟨c, e, hc⟩ => by
    rcases kw i with ⟨j, v, q1, q2, q3, q4⟩ | ⟨q1, q2⟩
    · rw [q4] at e; exact .inl ⟨j, v, q1, q2, q3, c, e, hc⟩
    · rw [q2] at e; exact .inr ⟨q1, c, e, hc⟩
  have ownB : ∀ p, Own (wrA as cs' ρ) σ p → Own cs' (vs.map some) p ∨ Own ρ σ p := fun p ⟨i, o, e⟩ => by
    rcases ownT i o with ⟨j, v, q1, q2, q3, q4⟩ | ⟨q1, q2⟩
    · rw [q3] at e; cases e
      exact .inl ⟨j, q4, vs_at q2⟩
    · exact .inr ⟨i, q2, e⟩
  refine ⟨⟨⟨g.rp.sub, by rw [wrA_len]; exact r.len, fun i x e => ?_, fun i x e => ?_, fun i c e hc => ?_, fun i j a o1 o2 e1 e2 => ?_⟩, g.fr, fun b o n e => g.hp b o (fun z => n (up b z)) e, g.th, fun b o e => ?_, fun b o => ?_, fun i hi => rfl, fun i hi ⟨c, e, hc⟩ => ?_, rfl⟩, ownB⟩
  · rcases kw i with ⟨j, v, q1, q2, q3, q4⟩ | ⟨q1, q2⟩
    · rw [q4] at e
      obtain ⟨v', z1, z2⟩ := g.rp.dat j x e
      rw [vs_at q2] at z1; cases z1
      exact ⟨v, q3, z2⟩
    · rw [q2] at e
      obtain ⟨v, z1, z2⟩ := r.dat i x e
      exact ⟨v, z1, dp_mono g.fr z2⟩
  · rcases kw i with ⟨j, v, q1, q2, q3, q4⟩ | ⟨q1, q2⟩
    · rw [q4] at e
      obtain ⟨a, z1, z2⟩ := g.rp.fn j x e
      rw [vs_at q2] at z2; cases z2
      exact ⟨a, z1, q3⟩
    · rw [q2] at e; exact r.fn i x e
  · rcases kw i with ⟨j, v, q1, q2, q3, q4⟩ | ⟨q1, q2⟩
    · rw [q4] at e
      obtain ⟨a, o, z1, z2⟩ := g.rp.own j c e hc
      rw [vs_at q2] at z1; cases z1
      exact ⟨a, o, q3, z2⟩
    · rw [q2] at e
      obtain ⟨a, o, z1, z2, z3, z4⟩ := r.own i c e hc
      have n := no i a q1 ⟨c, e, hc⟩ z1
      refine ⟨a, o, z1, ?_, g.hp a o n z3, isO_mono g.fr z4⟩
      cases y : F' a with
      | none => rfl
      | some u =>
        rcases g.nw a u y with w | w | w
        · rw [z2] at w; cases w
        · rw [z3] at w; cases w
        · exact (n w).elim
  · have mix : ∀ i i', (∃ j v, as[j]? = some (Av.v i) ∧ vs[j]? = some v ∧ σ[i]? = some (some v) ∧ ownAt cs' j) → (i' ∉ slA as ∧ ownAt ρ i') → σ[i]? = some (some (.ref a)) → σ[i']? = some (some (.ref a)) → False := fun i i' ⟨j, v, q1, q2, q3, q4⟩ ⟨w1, w2⟩ y1 y2 => by
      rw [q3] at y1; cases y1
      rcases g.ow a ⟨j, q4, vs_at q2⟩ with z | z
      · exact no i' a w1 w2 y2 z
      · obtain ⟨_, o, y⟩ := r.notOwn ⟨i', w2, y2⟩
        rw [z] at y; cases y
    rcases ownT i o1 with m1 | m1
    · rcases ownT j o2 with m2 | m2
      · obtain ⟨j1, v1, q1, q2, q3, q4⟩ := m1
        obtain ⟨j2, v2, w1, w2, w3, w4⟩ := m2
        rw [q3] at e1; cases e1
        rw [w3] at e2; cases e2
        have := g.rp.apart j1 j2 a q4 w4 (vs_at q2) (vs_at w2)
        subst this
        rw [q1] at w1; cases w1; rfl
      · exact (mix i j m1 m2 e1 e2).elim
    · rcases ownT j o2 with m2 | m2
      · exact (mix j i m2 m1 e2 e1).elim
      · exact r.apart i j a m1.2 m2.2 e1 e2
  · rcases g.nw b o e with w | w | w
    · exact .inl w
    · exact .inr (.inl w)
    · exact .inr (.inr (up b w))
  · rcases ownB b o with w | w
    · rcases g.ow b w with z | z
      · exact .inl (up b z)
      · exact .inr z
    · exact .inl w
  · rcases kw i with ⟨j, v, q1, q2, q3, q4⟩ | ⟨q1, q2⟩
    · have oc : ownAt (as.map (rdA ρ)) j := ⟨c, by rw [List.getElem?_map, q1]; show some ((ρ[i]?).join) = _; rw [e]; rfl, hc⟩
      obtain ⟨c', y1, y2⟩ := g.po j (decide_eq_true (List.getElem?_eq_some_iff.mp q2).1) oc
      exact ⟨c', by rw [q4]; exact y1, y2⟩
    · exact ⟨c, by rw [q2]; exact e, hc⟩
theorem rc_own {fr fr' : FR} {σ' : St} {ρ' : Sl} {r : C} {v : V} (h : RC K fr ρ' σ' H' F' r v) {ρ'' : Sl} {σ'' : St} (n : ∀ p, fr p → ¬ Own ρ' σ' p → fr' p ∧ ¬ Own ρ'' σ'' p) : RC K fr' ρ'' σ'' H' F' r v := by
  cases r with
  | d x => exact h
  | f x => exact h
  | l x => obtain ⟨p, o, h1, h2, h3, h4, h5, h6⟩ := h; exact ⟨p, o, h1, (n p h2 h6).1, h3, h4, h5, (n p h2 h6).2⟩
  | k x => obtain ⟨p, o, h1, h2, h3, h4, h5, h6⟩ := h; exact ⟨p, o, h1, (n p h2 h6).1, h3, h4, h5, (n p h2 h6).2⟩
  | t x => obtain ⟨p, o, h1, h2, h3, h4, h5, h6⟩ := h; exact ⟨p, o, h1, (n p h2 h6).1, h3, h4, h5, (n p h2 h6).2⟩
end
/-! ### what a def promises -/
abbrev ERx := Exc → Value → Option Addr → Hp → Prop
def spF (K : Kx) (ER : ERx) (n : Nat) (φ : Sl → Res C) : Sp := fun vs H Q E => vs.length = n ∧ ∃ F cs, Rp K F cs (vs.map some) H ∧
  Out (φ cs) (fun r cs' => ∀ v H' F', Go K (allP n) cs (vs.map some) H F cs' (vs.map some) H' F' → RC K (Fr cs (vs.map some) H) cs' (vs.map some) H' F' r v → Q v H')
    (fun e cs' => ∀ cv dd H' F', Go K (allP n) cs (vs.map some) H F cs' (vs.map some) H' F' → ER e cv dd H' → E cv dd H')
structure Kn (P : Program) (w : World) (K : Kx) (base : Heap) (k : Nat) (ER : ERx) (x : Str) (ps : List Str) (φ : Sl → Res C) : Prop where
  ex : ∃ (f : Addr) (fd : FuncData), FnOk P w K.fr K.mg base (L2.CX P w) k f fd ps (spF K ER ps.length φ) ∧ K.mg x = some (.ref f) ∧ PySem.W.keepIn K.fr (.ref f) = true ∧ Binds K.fr fd ps []
/-- every parameter by its name, in order -/
def KB0 (K : PySem.W.Frag) (fd : FuncData) (ps : List Str) : Prop := ∀ (s : Shared) (ws : List Value), K.In s.heap → ws.length = ps.length → BindsTo s fd ⟨[], ps.zip ws⟩ (ps.zip ws)
/-- .. that may be called by keywords -/
structure KnK (P : Program) (w : World) (K : Kx) (base : Heap) (k : Nat) (ER : ERx) (x : Str) (ps : List Str) (φ : Sl → Res C) : Prop where
  ex : ∃ (f : Addr) (fd : FuncData), FnOk P w K.fr K.mg base (L2.CX P w) k f fd ps (spF K ER ps.length φ) ∧ K.mg x = some (.ref f) ∧ PySem.W.keepIn K.fr (.ref f) = true ∧ Binds K.fr fd ps [] ∧
    KB0 K.fr fd ps
theorem KnK.kn {P : Program} {w : World} {K : Kx} {base : Heap} {k : Nat} {ER : ERx} {x : Str} {ps : List Str} {φ : Sl → Res C} (h : KnK P w K base k ER x ps φ) : Kn P w K base k ER x ps φ := by
  obtain ⟨f, fd, h1, h2, h3, h4, _⟩ := h.ex
  exact ⟨f, fd, h1, h2, h3, h4⟩
theorem Kn.mono {P : Program} {w : World} {K : Kx} {base : Heap} {j k : Nat} {ER : ERx} {x : Str} {ps : List Str} {φ : Sl → Res C} (h : Kn P w K base j ER x ps φ) (l : j ≤ k) : Kn P w K base k ER x ps φ := by
  obtain ⟨f, fd, h1, h2⟩ := h.ex
  exact ⟨f, fd, h1.mono l, h2⟩
theorem call_use {X : Cx} {c : Ct} {φ : Sl → Res C} {n : Nat} {m : M (List Av)} {σ : St} {H : Hp} {Q : VK} (h : Tr X.kx c (RC X.kx) (mCall φ m) σ H Q) (hn : ∀ ρ P E, Out (m ρ) P E → Out (m ρ) (fun as ρ' => as.length = n ∧ P as ρ') E) :
    Tr X.kx c (RA X.kx) m σ H fun vs H1 => spF X.kx c.ER n φ vs H1 Q (WE c.W σ) := by
  obtain ⟨F, ρ, r, q⟩ := h
  refine ⟨F, ρ, r, Out.mono (hn _ _ _ (Out.bind q)) (fun as ρ1 ⟨l, q1⟩ vs H1 F1 g1 d1 => ?_) fun e ρ1 q => q⟩
  have hl : vs.length = n := by rw [← ras_len d1]; exact l
  by_cases nd : (slA as).Nodup
  · rw [if_pos nd] at q1
    refine ⟨hl, F1, as.map (rdA ρ1), rp_args g1.rp d1 nd, ?_⟩
    cases z : φ (as.map (rdA ρ1)) with
    | ok rr cs =>
      rw [z] at q1
      intro v H' F' g2 r2
      rw [← hl] at g2
      obtain ⟨g3, ob⟩ := Go.call (P := c.P) g1.rp d1 nd g2
      refine q1 v H' F' (g1.trans g3) (rc_base g1 (rc_own r2 fun p hp np => ?_))
      have hp0 : H1 p = none := by
        rcases hp with z | ⟨j, z, z2⟩
        · exact z
        · exact (np ⟨j, g2.po j (decide_eq_true (List.getElem?_eq_some_iff.mp (vs_at' z2)).1) z, z2⟩).elim
      refine ⟨.inl hp0, fun o => ?_⟩
      rcases ob p o with w | w
      · exact np w
      · obtain ⟨_, o, y⟩ := g1.rp.notOwn w
        rw [hp0] at y; cases y
    | err e cs =>
      rw [z] at q1
      intro cv dd H' F' g2 er
      rw [← hl] at g2
      obtain ⟨g3, ob⟩ := Go.call (P := c.P) g1.rp d1 nd g2
      exact q1 cv dd H' F' (g1.trans g3) er
    | stuck => rw [z] at q1; exact q1
  · rw [if_neg nd] at q1; exact q1.elim
theorem mseqA_len : ∀ (ms : List (M Av)) (ρ : Sl) (P : List Av → Sl → Prop) (E : Exc → Sl → Prop), Out (mSeqA ms ρ) P E → Out (mSeqA ms ρ) (fun xs ρ' => xs.length = ms.length ∧ P xs ρ') E
  | [], ρ, P, E, h => ⟨rfl, h⟩
  | m :: r, ρ, P, E, h => by
    refine Out.bind' (Out.mono (Out.bind h) (fun a ρ1 h1 => ?_) fun e ρ1 q => q)
    refine Out.bind' (Out.mono (mseqA_len r ρ1 _ _ (Out.bind h1)) (fun b ρ2 h2 => ?_) fun e ρ1 q => q)
    exact ⟨by rw [List.length_cons, List.length_cons, h2.1], h2.2⟩
end DL

set_option Elab.async false
set_option linter.all false
set_option maxRecDepth 100000
set_option maxHeartbeats 2000000
namespace DL
open PySem PySem.Spec PyProof.Rows L2

/-! ### calls of a def -/
section
variable {X : Cx} {c : Ct} {e : Expr} {es : List Expr} {x : Str} {p pos : Pos} {ms : List (M Av)} {k : Nat} {ps : List Str} {φ : Sl → Res C} {kws : List Keyword}
theorem do_call (Kf : Kn X.prog X.w X.kx X.base k c.ER x ps φ) (hr : Room k X.A) (hg : Gl X x) (tk : ∀ σ, PassesAt (L2.CX X.prog X.w) X σ (WE c.W σ)) (ha : DAr X c (e :: es) (mSeqA ms)) (hl : ms.length = ps.length := by rfl)
    (hdb : (x == ("__debug__" : Str)) = false := by decide) (he : starEach (e :: es) X.env = (false, eval e X.env) :: starEach es X.env := by rfl) (hpl : (backTo pos (starEach es X.env)).any (·.1) = false := by rfl) :
    DO X c (.Call (.Name x p) (e :: es) [] pos) (mCall φ (mSeqA ms)) := by
  obtain ⟨f, fd, hF, hm, hk, hb⟩ := Kf.ex
  exact pe_imp (pe_callS hF hr hg hm hk hb tk ha hdb he hpl) fun σ H Q q => call_use q fun ρ P E o => hl ▸ mseqA_len ms ρ P E o
theorem do_call0 (Kf : Kn X.prog X.w X.kx X.base k c.ER x ps φ) (hr : Room k X.A) (hg : Gl X x) (tk : ∀ σ, PassesAt (L2.CX X.prog X.w) X σ (WE c.W σ)) (hl : 0 = ps.length := by rfl)
    (hdb : (x == ("__debug__" : Str)) = false := by decide) : DO X c (.Call (.Name x p) [] [] pos) (mCall φ (mSeqA [])) := by
  obtain ⟨f, fd, hF, hm, hk, hb⟩ := Kf.ex
  refine pe_imp (t := fun σ H Q => spF X.kx c.ER ps.length φ [] H Q (WE c.W σ)) ⟨fun pins s σ H Q I h => ?_⟩ fun σ H Q q => ?_
  · refine wpAny_Call_Name_kw (ld_glob I hg hm ?_ hdb)
    exact PySem.W.callWith_K0 I.kIn hk (run_fnS (us := []) hF hr hb (tk σ) I .nil h)
  · obtain ⟨F, ρ, r, o⟩ := call_use (n := ps.length) q fun ρ P E o => ⟨hl, o⟩
    exact o [] H F (Go.refl r) .nil
abbrev DK (X : Cx) (c : Ct) (kws : List Keyword) (m : M (List Av)) : Prop := PK X kws (Tr X.kx c (RA X.kx) m)
theorem dk_nil : DK X c [] (mSeqA []) := ⟨fun pos pins s σ H Q I ⟨F, ρ, r, h⟩ => pk_nil.run pos pins s σ H Q I (h _ H F (Go.refl r) .nil)⟩
theorem dk_cons {a1 : M Av} {nm : Option Str} {kpos : Pos} (ha : D1 X c e a1) (hr : DK X c kws (mSeqA ms)) : DK X c (⟨nm, e, kpos⟩ :: kws) (mSeqA (a1 :: ms)) :=
  ⟨fun pos pins s σ H Q I ⟨F, ρ, r, h⟩ => (pk_cons ha hr).run pos pins s σ H Q I ⟨F, ρ, r, Out.mono (Out.bind h) (fun x ρ1 h1 v H1 F1 g1 d1 => ⟨F1, ρ1, g1.rp, Out.mono (Out.bind h1) (fun ys ρ2 h2 vs H2 F2 g2 d2 =>
    h2 _ H2 F2 (g1.trans g2) (.cons (ra1_mono g2.fr d1) d2)) fun e ρ2 q cv dd H2 F2 g2 er => q cv dd H2 F2 (g1.trans g2) er⟩) fun e ρ1 q => q⟩⟩
theorem run_fnSK {CX : CXT} {f : Addr} {fd : FuncData} {ps : List Str} {sp : Sp} {E : St → XK} {pins : List (Addr × Obj)} {σ : St} {H : Hp} {s : Shared} {Q : VK} {ws : List Value} {zs : List V}
    (F : FnOk X.prog X.w X.K X.mg X.base CX k f fd ps sp) (hr : Room k X.A) (hb : KB0 X.K fd ps) (hx : PassesAt CX X σ (E σ))
    (I : Inv X pins σ H s) (rz : Vals zs ws) (h : sp zs H Q (E σ)) : wpAny (model X.prog X.w) X.A (call (.ref f) [] (ps.zip ws)) (EP X pins σ Q) X.xe s := by
  have hl : ws.length = ps.length := by rw [← rz.length]; exact F.len _ _ _ _ h
  refine wpAny_call (codeAny_mono (F.run X.A X.stack s H ⟨[], ps.zip ws⟩ ws zs Q (E σ) hr I.env0 (hb s ws I.kIn hl) rz h) fun r s' hq => ?_)
  cases r with
  | error e => exact hx pins H s e s' I hq
  | ok fl =>
    cases fl with
    | ret u => exact I.after hq
    | next => exact False.elim hq
    | brk => exact False.elim hq
    | cont => exact False.elim hq
/-- f(k = e, ..), every parameter by its name, in the parameters' order -/
theorem do_callK (Kf : KnK X.prog X.w X.kx X.base k c.ER x ps φ) (hr : Room k X.A) (hg : Gl X x) (tk : ∀ σ, PassesAt (L2.CX X.prog X.w) X σ (WE c.W σ)) (ha : DK X c kws (mSeqA ms))
    (hks : (backToKw pos (keywordEach kws X.env)).filterMap (·.1) = ps := by rfl) (hl : ms.length = ps.length := by rfl)
    (hall : (backToKw pos (keywordEach kws X.env)).all (·.1.isSome) = true := by rfl)
    (hdb : (x == ("__debug__" : Str)) = false := by decide) (hpl : ((backTo pos (starEach [] X.env)).any (·.1) || (backToKw pos (keywordEach kws X.env)).any (·.1.isNone)) = false := by rfl) :
    DO X c (.Call (.Name x p) [] kws pos) (mCall φ (mSeqA ms)) := by
  obtain ⟨f, fd, hF, hm, hk, _, hkb⟩ := Kf.ex
  refine pe_imp (t := fun σ H Q => (Tr X.kx c (RA X.kx) (mSeqA ms)) σ H fun vs H1 => spF X.kx c.ER ps.length φ vs H1 Q (WE c.W σ)) ⟨fun pins s σ H Q I h => ?_⟩ fun σ H Q q => call_use q fun ρ P E o => hl ▸ mseqA_len ms ρ P E o
  refine wpAny_Call_Name_kw (ld_glob I hg hm ?_ hdb)
  refine PySem.W.callWith_KW0 (h₀ := X.base) I.ok.mod.kin hk hall (thn (ha.run pos pins s σ H _ I h) fun ws s1 ⟨zs, H1, I1, rz, q1⟩ => ⟨I1.kIn, ?_⟩) hpl
  rw [hks]
  exact run_fnSK hF hr hkb (tk σ) I1 rz q1
end
end DL

set_option Elab.async false
set_option linter.all false
set_option maxRecDepth 100000
set_option maxHeartbeats 2000000
namespace DL
open PySem PySem.Spec PyProof.Rows L2

/-! ### storing -/
section
variable {K : Kx} {P : Pn} {F F0 H H0 : Hp} {ρ ρ0 : Sl} {σ σ0 : St} {i : Nat}
theorem set_at {α : Type} {l : List α} {i j : Nat} {a : α} {o : α} (h : (l.set i a)[j]? = some o) : (j = i ∧ i < l.length ∧ o = a) ∨ (j ≠ i ∧ l[j]? = some o) := by
  by_cases e : i = j
  · subst e
    by_cases hl : i < l.length
    · rw [List.getElem?_set_self hl] at h; exact .inl ⟨rfl, hl, (Option.some.inj h).symm⟩
    · rw [List.getElem?_eq_none (by rw [List.length_set]; omega)] at h; cases h
  · rw [List.getElem?_set_ne e] at h; exact .inr ⟨Ne.symm e, h⟩
theorem own_at {c : Option C} {j : Nat} (h : ownAt (ρ.set i c) j) : (j = i ∧ i < ρ.length ∧ ∃ k, c = some k ∧ k.own = true) ∨ (j ≠ i ∧ ownAt ρ j) := by
  obtain ⟨k, e, hk⟩ := h
  rcases set_at e with ⟨a, b, d⟩ | ⟨a, b⟩
  · exact .inl ⟨a, b, k, d.symm, hk⟩
  · exact .inr ⟨a, k, b, hk⟩
theorem own_ne (hi : P.all i = false) {j : Nat} (hj : P.s j = true) : j ≠ i := fun e => by subst e; unfold Pn.all at hi; rw [hj, Bool.true_or] at hi; cases hi
theorem own_ne' (hi : P.all i = false) {j : Nat} (hj : P.o j = true) : j ≠ i := fun e => by subst e; unfold Pn.all at hi; rw [hj, Bool.or_true] at hi; cases hi
theorem own_keep {c : Option C} {j : Nat} (hj : j ≠ i) (h : ownAt ρ j) : ownAt (ρ.set i c) j := by
  obtain ⟨k, e, hk⟩ := h
  exact ⟨k, by rw [List.getElem?_set_ne (Ne.symm hj)]; exact e, hk⟩
/-- contents go into a slot -/
theorem Go.put (g : Go K P ρ0 σ0 H0 F0 ρ σ H F) {c : C} {v : V} (r : RC K (Fr ρ0 σ0 H0) ρ σ H F c v) (hi : P.all i = false) : Go K P ρ0 σ0 H0 F0 (ρ.set i (some c)) (σ.set i (some v)) H F := by
  have hlen : ρ.length = σ.length := g.rp.len
  have rOwn : c.own = true → ∃ p o, v = .ref p ∧ Fr ρ0 σ0 H0 p ∧ F p = none ∧ H p = some o ∧ IsO K F c o ∧ ¬ Own ρ σ p := fun hc => by
    cases c with
    | d x => cases hc
    | f x => cases hc
    | l x => exact r
    | k x => exact r
    | t x => exact r
  have stp : ∀ {j : Nat} {a : Addr}, j ≠ i → (σ.set i (some v))[j]? = some (some (.ref a)) → σ[j]? = some (some (.ref a)) := fun {j a} hj e => by
    rw [List.getElem?_set_ne (Ne.symm hj)] at e; exact e
  refine ⟨⟨g.rp.sub, by rw [List.length_set, List.length_set]; exact hlen, fun j x e => ?_, fun j x e => ?_, fun j k e hk => ?_, fun j k a h1 h2 e1 e2 => ?_⟩, g.fr, g.hp, g.th, g.nw, fun b ⟨j, o, e⟩ => ?_, fun j hj => ?_, fun j hj h => own_keep (own_ne' hi hj) (g.po j hj h), by rw [List.length_set]; exact g.ln⟩
  · rcases set_at e with ⟨rfl, hl, d⟩ | ⟨hj, e⟩
    · cases d
      exact ⟨v, List.getElem?_set_self (by rw [← hlen]; exact hl), r⟩
    · obtain ⟨u, h1, h2⟩ := g.rp.dat j x e
      exact ⟨u, by rw [List.getElem?_set_ne (Ne.symm hj)]; exact h1, h2⟩
  · rcases set_at e with ⟨rfl, hl, d⟩ | ⟨hj, e⟩
    · cases d
      obtain ⟨a, h1, rfl⟩ := r
      exact ⟨a, h1, List.getElem?_set_self (by rw [← hlen]; exact hl)⟩
    · obtain ⟨a, h1, h2⟩ := g.rp.fn j x e
      exact ⟨a, h1, by rw [List.getElem?_set_ne (Ne.symm hj)]; exact h2⟩
  · rcases set_at e with ⟨rfl, hl, d⟩ | ⟨hj, e⟩
    · cases d
      obtain ⟨p, o, rfl, h1, h2, h3, h4, h5⟩ := rOwn hk
      exact ⟨p, o, List.getElem?_set_self (by rw [← hlen]; exact hl), h2, h3, h4⟩
    · obtain ⟨a, o, h1, h2⟩ := g.rp.own j k e hk
      exact ⟨a, o, by rw [List.getElem?_set_ne (Ne.symm hj)]; exact h1, h2⟩
  · have mix : ∀ {j k}, (j = i ∧ i < ρ.length ∧ ∃ k, some c = some k ∧ k.own = true) → (k ≠ i ∧ ownAt ρ k) → (σ.set i (some v))[j]? = some (some (.ref a)) → (σ.set i (some v))[k]? = some (some (.ref a)) → False := fun {j k} ⟨rfl, hl, k', q1, q2⟩ ⟨hk, ok⟩ e1 e2 => by
      cases q1
      obtain ⟨p, o, rfl, _, _, _, _, h5⟩ := rOwn q2
      rw [List.getElem?_set_self (by rw [← hlen]; exact hl)] at e1
      cases e1
      exact h5 ⟨k, ok, stp hk e2⟩
    rcases own_at h1 with m1 | m1
    · rcases own_at h2 with m2 | m2
      · exact m1.1.trans m2.1.symm
      · exact (mix m1 m2 e1 e2).elim
    · rcases own_at h2 with m2 | m2
      · exact (mix m2 m1 e2 e1).elim
      · exact g.rp.apart j k a m1.2 m2.2 (stp m1.1 e1) (stp m2.1 e2)
  · rcases own_at o with ⟨rfl, hl, k, q1, q2⟩ | ⟨hj, oj⟩
    · cases q1
      obtain ⟨p, o, rfl, h1, _⟩ := rOwn q2
      rw [List.getElem?_set_self (by rw [← hlen]; exact hl)] at e
      cases e
      rcases h1 with z | z
      · exact .inr z
      · exact .inl z
    · exact g.ow b ⟨j, oj, stp hj e⟩
  · rw [List.getElem?_set_ne (Ne.symm (own_ne hi hj))]
    exact g.pn j hj
/-- a slot is forgotten -/
theorem Go.forget (g : Go K P ρ0 σ0 H0 F0 ρ σ H F) (hi : P.all i = false) (u : Option V) : Go K P ρ0 σ0 H0 F0 (ρ.set i none) (σ.set i u) H F := by
  have hlen : ρ.length = σ.length := g.rp.len
  have stp : ∀ {j : Nat} {a : Addr}, j ≠ i → (σ.set i u)[j]? = some (some (.ref a)) → σ[j]? = some (some (.ref a)) := fun {j a} hj e => by
    rw [List.getElem?_set_ne (Ne.symm hj)] at e; exact e
  have ow : ∀ {j}, ownAt (ρ.set i none) j → j ≠ i ∧ ownAt ρ j := fun {j} h => by
    rcases own_at h with ⟨_, _, k, q, _⟩ | m
    · cases q
    · exact m
  refine ⟨⟨g.rp.sub, by rw [List.length_set, List.length_set]; exact hlen, fun j x e => ?_, fun j x e => ?_, fun j k e hk => ?_, fun j k a h1 h2 e1 e2 => g.rp.apart j k a (ow h1).2 (ow h2).2 (stp (ow h1).1 e1) (stp (ow h2).1 e2)⟩, g.fr, g.hp, g.th, g.nw, fun b ⟨j, o, e⟩ => g.ow b ⟨j, (ow o).2, stp (ow o).1 e⟩, fun j hj => ?_, fun j hj h => own_keep (own_ne' hi hj) (g.po j hj h), by rw [List.length_set]; exact g.ln⟩
  · rcases set_at e with ⟨_, _, d⟩ | ⟨hj, e⟩
    · cases d
    · obtain ⟨v, h1, h2⟩ := g.rp.dat j x e
      exact ⟨v, by rw [List.getElem?_set_ne (Ne.symm hj)]; exact h1, h2⟩
  · rcases set_at e with ⟨_, _, d⟩ | ⟨hj, e⟩
    · cases d
    · obtain ⟨v, h1, h2⟩ := g.rp.fn j x e
      exact ⟨v, h1, by rw [List.getElem?_set_ne (Ne.symm hj)]; exact h2⟩
  · rcases set_at e with ⟨_, _, d⟩ | ⟨hj, e⟩
    · cases d
    · obtain ⟨a, o, h1, h2⟩ := g.rp.own j k e hk
      exact ⟨a, o, by rw [List.getElem?_set_ne (Ne.symm hj)]; exact h1, h2⟩
  · rw [List.getElem?_set_ne (Ne.symm (own_ne hi hj))]
    exact g.pn j hj
/-- the same, the value stays where it is -/
theorem Go.forget' (g : Go K P ρ0 σ0 H0 F0 ρ σ H F) (hi : P.o i = false) : Go K P ρ0 σ0 H0 F0 (ρ.set i none) σ H F := by
  have ow : ∀ {j}, ownAt (ρ.set i none) j → j ≠ i ∧ ownAt ρ j := fun {j} h => by
    rcases own_at h with ⟨_, _, k, q, _⟩ | m
    · cases q
    · exact m
  refine ⟨⟨g.rp.sub, by rw [List.length_set]; exact g.rp.len, fun j x e => ?_, fun j x e => ?_, fun j k e hk => ?_, fun j k a h1 h2 e1 e2 => g.rp.apart j k a (ow h1).2 (ow h2).2 e1 e2⟩, g.fr, g.hp, g.th, g.nw, fun b ⟨j, o, e⟩ => g.ow b ⟨j, (ow o).2, e⟩, g.pn, fun j hj h => own_keep (ne_o hi hj) (g.po j hj h), g.ln⟩
  · rcases set_at e with ⟨_, _, d⟩ | ⟨hj, e⟩
    · cases d
    · exact g.rp.dat j x e
  · rcases set_at e with ⟨_, _, d⟩ | ⟨hj, e⟩
    · cases d
    · exact g.rp.fn j x e
  · rcases set_at e with ⟨_, _, d⟩ | ⟨hj, e⟩
    · cases d
    · exact g.rp.own j k e hk
/-- an own thing is rewritten -/
theorem Go.upd (r : Rp K F ρ σ H) {c c' : C} {a : Addr} {o' : HO} (z : ρ[i]? = some (some c)) (hc : c.own = true) (hc' : c'.own = true) (ha : σ[i]? = some (some (.ref a))) (ho : IsO K F c' o') : Go K P ρ σ H F (ρ.set i (some c')) σ (upd H a o') F := by
  have hlt : i < ρ.length := (List.getElem?_eq_some_iff.mp z).1
  obtain ⟨a0, o0, q1, q2, q3, q4⟩ := r.own i c z hc
  rw [ha] at q1; cases q1
  have oi : ownAt ρ i := ⟨c, z, hc⟩
  have ow : ∀ {j}, ownAt (ρ.set i (some c')) j → ownAt ρ j := fun {j} h => by
    rcases own_at h with ⟨rfl, _⟩ | m
    · exact oi
    · exact m.2
  refine ⟨⟨fun b x e => ?_, by rw [List.length_set]; exact r.len, fun j x e => ?_, fun j x e => ?_, fun j k e hk => ?_, fun j k b h1 h2 => r.apart j k b (ow h1) (ow h2)⟩, Same.refl F, fun b x n e => ?_, fun b x e => ?_, fun b x e => .inl e, fun b ⟨j, h, e⟩ => .inl ⟨j, ow h, e⟩, fun j hj => rfl, fun j hj h => ?_, rfl⟩
  · have ne : b ≠ a := fun z => by rw [z, q2] at e; cases e
    rw [upd_ne ne]; exact r.sub b x e
  · rcases set_at e with ⟨_, _, d⟩ | ⟨hj, e⟩
    · cases d; cases hc'
    · exact r.dat j x e
  · rcases set_at e with ⟨_, _, d⟩ | ⟨hj, e⟩
    · cases d; cases hc'
    · exact r.fn j x e
  · rcases set_at e with ⟨rfl, _, d⟩ | ⟨hj, e⟩
    · cases d; exact ⟨a, o', ha, q2, upd_same, ho⟩
    · obtain ⟨b, u, h1, h2, h3, h4⟩ := r.own j k e hk
      have ne : b ≠ a := fun z => hj (r.apart j i a ⟨k, e, hk⟩ oi (z ▸ h1) ha)
      exact ⟨b, u, h1, h2, by rw [upd_ne ne]; exact h3, h4⟩
  · have ne : b ≠ a := fun z => n (z ▸ ⟨i, oi, ha⟩)
    rw [upd_ne ne]; exact e
  · by_cases hb : b = a
    · subst hb; exact ⟨o', upd_same⟩
    · exact ⟨x, by rw [upd_ne hb]; exact e⟩
  · by_cases hj : j = i
    · subst hj; exact ⟨c', List.getElem?_set_self hlt, hc'⟩
    · exact own_keep hj h
end
/-! ### a slot's own thing goes out of it -/
section
variable {X : Cx} {c : Ct} {e : Expr}
theorem do_varMP {i : Nat} (hi : c.P.o i = false) (h : PE X e (L2.tVar i)) : DO X c e (mVarM i) := pe_imp h fun σ H Q ⟨F, ρ, r, h⟩ => by
  unfold T1 mVarM at h
  cases z : ρ[i]? with
  | none => rw [z] at h; exact h.elim
  | some o =>
    cases o with
    | none => rw [z] at h; exact h.elim
    | some k =>
      have own : k.own = true → Out (Res.ok k (ρ.set i none)) (fun a ρ' => ∀ v H' F', Go X.kx c.P ρ σ H F ρ' σ H' F' → RC X.kx (Fr ρ σ H) ρ' σ H' F' a v → Q v H') (fun e ρ' => ∀ cv dd H' F', Go X.kx c.P ρ σ H F ρ' σ H' F' → c.ER e cv dd H' → c.W cv dd σ H') → tVar i σ H Q := fun hk q => by
        obtain ⟨a, o, h1, h2, h3, h4⟩ := r.own i k z hk
        have oi : ownAt ρ i := ⟨k, z, hk⟩
        have rc : ∃ p o, V.ref a = .ref p ∧ Fr ρ σ H p ∧ F p = none ∧ H p = some o ∧ IsO X.kx F k o ∧ ¬ Own (ρ.set i none) σ p := ⟨a, o, rfl, .inr ⟨i, oi, h1⟩, h2, h3, h4, fun ⟨j, oj, ej⟩ => by
          rcases own_at oj with ⟨_, _, _, q, _⟩ | ⟨hj, oj⟩
          · cases q
          · exact hj (r.apart j i a oj oi ej h1)⟩
        refine ⟨_, h1, q (.ref a) H F ((Go.refl r).forget' hi) ?_⟩
        cases k with
        | d x => cases hk
        | f x => cases hk
        | l x => exact rc
        | k x => exact rc
        | t x => exact rc
      cases k with
      | d x =>
        rw [z] at h
        obtain ⟨v, h1, h2⟩ := r.dat i x z
        exact ⟨v, h1, h v H F (Go.refl r) h2⟩
      | f x =>
        rw [z] at h
        obtain ⟨a, h1, h2⟩ := r.fn i x z
        exact ⟨_, h2, h (.ref a) H F (Go.refl r) ⟨a, h1, rfl⟩⟩
      | l x => rw [z] at h; exact own rfl h
      | k x => rw [z] at h; exact own rfl h
      | t x => rw [z] at h; exact own rfl h
end
end DL

set_option Elab.async false
set_option linter.all false
set_option maxRecDepth 100000
set_option maxHeartbeats 2000000
namespace DL
open PySem PySem.Spec PyProof.Rows L2

/-! ### statements -/
def SK (K : Kx) (c : Ct) (D : Ends) (ρ : Sl) (σ : St) (H F : Hp) : Fl → Sl → Prop := fun fl ρ' => ∀ σ' H' F', Go K c.P ρ σ H F ρ' σ' H' F' → match fl with
  | .nx => D.nx σ' H'
  | .bk => D.bk σ' H'
  | .ct => D.ct σ' H'
  | .rt r => ∀ v, RC K (Fr ρ σ H) ρ' σ' H' F' r v → D.rt v H'
def SE (K : Kx) (c : Ct) (ρ : Sl) (σ : St) (H F : Hp) : Exc → Sl → Prop := fun e ρ' => ∀ cv dd σ' H' F', Go K c.P ρ σ H F ρ' σ' H' F' → c.ER e cv dd H' → c.W cv dd σ' H'
def tS (K : Kx) (c : Ct) (m : M Fl) : TS := fun D σ H => ∃ F ρ, Rp K F ρ σ H ∧ Out (m ρ) (SK K c D ρ σ H F) (SE K c ρ σ H F)
abbrev DS (X : Cx) (c : Ct) (s : Stmt) (m : M Fl) : Prop := PS X s (tS X.kx c m)
abbrev DSs (X : Cx) (c : Ct) (ss : List Stmt) (m : M Fl) : Prop := PSs X ss (tS X.kx c m)
section
variable {K : Kx} {c : Ct} {D : Ends} {ρ ρ1 : Sl} {σ σ1 : St} {H H1 F F1 : Hp}
theorem SK.base (g : Go K c.P ρ σ H F ρ1 σ1 H1 F1) {fl : Fl} {ρ' : Sl} (h : SK K c D ρ σ H F fl ρ') : SK K c D ρ1 σ1 H1 F1 fl ρ' := fun σ' H' F' g' => by
  have q := h σ' H' F' (g.trans g')
  cases fl with
  | nx => exact q
  | bk => exact q
  | ct => exact q
  | rt r => exact fun v rc => q v (rc_base g rc)
theorem SE.base (g : Go K c.P ρ σ H F ρ1 σ1 H1 F1) {e : Exc} {ρ' : Sl} (h : SE K c ρ σ H F e ρ') : SE K c ρ1 σ1 H1 F1 e ρ' := fun cv dd σ' H' F' g' er => h cv dd σ' H' F' (g.trans g') er
theorem SE.ex {e : Exc} {ρ' : Sl} (h : SE K c ρ σ H F e ρ') : ∀ cv dd H' F', Go K c.P ρ σ H F ρ' σ H' F' → c.ER e cv dd H' → c.W cv dd σ H' := fun cv dd H' F' g er => h cv dd σ H' F' g er
theorem tS.at (g : Go K c.P ρ σ H F ρ1 σ1 H1 F1) {m : M Fl} (h : Out (m ρ1) (SK K c D ρ σ H F) (SE K c ρ σ H F)) : tS K c m D σ1 H1 := ⟨F1, ρ1, g.rp, Out.mono h (fun _ _ q => q.base g) fun _ _ q => q.base g⟩
/-- an expression first -/
theorem tE.at {α β : Type} {R : FR → Sl → St → Hp → Hp → α → β → Prop} {m : M α} {f : α → M Fl} {Q : β → Hp → Prop} (h : tS K c (M.bind m f) D σ H)
    (hq : ∀ {F ρ a ρ' v H' F'}, Go K c.P ρ σ H F ρ' σ H' F' → R (Fr ρ σ H) ρ' σ H' F' a v → Out (f a ρ') (SK K c D ρ σ H F) (SE K c ρ σ H F) → Q v H') : Tr K c R m σ H Q := by
  obtain ⟨F, ρ, r, h⟩ := h
  exact ⟨F, ρ, r, Out.mono (Out.bind h) (fun a ρ' q v H' F' g rr => hq g rr q) fun e ρ' q => q.ex⟩
end
section
variable {X : Cx} {c : Ct} {s : Stmt} {ss : List Stmt} {e a b d : Expr} {es : List Expr} {pos : Pos} {m1 m2 : M Fl} {x y z : Str} {i j l : Nat}
theorem dss_nil : DSs X c [] sSkip := pss_imp pss_nil fun D σ H ⟨F, ρ, r, h⟩ => h σ H F (Go.refl r)
theorem dss_cons (h1 : DS X c s m1) (h2 : DSs X c ss m2) : DSs X c (s :: ss) (sSeq m1 m2) := pss_imp (pss_cons h1 h2) fun D σ H ⟨F, ρ, r, h⟩ => by
  refine ⟨F, ρ, r, Out.mono (Out.bind h) (fun fl ρ1 q => ?_) fun e ρ1 q => q⟩
  intro σ1 H1 F1 g
  cases fl with
  | nx => exact tS.at g q
  | bk => exact q σ1 H1 F1 g
  | ct => exact q σ1 H1 F1 g
  | rt r => exact q σ1 H1 F1 g
theorem dss_one (h1 : DS X c s m1) : DSs X c [s] m1 := pss_one h1
theorem ds_pass : DS X c (.Pass pos) sSkip := ps_imp ps_pass fun D σ H ⟨F, ρ, r, h⟩ => h σ H F (Go.refl r)
theorem ds_break : DS X c (.Break pos) sBk := ps_imp ps_break fun D σ H ⟨F, ρ, r, h⟩ => h σ H F (Go.refl r)
theorem ds_cont : DS X c (.Continue pos) sCt := ps_imp ps_continue fun D σ H ⟨F, ρ, r, h⟩ => h σ H F (Go.refl r)
theorem ds_expr {m : M PyData} (he : DE X c e m) (hs : swapsWith e none pos.line X.env = pure false := by rfl) : DS X c (.Expr e pos) (sDo m) := ps_imp (ps_expr he hs) fun D σ H q =>
  tE.at q fun g _ o => o σ _ _ g
theorem ds_exprO {m : M C} (he : DO X c e m) (hs : swapsWith e none pos.line X.env = pure false := by rfl) : DS X c (.Expr e pos) (sDo m) := ps_imp (ps_expr he hs) fun D σ H q =>
  tE.at q fun g _ o => o σ _ _ g
theorem ds_ret {m : M C} (he : DO X c e m) : DS X c (.Return (some e) pos) (sRet m) := ps_imp (ps_ret he) fun D σ H q =>
  tE.at q fun g r o => o σ _ _ g _ r
theorem ds_retN : DS X c (.Return none pos) (sRet (M.pure (.d .none))) := ps_imp ps_retN fun D σ H ⟨F, ρ, r, h⟩ => h σ H F (Go.refl r) .non .non
theorem ds_if {t : M Bool} {as bs : List Stmt} (hc : DT X c e t) (ha : DSs X c as m1) (hb : DSs X c bs m2) : DS X c (.If e as bs pos) (sIf t m1 m2) := ps_imp (ps_if hc ha hb) fun D σ H q =>
  tE.at (R := RB) q fun {F ρ a ρ' v H' F'} g r o => by
    cases r
    cases a with
    | true => exact tS.at g o
    | false => exact tS.at g o
theorem ds_set {m : M C} {pos' : Pos} (hN : X.N.Nodup) (hi : X.N[i]? = some x) (hx : Loc X.env.scope x) (hP : c.P.all i = false) (he : DO X c e m) (hs : swapsWith e (some (.Name x pos')) pos.line X.env = pure false := by rfl) (hf : X.fn x = true ∨ X.env.scope.names.lookup x = some .local := by first | exact .inl rfl | exact .inr rfl | assumption) :
    DS X c (.Assign [.Name x pos'] e pos) (sSet i m) := ps_imp (ps_set hN hi hx he hs hf) fun D σ H q =>
  tE.at q fun {F ρ a ρ' v H' F'} g r o => o _ _ _ (g.put r hP)
theorem ds_setR {K : Kx} {m : M C} {D : Ends} {σ : St} {H : Hp} (hP : c.P.all i = false) (q : tS K c (sSet i m) D σ H) : Tr K c (RC K) m σ H fun v H' => D.nx (σ.set i (some v)) H' :=
  tE.at q fun {F ρ a ρ' v H' F'} g r o => o _ _ _ (g.put r hP)
/-! ### targets -/
def TGd (K : Kx) (c : Ct) (g : PyData → M Unit) : TG := fun v σ H Q => ∃ F ρ x, Rp K F ρ σ H ∧ Dp K F v x ∧ Out (g x ρ) (fun _ ρ' => ∀ σ' H' F', Go K c.P ρ σ H F ρ' σ' H' F' → Q σ' H') fun _ _ => True
def TGsd (K : Kx) (c : Ct) (g : List PyData → M Unit) : TGs := fun vs σ H Q => ∃ F ρ xs, Rp K F ρ σ H ∧ DpAll K F vs xs ∧ Out (g xs ρ) (fun _ ρ' => ∀ σ' H' F', Go K c.P ρ σ H F ρ' σ' H' F' → Q σ' H') fun _ _ => True
structure DG (X : Cx) (c : Ct) (tg : Expr) (g : PyData → M Unit) : Prop where
  pg : PG X tg (TGd X.kx c g)
  ne : ∀ x ρ e ρ', g x ρ ≠ .err e ρ'
structure DGs (X : Cx) (c : Ct) (tgs : List Expr) (gs : List (PyData → M Unit)) : Prop where
  pg : PGs X tgs (TGsd X.kx c (gsL gs))
  ne : ∀ xs ρ e ρ', gsL gs xs ρ ≠ .err e ρ'
theorem pg_imp {tg : Expr} {t t' : TG} (h : PG X tg t) (i : ∀ v σ H Q, t' v σ H Q → t v σ H Q) : PG X tg t' := ⟨fun pins s σ H v u Q I r q => h.run pins s σ H v u Q I r (i v σ H Q q)⟩
theorem pgs_imp {tg : List Expr} {t t' : TGs} (h : PGs X tg t) (i : ∀ v σ H Q, t' v σ H Q → t v σ H Q) : PGs X tg t' := ⟨fun pins s σ H v u Q I r q => h.run pins s σ H v u Q I r (i v σ H Q q)⟩
theorem dg_n (hN : X.N.Nodup) (hi : X.N[i]? = some x) (hx : Loc X.env.scope x) (hP : c.P.all i = false) (hf : X.fn x = true ∨ X.env.scope.names.lookup x = some .local := by first | exact .inl rfl | exact .inr rfl | assumption) : DG X c (.Name x pos) (gN i) :=
  ⟨pg_imp (pg_name hN hi hx hf) fun v σ H Q ⟨F, ρ, x, r, d, o⟩ => o _ _ _ ((Go.refl r).put (c := .d x) d hP), fun _ _ _ _ q => by cases q⟩
theorem dgs_nil : DGs X c [] [] := ⟨pgs_imp pgs_nil fun v σ H Q ⟨F, ρ, xs, r, d, o⟩ => by
  cases d with
  | nil => exact ⟨rfl, o σ H F (Go.refl r)⟩
  | cons _ _ => exact o.elim, fun xs ρ e ρ' q => by
    cases xs with
    | nil => cases q
    | cons _ _ => cases q⟩
theorem dgs_cons {g : PyData → M Unit} {gs : List (PyData → M Unit)} (h1 : DG X c e g) (h2 : DGs X c es gs) (hs : (assignEach (e :: es) X.env).map (·.2) = assign e X.env :: (assignEach es X.env).map (·.2) := by rfl) : DGs X c (e :: es) (g :: gs) :=
  ⟨pgs_imp (pgs_cons h1.pg h2.pg hs) fun v σ H Q ⟨F, ρ, xs, r, d, o⟩ => by
    cases d with
    | nil => exact o.elim
    | cons d t =>
      refine ⟨_, _, rfl, F, ρ, _, r, d, Out.mono (Out.bind o) (fun _ ρ1 q σ1 H1 F1 g1 => ?_) fun _ _ q => q⟩
      exact ⟨F1, ρ1, _, g1.rp, dpAll_mono g1.fr t, Out.mono q (fun _ ρ2 q2 σ2 H2 F2 g2 => q2 σ2 H2 F2 (g1.trans g2)) fun _ _ q => q⟩,
   fun xs ρ e ρ' q => by
    cases xs with
    | nil => cases q
    | cons x xs =>
      have q' : M.bind (g x) (fun _ => gsL gs xs) ρ = .err e ρ' := q
      unfold M.bind at q'
      cases z : g x ρ with
      | ok u ρ1 => rw [z] at q'; exact h2.ne _ _ _ _ q'
      | err e1 ρ1 => exact h1.ne _ _ _ _ z
      | stuck => rw [z] at q'; cases q'⟩
theorem dg_t {k n : Nat} {gs : List (PyData → M Unit)} (hc : X.calm = true) (h : DGs X c es gs) (hl : gs.length = n := by rfl) (hn : (assignEach es X.env).length = n := by rfl) (hst : (assignEach es X.env).findIdx? (·.1) = none := by rfl) : DG X c (.Tuple es k pos) (gT gs) :=
  ⟨pg_imp (pg_tup hc h.pg hn hst) fun v σ H Q ⟨F, ρ, x, r, d, o⟩ => by
    cases d with
    | tup hs ha =>
      rename_i a vs xs o0
      have o' : Out ((if xs.length = gs.length then gsL gs xs else M.stuck) ρ) (fun _ ρ' => ∀ σ' H' F', Go X.kx c.P ρ σ H F ρ' σ' H' F' → Q σ' H') (fun _ _ => True) := o
      by_cases hl2 : xs.length = gs.length
      · rw [if_pos hl2] at o'
        exact ⟨a, vs, rfl, sqT_mono r.sub hs, by rw [dpa_len ha, hl2, hl], F, ρ, xs, r, ha, o'⟩
      · rw [if_neg hl2] at o'; exact o'.elim
    | _ => exact o.elim,
   fun x ρ e ρ' q => by
    cases x with
    | tuple xs =>
      have q' : (if xs.length = gs.length then gsL gs xs else M.stuck) ρ = .err e ρ' := q
      by_cases hl2 : xs.length = gs.length
      · rw [if_pos hl2] at q'; exact h.ne _ _ _ _ q'
      · rw [if_neg hl2] at q'; cases q'
    | _ => cases q⟩
theorem Out.noerr {α : Type} {r : Res α} {P : α → Sl → Prop} {E : Exc → Sl → Prop} (h : Out r P E) (n : ∀ e ρ', r ≠ .err e ρ') : Out r P fun _ _ => True := by
  cases r with
  | ok a ρ => exact h
  | err e ρ => exact (n e ρ rfl).elim
  | stuck => exact h
theorem ds_asg {tg : Expr} {m : M PyData} {g : PyData → M Unit} (he : DE X c e m) (hg : DG X c tg g) (hs : swapsWithSole [tg] e pos.line X.env = pure false := by rfl) (hw : swappedStores [tg] e X.env = pure none := by rfl)
    (h1 : (assignEach [tg] X.env).map (·.2) = [assign tg X.env] := by rfl) : DS X c (.Assign [tg] e pos) (sAsg m g) := ps_imp (ps_asg he hg.pg hs hw h1) fun D σ H q =>
  tE.at q fun {F ρ a ρ' v H' F'} g1 r o => ⟨F', ρ', a, g1.rp, r, Out.mono (Out.noerr (Out.bind o) fun e ρ2 => hg.ne _ _ _ _) (fun _ ρ2 q2 σ2 H2 F2 g2 => q2 σ2 H2 F2 (g1.trans g2)) fun _ _ q => q⟩
theorem ds_asg2 {t1 t2 : Expr} {m : M PyData} {g g' : PyData → M Unit} (he : DE X c e m) (h1 : DG X c t1 g) (h2 : DG X c t2 g') (ha : (assignEach [t1, t2] X.env).map (·.2) = [assign t1 X.env, assign t2 X.env] := by rfl) (hw : swappedStores [t1, t2] e X.env = pure none := by rfl) :
    DS X c (.Assign [t1, t2] e pos) (sAsg2 m g g') := ps_imp (ps_asg2 he h1.pg h2.pg ha hw) fun D σ H q =>
  tE.at q fun {F ρ a ρ' v H' F'} g1 r o => ⟨F', ρ', a, g1.rp, r, Out.mono (Out.noerr (Out.bind o) fun e ρ2 => h1.ne _ _ _ _) (fun _ ρ2 q2 σ2 H2 F2 g2 => ⟨F2, ρ2, a, g2.rp, dp_mono g2.fr r,
    Out.mono (Out.noerr (Out.bind q2) fun e ρ2 => h2.ne _ _ _ _) (fun _ ρ3 q3 σ3 H3 F3 g3 => q3 σ3 H3 F3 ((g1.trans g2).trans g3)) fun _ _ q => q⟩) fun _ _ q => q⟩
/-! ### a, b = e, f with plain locals -/
theorem rc_go {K : Kx} {P : Pn} {F F1 H H1 : Hp} {ρ ρ1 : Sl} {σ : St} {fr : FR} {k : C} {v : V} (g : Go K P ρ σ H F ρ1 σ H1 F1) (r : RC K fr ρ σ H F k v) : RC K fr ρ1 σ H1 F1 k v := by
  have own : (∃ p o, v = .ref p ∧ fr p ∧ F p = none ∧ H p = some o ∧ IsO K F k o ∧ ¬ Own ρ σ p) → ∃ p o, v = .ref p ∧ fr p ∧ F1 p = none ∧ H1 p = some o ∧ IsO K F1 k o ∧ ¬ Own ρ1 σ p := fun ⟨p, o, h1, h2, h3, h4, h5, h6⟩ => by
    refine ⟨p, o, h1, h2, ?_, g.hp p o h6 h4, isO_mono g.fr h5, fun z => ?_⟩
    · cases y : F1 p with
      | none => rfl
      | some u =>
        rcases g.nw p u y with w | w | w
        · rw [h3] at w; cases w
        · rw [h4] at w; cases w
        · exact (h6 w).elim
    · rcases g.ow p z with w | w
      · exact h6 w
      · rw [h4] at w; cases w
  cases k with
  | d x => exact dp_mono g.fr r
  | f x => exact r
  | l x => exact own r
  | k x => exact own r
  | t x => exact own r
/-- the first one's slot filled, the other one's thing is still nobody's -/
theorem rc_put {K : Kx} {F H : Hp} {ρ : Sl} {σ : St} {fr' : FR} {k k' : C} {v v' : V} (i : Nat) (r' : RC K fr' ρ σ H F k' v') (hne : ∀ p, v = .ref p → k.own = true → ¬ fr' p) (hl : ρ.length = σ.length) :
    RC K fr' (ρ.set i (some k)) (σ.set i (some v)) H F k' v' := by
  have own : (∃ p o, v' = .ref p ∧ fr' p ∧ F p = none ∧ H p = some o ∧ IsO K F k' o ∧ ¬ Own ρ σ p) → ∃ p o, v' = .ref p ∧ fr' p ∧ F p = none ∧ H p = some o ∧ IsO K F k' o ∧ ¬ Own (ρ.set i (some k)) (σ.set i (some v)) p := fun ⟨p, o, h1, h2, h3, h4, h5, h6⟩ => by
    refine ⟨p, o, h1, h2, h3, h4, h5, fun ⟨j, oj, ej⟩ => ?_⟩
    rcases own_at oj with ⟨rfl, hlt, k0, q1, q2⟩ | ⟨hj, oj⟩
    · cases q1
      rw [List.getElem?_set_self (by rw [← hl]; exact hlt)] at ej
      cases ej
      exact hne p rfl q2 h2
    · rw [List.getElem?_set_ne (Ne.symm hj)] at ej
      exact h6 ⟨j, oj, ej⟩
  cases k' with
  | d x => exact r'
  | f x => exact r'
  | l x => exact own r'
  | k x => exact own r'
  | t x => exact own r'
theorem rc_there {K : Kx} {F H : Hp} {ρ : Sl} {σ : St} {fr : FR} {k : C} {v : V} (r : RC K fr ρ σ H F k v) : ∀ p, v = .ref p → k.own = true → ¬ Fr ρ σ H p := fun p e hk z => by
  have own : (∃ p o, v = .ref p ∧ fr p ∧ F p = none ∧ H p = some o ∧ IsO K F k o ∧ ¬ Own ρ σ p) → False := fun ⟨q, o, h1, _, _, h4, _, h6⟩ => by
    rw [h1] at e; cases e
    rcases z with z | z
    · rw [h4] at z; cases z
    · exact h6 z
  cases k with
  | d x => cases hk
  | f x => cases hk
  | l x => exact own r
  | k x => exact own r
  | t x => exact own r
theorem ds_set2 {ma mb : M C} {px py pt : Pos} {kt k2 pt2} (hc : X.calm = true) (hN : X.N.Nodup) (hi : X.N[i]? = some x) (hj : X.N[j]? = some y) (hij : i ≠ j) (hPi : c.P.all i = false) (hPj : c.P.all j = false)
    (hx : X.env.scope.names.lookup x = some .local) (hy : X.env.scope.names.lookup y = some .local) (ha : DO X c a ma) (hb : DO X c b mb)
    (hw : swappedStores [.Tuple [.Name x px, .Name y py] kt pt] (.Tuple [a, b] k2 pt2) X.env = pure (some [x, y]))
    (hs : swapsWithSole [.Tuple [.Name x px, .Name y py] kt pt] (.Tuple [a, b] k2 pt2) pos.line X.env = pure false := by rfl) (he : starEach [a, b] X.env = (false, eval a X.env) :: starEach [b] X.env := by rfl) (he2 : starEach [b] X.env = (false, eval b X.env) :: starEach [] X.env := by rfl) :
    DS X c (.Assign [.Tuple [.Name x px, .Name y py] kt pt] (.Tuple [a, b] k2 pt2) pos) (sSet2 i j ma mb) :=
  ps_imp (ps_par hc hN hi hj hij hx hy (pa_cons ha (pa_cons hb pa_nil he2) he) hw hs) fun D σ H q =>
    tE.at q fun {F ρ ka ρ1 va H1 F1} g1 r1 o => ⟨F1, ρ1, g1.rp, Out.mono (Out.bind o) (fun kb ρ2 q2 vb H2 F2 g2 r2 => by
      refine ⟨va, vb, rfl, ?_⟩
      have r1' := rc_go g2 r1
      have g12 := g1.trans g2
      have gp := g12.put r1' hPi
      have r2' := rc_base g1 (rc_put i r2 (rc_there r1) g2.rp.len)
      exact q2 _ _ _ (gp.put r2' hPj)) fun e ρ2 q cv dd H2 F2 g2 er => q cv dd σ H2 F2 (g1.trans g2) er⟩
end
end DL

set_option Elab.async false
set_option linter.all false
set_option maxRecDepth 100000
set_option maxHeartbeats 2000000
namespace DL
open PySem PySem.Spec PyProof.Rows L2
/-! ### a, b, c = e, f, g with plain locals -/
section
variable {X : Cx} {c : Ct} {s : Stmt} {ss : List Stmt} {e a b d : Expr} {es : List Expr} {pos : Pos} {m1 m2 : M Fl} {x y z : Str} {i j l : Nat}
theorem ds_set3 {ma mb mc : M C} {px py pz pt : Pos} {kt k2 pt2} (hc : X.calm = true) (hN : X.N.Nodup) (hi : X.N[i]? = some x) (hj : X.N[j]? = some y) (hl : X.N[l]? = some z) (hij : i ≠ j) (hil : i ≠ l) (hjl : j ≠ l) (hPi : c.P.all i = false) (hPj : c.P.all j = false) (hPl : c.P.all l = false)
    (hx : X.env.scope.names.lookup x = some .local) (hy : X.env.scope.names.lookup y = some .local) (hz : X.env.scope.names.lookup z = some .local) (ha : DO X c a ma) (hb : DO X c b mb) (hd : DO X c d mc)
    (hw : swappedStores [.Tuple [.Name x px, .Name y py, .Name z pz] kt pt] (.Tuple [a, b, d] k2 pt2) X.env = pure (some [x, y, z]))
    (hs : swapsWithSole [.Tuple [.Name x px, .Name y py, .Name z pz] kt pt] (.Tuple [a, b, d] k2 pt2) pos.line X.env = pure false := by rfl) (he : starEach [a, b, d] X.env = (false, eval a X.env) :: starEach [b, d] X.env := by rfl) (he2 : starEach [b, d] X.env = (false, eval b X.env) :: starEach [d] X.env := by rfl)
    (he3 : starEach [d] X.env = (false, eval d X.env) :: starEach [] X.env := by rfl) :
    DS X c (.Assign [.Tuple [.Name x px, .Name y py, .Name z pz] kt pt] (.Tuple [a, b, d] k2 pt2) pos) (sSet3 i j l ma mb mc) :=
  ps_imp (ps_par3 hc hN hi hj hl hij hil hjl hx hy hz (pa_cons ha (pa_cons hb (pa_cons hd pa_nil he3) he2) he) hw hs) fun D σ H q =>
    tE.at q fun {F ρ ka ρ1 va H1 F1} g1 r1 o => ⟨F1, ρ1, g1.rp, Out.mono (Out.bind o) (fun kb ρ2 q2 vb H2 F2 g2 r2 => ⟨F2, ρ2, g2.rp, Out.mono (Out.bind q2) (fun kc ρ3 q3 vc H3 F3 g3 r3 => by
      refine ⟨va, vb, vc, rfl, ?_⟩
      have ra := rc_go g3 (rc_go g2 r1)
      have rb := rc_go g3 r2
      have g123 := (g1.trans g2).trans g3
      have l3 := g3.rp.len
      have gp := g123.put ra hPi
      have gq := gp.put (rc_base g1 (rc_put i rb (rc_there r1) l3)) hPj
      have rc1 := rc_put i r3 (rc_there (rc_go g2 r1)) l3
      have rc3 := rc_base (g1.trans g2) (rc_put j rc1 (rc_there r2) (by rw [List.length_set, List.length_set]; exact l3))
      exact q3 _ _ _ (gq.put rc3 hPl)) fun e ρ3 q cv dd H3 F3 g3 er => q cv dd σ H3 F3 ((g1.trans g2).trans g3) er⟩) fun e ρ2 q cv dd H2 F2 g2 er => q cv dd σ H2 F2 (g1.trans g2) er⟩
/-! ### raise X() -/
theorem pmk_own0 {C : Addr} {bmB : List Value} {B newId initId : String} {p : Pos} (F : ExcBaseFacts B newId initId bmB) (q : PySem.W.excIn X.K C bmB newId = true) (gC : X.mg x = some (.ref C)) (kC : PySem.W.keepIn X.K (.ref C) = true) (r : Raises X (.ref C)) (hg : Gl X x)
    (hdb : (x == ("__debug__" : Str)) = false := by decide) : PMk X (.Call (.Name x p) [] [] pos) (fun _ H Q => Q (.ref C) none H) := by
  intro pins s σ H Q I h
  refine wpAny_Call_Name_kw (ld_glob I hg gC ?_ hdb)
  refine PySem.W.callWith_K0 I.kIn kC ?_
  obtain ⟨bm, N, nm, qn, bs, hdct, sn, sub, ab, col, dd, k0, k1, k2, k3, k5, mN, hC, hN, hni, T⟩ := exc_obj I.kIn q
  refine wpAny_call_exc_subT F T hC hN hni (fun h' e hm => ?_) (by show 0 ≤ sizeLine; exact Nat.zero_le _)
  exact mk_of I hm r h (I.hok.gone hm.new)
/-- an own exception class, as the head leaves it -/
structure ExF (K : Kx) (x : Str) (C : Addr) : Prop where
  gl : K.mg x = some (.ref C)
  ex : PySem.W.excIn K.fr C He.veBase "ValueError.__new__" = true
  kp : PySem.W.keepIn K.fr (.ref C) = true
  sb : PySem.W.subIn K.fr (.ref C) (.type "BaseException") = some true
  ty : PySem.W.typeIn K.fr (.ref C) = some (.type "type")
theorem ds_raise {C : Addr} {p p2 : Pos} {ex : Exc} (hc : X.calm = true) (tk : Takes X c.W) (hx : ExF X.kx x C) (hg : Gl X x) (he : ∀ H, c.ER ex (.ref C) none H) (hdb : (x == ("__debug__" : Str)) = false := by decide) :
    DS X c (.Raise (some (.Call (.Name x p) [] [] p2)) none pos) (sErr ex) := ps_imp (L2.ps_raise hc tk (pmk_own0 PySem.F.excBase_ValueError hx.ex hx.gl hx.kp (raises_own hx.sb hx.ty) hg hdb)) fun D σ H ⟨F, ρ, r, o⟩ => o _ _ σ H F (Go.refl r) (he H)
/-! ### lists of a slot's own -/
theorem lsAt_own {K : Kx} {F H : Hp} {ρ : Sl} {σ : St} {xs : List PyData} (r : Rp K F ρ σ H) (h : lsAt i ρ = some xs) : ∃ a vs, ρ[i]? = some (some (.l xs)) ∧ σ[i]? = some (some (.ref a)) ∧ H a = some (.lst vs) ∧ DpAll K F vs xs := by
  unfold lsAt at h
  cases z : ρ[i]? with
  | none => rw [z] at h; cases h
  | some o =>
    cases o with
    | none => rw [z] at h; cases h
    | some k =>
      rw [z] at h
      cases k with
      | l ys =>
        cases h
        obtain ⟨a, o, h1, h2, h3, h4⟩ := r.own i _ z rfl
        obtain ⟨vs, rfl, h5⟩ := isO_l h4
        exact ⟨a, vs, rfl, h1, h3, h5⟩
      | _ => cases h
theorem sOn_out {K : Kx} {D : Ends} {ρ : Sl} {m : M Fl} {P : Fl → Sl → Prop} {E : Exc → Sl → Prop} (h : Out (sOn i m ρ) P E) : ∃ xs, lsAt i ρ = some xs ∧ Out (m ρ) P E := by
  unfold sOn at h
  cases z : lsAt i ρ with
  | none => rw [z] at h; exact h.elim
  | some xs => rw [z] at h; exact ⟨xs, rfl, h⟩
theorem ds_app {m : M PyData} {p1 p2 p3 : Pos} (ho : PE X a (L2.tVar i)) (he : DE X c e m) (hbase : attributeBase a "append" X.env (eval a X.env) = eval a X.env := by rfl)
    (hfew : ((backTo p2 (starEach [e] X.env)).all (fun x => !x.1) && (backToKw p2 (keywordEach [] X.env)).all (fun x => x.1.isSome)
      && decide ([e].length + ([] : List Keyword).length + (if ([] : List Keyword).isEmpty then 0 else 1) < 30)) = true := by rfl)
    (hline : (p1.endLine == p2.line) = true := by rfl) (hs : starEach [e] X.env = (false, eval e X.env) :: starEach [] X.env := by rfl) (hplain : (backTo p2 (starEach [] X.env)).any (·.1) = false := by rfl)
    (hsw : swapsWith (.Call (.Attribute a "append" p1) [e] [] p2) none p3.line X.env = pure false := by rfl) :
    DS X c (.Expr (.Call (.Attribute a "append" p1) [e] [] p2) p3) (sApp i m) :=
  ps_imp (ps_expr (pe_bm PySem.F.plainAttrs_list PySem.F.slot_list_append (by rfl) mt_append ho (pa_cons he pa_nil hs) hbase hfew hline hs hplain) hsw) fun D σ H ⟨F, ρ, r, o⟩ => by
    obtain ⟨xs, hl, o⟩ := sOn_out (K := X.kx) (D := D) o
    obtain ⟨a, vs, z, h1, h2, h3⟩ := lsAt_own r hl
    refine ⟨.ref a, h1, .inl ⟨rfl, vs, .of h2⟩, F, ρ, r, Out.mono (Out.bind o) (fun y ρ1 q v H1 F1 g1 d1 => ?_) fun e ρ1 q => q.ex⟩
    cases hl1 : lsAt i ρ1 with
    | none => rw [hl1] at q; exact q.elim
    | some xs1 =>
      rw [hl1] at q
      have q' : Out ((if xs1.length < sizeLine then .ok .nx (ρ1.set i (some (.l (xs1 ++ [y])))) else .stuck : Res Fl)) (SK X.kx c D ρ σ H F) (SE X.kx c ρ σ H F) := q
      by_cases hz : xs1.length < sizeLine
      · rw [if_pos hz] at q'
        obtain ⟨a1, vs1, z1, k1, k2, k3⟩ := lsAt_own g1.rp hl1
        rw [h1] at k1; cases k1
        exact ⟨a, vs1, v, rfl, rfl, k2, by rw [dpa_len k3]; exact hz, q' σ _ _ (g1.trans (Go.upd g1.rp z1 rfl rfl h1 (dpa_app k3 (dpa_one d1))))⟩
      · rw [if_neg hz] at q'; exact q'.elim
/-- xs[k] = v -/
theorem ds_setIx {mi mv : M PyData} {p1 : Pos} (ho : PE X a (L2.tVar i)) (hi : DE X c b mi) (he : DE X c e mv) (hs : swapsWithSole [.Subscript a b p1] e pos.line X.env = pure false := by rfl) (hw : swappedStores [.Subscript a b p1] e X.env = pure none := by rfl)
    (h1 : (assignEach [.Subscript a b p1] X.env).map (·.2) = [assign (.Subscript a b p1) X.env] := by rfl)
    (ha : ∀ v, assign (.Subscript a b p1) X.env v = (do
      let ov ← holding [v] (eval a X.env)
      let iv ← holding [v, ov] (eval b X.env)
      standAt p1
      holding [v, ov, iv] (setItem ov iv v)
      release [v, ov, iv] []) := by intro _; rfl) : DS X c (.Assign [.Subscript a b p1] e pos) (sSetIx i mi mv) :=
  ps_imp (ps_asg he (pg_sub ho hi set_list ha) hs hw h1) fun D σ H q => by
    refine tE.at (R := RD X.kx) q fun {F ρ d ρ1 v H1 F1} g1 d1 o => ?_
    obtain ⟨xs, hl, o⟩ := sOn_out (K := X.kx) (D := D) o
    obtain ⟨a, vs, z, h1, h2, h3⟩ := lsAt_own g1.rp hl
    refine ⟨.ref a, h1, F1, ρ1, g1.rp, Out.mono (Out.bind o) (fun y ρ2 q u H2 F2 g2 d2 => ?_) fun e ρ2 q cv dd H2 F2 g2 er => q cv dd σ H2 F2 (g1.trans g2) er⟩
    cases hl1 : lsAt i ρ2 with
    | none => rw [hl1] at q; exact q.elim
    | some xs1 =>
      rw [hl1] at q
      have q' : Out (match ixOf xs1.length y with
        | some k => .ok .nx (ρ2.set i (some (.l (xs1.set k d))))
        | none => .stuck) (SK X.kx c D ρ σ H F) (SE X.kx c ρ σ H F) := q
      cases hk : ixOf xs1.length y with
      | none => rw [hk] at q'; exact q'.elim
      | some k =>
        rw [hk] at q'
        cases y with
        | int jj =>
          cases d2
          obtain ⟨a1, vs1, z1, k1, k2, k3⟩ := lsAt_own g2.rp hl1
          rw [h1] at k1; cases k1
          exact ⟨a, vs1, jj, k, rfl, rfl, k2, by rw [dpa_len k3]; exact hk, q' σ _ _ ((g1.trans g2).trans (Go.upd g2.rp z1 rfl rfl h1 (dpa_set (dp_mono g2.fr d1) k k3)))⟩
        | _ => cases hk
end
end DL

set_option Elab.async false
set_option linter.all false
set_option maxRecDepth 100000
set_option maxHeartbeats 2000000
namespace DL
open PySem PySem.Spec PyProof.Rows L2 RZ
section
variable {X : Cx} {c : Ct} {s : Stmt} {ss : List Stmt} {e a b d tg iter : Expr} {es body : List Expr} {pos : Pos} {m1 m2 : M Fl} {x y z : Str} {i j l : Nat}
/-! ### while -/
theorem sWhile_out {K : Kx} {t : M Bool} {b : M Fl} {ρ : Sl} {P : Fl → Sl → Prop} {E : Exc → Sl → Prop} (h : Out (sWhile t b ρ) P E) : ∃ n, Out (sWhileN t b n ρ) P E := by
  unfold sWhile at h
  by_cases hn : ∃ n, ¬ (sWhileN t b n ρ).bad
  · rw [dif_pos hn] at h
    exact ⟨_, h⟩
  · rw [dif_neg hn] at h
    exact h.elim
theorem ds_while {t : M Bool} {b : M Fl} {bs : List Stmt} (hp : PassesOwn (model X.prog X.w) X.A X.env X.xe) (hc : DT X c e t) (hb : DSs X c bs b) : DS X c (.While e bs [] pos) (sWhile t b) :=
  ps_imp (ps_while hp hc hb) fun D σ0 H0 ⟨F0, ρ0, r0, o0⟩ => by
    obtain ⟨n0, o0⟩ := sWhile_out (K := X.kx) o0
    refine ⟨fun n σ H => ∃ F ρ, Go X.kx c.P ρ0 σ0 H0 F0 ρ σ H F ∧ Out (sWhileN t b n ρ) (SK X.kx c D ρ0 σ0 H0 F0) (SE X.kx c ρ0 σ0 H0 F0), ⟨n0, F0, ρ0, Go.refl r0, o0⟩, ?_⟩
    rintro n σ H ⟨F, ρ, g, o⟩
    cases n with
    | zero => exact o.elim
    | succ n =>
      have o1 := Out.bind o
      refine ⟨F, ρ, g.rp, Out.mono o1 (fun k ρ1 q kb H1 F1 g1 hk => ?_) fun e ρ1 q => (q.base g).ex⟩
      cases hk
      cases k with
      | false => exact q σ H1 F1 (g.trans g1)
      | true =>
        refine ⟨fun σ' H' => ∃ F ρ, Go X.kx c.P ρ0 σ0 H0 F0 ρ σ' H' F ∧ Out (sWhileN t b n ρ) (SK X.kx c D ρ0 σ0 H0 F0) (SE X.kx c ρ0 σ0 H0 F0), fun σ' H' ⟨F2, ρ2, g2, o2⟩ => ⟨n, Nat.lt_succ_self n, F2, ρ2, g2, o2⟩, ?_⟩
        have q1 := Out.bind q
        refine ⟨F1, ρ1, g1.rp, Out.mono q1 (fun fl ρ2 q2 σ2 H2 F2 g2 => ?_) fun e ρ2 q2 => (q2.base g).base g1⟩
        have g3 := (g.trans g1).trans g2
        cases fl with
        | nx => exact ⟨F2, ρ2, g3, q2⟩
        | ct => exact ⟨F2, ρ2, g3, q2⟩
        | bk => exact q2 σ2 H2 F2 g3
        | rt r => exact fun v rr => q2 σ2 H2 F2 g3 v (rc_base (g.trans g1) rr)
/-! ### for -/
/-- the items that an iterator gives -/
def ItD (K : Kx) (J : It) (xs : List PyData) (F : Hp) : Prop := ∀ (F1 : Hp) (P : Pn) (ρ : Sl) (σ : St) (H : Hp), Same F F1 → Rp K F1 ρ σ H →
  J.stop xs.length H ∧ ∀ i d, xs[i]? = some d → J.go i H ∧ ∀ x H', J.yld i H x H' → ∃ F2, Go K P ρ σ H F1 ρ σ H' F2 ∧ Dp K F2 x d
def tI (K : Kx) (c : Ct) (mi : M (List PyData)) : TI := fun σ H R => ∃ F ρ, Rp K F ρ σ H ∧ Out (mi ρ) (fun xs ρ' => ∀ J H' F', Go K c.P ρ σ H F ρ' σ H' F' → ItD K J xs F' → R J H')
  fun e ρ' => ∀ cv dd H' F', Go K c.P ρ σ H F ρ' σ H' F' → c.ER e cv dd H' → c.W cv dd σ H'
abbrev DI (X : Cx) (c : Ct) (tg iter : Expr) (mi : M (List PyData)) : Prop := PI X tg iter (tI X.kx c mi)
theorem pi_imp {t t' : TI} (h : PI X tg iter t) (i : ∀ σ H R, t' σ H R → t σ H R) : PI X tg iter t' := ⟨fun pins s σ H R I q => h.run pins s σ H R I (i σ H R q)⟩
theorem pi_or {t t' : TI} (h : PI X tg iter t) (h' : PI X tg iter t') : PI X tg iter (fun σ H R => t σ H R ∨ t' σ H R) := ⟨fun pins s σ H R I q => by
  rcases q with q | q
  · exact h.run pins s σ H R I q
  · exact h'.run pins s σ H R I q⟩
theorem ds_for {mi : M (List PyData)} {g : PyData → M Unit} {b : M Fl} {bs : List Stmt} (hp : PassesOwn (model X.prog X.w) X.A X.env X.xe) (hc : X.calm = true) (hi : DI X c tg iter mi) (hg : DG X c tg g) (hb : DSs X c bs b)
    (hs : ∀ x, foldedSetIterable iter X.env x = pure x := by intro _; rfl) : DS X c (.For tg iter bs [] pos) (sFor mi g b) :=
  ps_imp (ps_for hp hc hi hg.pg hb hs) fun D σ0 H0 ⟨F0, ρ0, r0, o0⟩ => by
    refine ⟨F0, ρ0, r0, Out.mono (Out.bind o0) (fun xs ρ1 o1 J H1 F1 g1 hJ => ?_) fun e ρ1 q => q.ex⟩
    let Wv : Nat → St → Hp → Prop := fun i σ H => i ≤ xs.length ∧ ∃ F ρ, Go X.kx c.P ρ0 σ0 H0 F0 ρ σ H F ∧ Same F1 F ∧ Out (sForL g b (xs.drop i) ρ) (SK X.kx c D ρ0 σ0 H0 F0) (SE X.kx c ρ0 σ0 H0 F0)
    refine ⟨fun i m σ H => m = xs.length - i ∧ Wv i σ H, ⟨_, rfl, Nat.zero_le _, F1, ρ1, g1, Same.refl F1, o1⟩, ?_⟩
    rintro i m σ H ⟨rfl, hi, F, ρ, gg, sm, o⟩
    obtain ⟨hstop, hgo⟩ := hJ F c.P ρ σ H sm gg.rp
    by_cases hlt : i < xs.length
    · obtain ⟨h1, h2⟩ := hgo i _ (List.getElem?_eq_getElem hlt)
      refine .inr ⟨h1, Wv (i + 1), fun σ' H' w => ⟨xs.length - (i + 1), by omega, rfl, w⟩, fun v H' y => ?_⟩
      obtain ⟨F2, g2, d2⟩ := h2 v H' y
      rw [List.drop_eq_getElem_cons hlt] at o
      have o2 := Out.bind o
      refine ⟨F2, ρ, _, g2.rp, d2, Out.mono (Out.noerr o2 fun e ρ2 => hg.ne _ _ _ _) (fun _ ρ3 o3 σ3 H3 F3 g3 => ?_) fun _ _ q => q⟩
      refine ⟨F3, ρ3, g3.rp, Out.mono (Out.bind o3) (fun fl ρ4 q4 σ4 H4 F4 g4 => ?_) fun e ρ4 q => ((q.base gg).base g2).base g3⟩
      have g5 := ((gg.trans g2).trans g3).trans g4
      have s5 : Same F1 F4 := ((sm.trans g2.fr).trans g3.fr).trans g4.fr
      cases fl with
      | nx => exact ⟨hlt, F4, ρ4, g5, s5, q4⟩
      | ct => exact ⟨hlt, F4, ρ4, g5, s5, q4⟩
      | bk => exact q4 σ4 H4 F4 g5
      | rt r => exact fun v rr => q4 σ4 H4 F4 g5 v (rc_base ((gg.trans g2).trans g3) rr)
    · have e : i = xs.length := by omega
      subst e
      rw [List.drop_eq_nil_of_le (Nat.le_refl _)] at o
      exact .inl ⟨hstop, o σ H F gg⟩
/-! ### what is walked -/
theorem itl_d {K : Kx} {F : Hp} {a : Addr} {vs : List V} {xs : List PyData} (hs : Rd F a (.lst vs)) (ha : DpAll K F vs xs) : ItD K (Itl K a) xs F := fun F1 P ρ σ H sm r => by
  have s1 : SqL K H a vs := rd_seq (sm.trans r.sub) hs
  refine ⟨⟨vs, s1, by rw [dpa_len ha]; exact Nat.le_refl _⟩, fun i d e => ?_⟩
  obtain ⟨v, h1, h2⟩ := dpa_at ha e
  refine ⟨⟨vs, v, s1, h1⟩, fun x H' ⟨e1, e2⟩ => ?_⟩
  subst e1
  have := e2 vs s1
  rw [h1] at this; cases this
  exact ⟨F1, Go.refl r, dp_mono sm h2⟩
theorem itt_d {K : Kx} {F : Hp} {a : Addr} {vs : List V} {xs : List PyData} (hs : SqT K F a vs) (ha : DpAll K F vs xs) : ItD K (Itt K a) xs F := fun F1 P ρ σ H sm r => by
  have s1 : SqT K H a vs := sqT_mono (sm.trans r.sub) hs
  refine ⟨⟨vs, s1, by rw [dpa_len ha]; exact Nat.le_refl _⟩, fun i d e => ?_⟩
  obtain ⟨v, h1, h2⟩ := dpa_at ha e
  refine ⟨⟨vs, v, s1, h1⟩, fun x H' ⟨e1, e2⟩ => ?_⟩
  subst e1
  have := e2 vs s1
  rw [h1] at this; cases this
  exact ⟨F1, Go.refl r, dp_mono sm h2⟩
theorem di_seq {m : M PyData} (h : DE X c iter m) : DI X c tg iter (mItems m) := pi_imp (pi_or (pi_list (tg := tg) h) (pi_tup (tg := tg) h)) fun σ H R ⟨F, ρ, r, o⟩ => by
  have o1 := Out.bind o
  cases z : m ρ with
  | ok d ρ1 =>
    rw [z] at o1
    obtain ⟨xs, e, q⟩ := Out.of o1
    cases d with
    | list ys =>
      cases e
      refine .inl ⟨F, ρ, r, ?_⟩
      unfold T1
      rw [z]
      intro v H1 F1 g1 d1
      cases d1 with
      | lst hs ha => exact ⟨_, rfl, ⟨_, rd_seq g1.rp.sub hs⟩, q _ H1 F1 g1 (itl_d hs ha)⟩
    | tuple ys =>
      cases e
      refine .inr ⟨F, ρ, r, ?_⟩
      unfold T1
      rw [z]
      intro v H1 F1 g1 d1
      cases d1 with
      | tup hs ha => exact ⟨_, rfl, ⟨_, sqT_mono g1.rp.sub hs⟩, q _ H1 F1 g1 (itt_d hs ha)⟩
    | _ => cases e
  | err e ρ1 =>
    rw [z] at o1
    refine .inl ⟨F, ρ, r, ?_⟩
    unfold T1
    rw [z]
    exact o1
  | stuck => rw [z] at o1; exact o1.elim
theorem itr_d {K : Kx} {F : Hp} {lo : Int} {n : Nat} : ItD K (Itr lo n) (intsL lo n) F := fun F1 P ρ σ H sm r => by
  have hl : (intsL lo n).length = n := by unfold intsL; rw [List.length_map, List.length_range]
  refine ⟨by rw [hl]; exact Nat.le_refl n, fun i d e => ?_⟩
  have hi : i < n := by rw [← hl]; exact (List.getElem?_eq_some_iff.mp e).1
  have hd : d = .int (lo + i) := by
    unfold intsL at e
    rw [List.getElem?_map, List.getElem?_range hi] at e
    exact (Option.some.inj e).symm
  subst hd
  refine ⟨hi, fun x H' ⟨e1, e2⟩ => ?_⟩
  subst e1 e2
  exact ⟨F1, Go.refl r, .int _⟩
theorem di_range1 {m : M PyData} {p pos : Pos} (hg : Gl X "range") (hm : X.mg "range" = none) (ha : DE X c a m) (hs : starEach [a] X.env = [(false, eval a X.env)] := by rfl) : DI X c tg (.Call (.Name "range" p) [a] [] pos) (mRng1 m) :=
  pi_imp (pi_range1 hg hm (pa_cons ha pa_nil hs) hs) fun σ H R ⟨F, ρ, r, o⟩ => ⟨F, ρ, r, Out.mono (Out.bind o) (fun d ρ1 q v H1 F1 g1 d1 => by
    obtain ⟨xs, e, q⟩ := Out.of q
    cases d with
    | int j =>
      cases d1
      have e' : (if -(2 ^ 62) ≤ j ∧ j < 2 ^ 62 then some (intsL 0 j.toNat) else none) = some xs := e
      by_cases hj : -(2 ^ 62) ≤ j ∧ j < 2 ^ 62
      · rw [if_pos hj] at e'
        cases e'
        exact ⟨j, rfl, hj.1, hj.2, q _ H1 F1 g1 itr_d⟩
      · rw [if_neg hj] at e'; cases e'
    | _ => cases e) fun e ρ1 q => q⟩
theorem di_range2 {m m' : M PyData} {p pos : Pos} (hg : Gl X "range") (hm : X.mg "range" = none) (ha : DE X c a m) (hb : DE X c b m') (hs : starEach [a, b] X.env = [(false, eval a X.env), (false, eval b X.env)] := by rfl) (hs2 : starEach [b] X.env = [(false, eval b X.env)] := by rfl) : DI X c tg (.Call (.Name "range" p) [a, b] [] pos) (mRng2 m m') :=
  pi_imp (pi_range2 hg hm (pa_cons ha (pa_cons hb pa_nil hs2) (by rw [hs, hs2])) hs hs2) fun σ H R ⟨F, ρ, r, o⟩ => ⟨F, ρ, r, Out.mono (Out.bind o) (fun d ρ1 q v H1 F1 g1 d1 => ⟨F1, ρ1, g1.rp, Out.mono (Out.bind q) (fun d' ρ2 q u H2 F2 g2 d2 => by
    obtain ⟨xs, e, q⟩ := Out.of q
    cases d with
    | int i =>
      cases d' with
      | int j =>
        cases d1
        cases d2
        have e' : (if -(2 ^ 62) ≤ i ∧ i < 2 ^ 62 ∧ -(2 ^ 62) ≤ j ∧ j < 2 ^ 62 then some (intsL i (j - i).toNat) else none) = some xs := e
        by_cases hj : -(2 ^ 62) ≤ i ∧ i < 2 ^ 62 ∧ -(2 ^ 62) ≤ j ∧ j < 2 ^ 62
        · rw [if_pos hj] at e'
          cases e'
          exact ⟨i, j, rfl, hj, q _ H2 F2 (g1.trans g2) itr_d⟩
        · rw [if_neg hj] at e'; cases e'
      | _ => cases e
    | _ => cases e) fun e ρ2 q cv dd H2 F2 g2 er => q cv dd H2 F2 (g1.trans g2) er⟩) fun e ρ1 q => q⟩
/-- enumerate of a list -/
theorem enumL_at {xs : List PyData} {i : Nat} {d : PyData} (h : (enumL xs)[i]? = some d) : ∃ x, xs[i]? = some x ∧ d = .tuple [.int (i : Int), x] := by
  unfold enumL at h
  rw [List.getElem?_zipWith] at h
  cases e : xs[i]? with
  | none => rw [e] at h; cases h1 : (List.range xs.length)[i]? <;> (rw [h1] at h; cases h)
  | some x =>
    have hi := (List.getElem?_eq_some_iff.mp e).1
    rw [e, List.getElem?_range hi] at h
    exact ⟨x, rfl, (Option.some.inj h).symm⟩
theorem enumL_len {xs : List PyData} : (enumL xs).length = xs.length := by unfold enumL; rw [List.length_zipWith, List.length_range, Nat.min_self]
theorem ite_d {K : Kx} {F : Hp} {a : Addr} {vs : List V} {xs : List PyData} (hs : Rd F a (.lst vs)) (ha : DpAll K F vs xs) : ItD K (Ite K a) (enumL xs) F := fun F1 P ρ σ H sm r => by
  have s1 : SqL K H a vs := rd_seq (sm.trans r.sub) hs
  refine ⟨⟨vs, s1, by rw [dpa_len ha, enumL_len]; exact Nat.le_refl _⟩, fun i d e => ?_⟩
  obtain ⟨x, e1, rfl⟩ := enumL_at e
  obtain ⟨v, h1, h2⟩ := dpa_at ha e1
  refine ⟨⟨vs, v, s1, h1⟩, fun w H' ⟨T, x', e2, e3, e4, e5⟩ => ?_⟩
  have := e5 vs s1
  rw [h1] at this; cases this
  subst e2 e4
  have g := Go.data (P := P) r e3 (.tup [.int (i : Nat), v])
  exact ⟨_, g, .tup (.inl (.inl upd_same)) (.cons (.int _) (dpa_one (dp_mono g.fr (dp_mono sm h2))))⟩
theorem di_enum {m : M PyData} {p pos tpos : Pos} {elts : List Expr} {kk : Nat} (hg : Gl X "enumerate") (hm : X.mg "enumerate" = none) (ha : DE X c a m) (hs : starEach [a] X.env = [(false, eval a X.env)] := by rfl) : DI X c (.Tuple elts kk tpos) (.Call (.Name "enumerate" p) [a] [] pos) (mEnum m) :=
  pi_imp (pi_enum hg hm (pa_cons ha pa_nil hs) hs) fun σ H R ⟨F, ρ, r, o⟩ => ⟨F, ρ, r, Out.mono (Out.bind o) (fun d ρ1 q v H1 F1 g1 d1 => by
    obtain ⟨xs, e, q⟩ := Out.of q
    cases d with
    | list ys =>
      cases e
      cases d1 with
      | lst hs ha => exact ⟨_, _, rfl, rd_seq g1.rp.sub hs, q _ H1 F1 g1 (ite_d hs ha)⟩
    | _ => cases e) fun e ρ1 q => q⟩
/-- zip of two lists, of two tuples -/
theorem zipL_at {xs ys : List PyData} {i : Nat} {d : PyData} (h : (zipL xs ys)[i]? = some d) : ∃ x y, xs[i]? = some x ∧ ys[i]? = some y ∧ d = .tuple [x, y] := by
  unfold zipL at h
  rw [List.getElem?_zipWith] at h
  cases e : xs[i]? with
  | none => rw [e] at h; cases h
  | some x =>
    cases e' : ys[i]? with
    | none => rw [e, e'] at h; cases h
    | some y => rw [e, e'] at h; exact ⟨x, y, rfl, rfl, (Option.some.inj h).symm⟩
theorem zipL_len {xs ys : List PyData} : (zipL xs ys).length = min xs.length ys.length := by unfold zipL; rw [List.length_zipWith]
theorem itz_d {K : Kx} {F : Hp} {a b : Addr} {vs ws : List V} {xs ys : List PyData} (hs : Rd F a (.lst vs)) (ha : DpAll K F vs xs) (hs' : Rd F b (.lst ws)) (hb : DpAll K F ws ys) : ItD K (Itz K a b) (zipL xs ys) F := fun F1 P ρ σ H sm r => by
  have s1 : SqL K H a vs := rd_seq (sm.trans r.sub) hs
  have s2 : SqL K H b ws := rd_seq (sm.trans r.sub) hs'
  refine ⟨⟨vs, ws, s1, s2, by rw [dpa_len ha, dpa_len hb, zipL_len]; omega⟩, fun i d e => ?_⟩
  obtain ⟨x, y, e1, e2, rfl⟩ := zipL_at e
  obtain ⟨v, h1, h2⟩ := dpa_at ha e1
  obtain ⟨w, k1, k2⟩ := dpa_at hb e2
  refine ⟨⟨vs, ws, v, w, s1, s2, h1, k1⟩, fun u H' ⟨T, x', y', e2, e3, e4, e5, e6⟩ => ?_⟩
  have := e5 vs s1
  rw [h1] at this; cases this
  have := e6 ws s2
  rw [k1] at this; cases this
  subst e2 e4
  have g := Go.data (P := P) r e3 (.tup [v, w])
  exact ⟨_, g, .tup (.inl (.inl upd_same)) (.cons (dp_mono g.fr (dp_mono sm h2)) (dpa_one (dp_mono g.fr (dp_mono sm k2))))⟩
theorem itzt_d {K : Kx} {F : Hp} {a b : Addr} {vs ws : List V} {xs ys : List PyData} (hs : SqT K F a vs) (ha : DpAll K F vs xs) (hs' : SqT K F b ws) (hb : DpAll K F ws ys) : ItD K (ItzT K a b) (zipL xs ys) F := fun F1 P ρ σ H sm r => by
  have s1 : SqT K H a vs := sqT_mono (sm.trans r.sub) hs
  have s2 : SqT K H b ws := sqT_mono (sm.trans r.sub) hs'
  refine ⟨⟨vs, ws, s1, s2, by rw [dpa_len ha, dpa_len hb, zipL_len]; omega⟩, fun i d e => ?_⟩
  obtain ⟨x, y, e1, e2, rfl⟩ := zipL_at e
  obtain ⟨v, h1, h2⟩ := dpa_at ha e1
  obtain ⟨w, k1, k2⟩ := dpa_at hb e2
  refine ⟨⟨vs, ws, v, w, s1, s2, h1, k1⟩, fun u H' ⟨T, x', y', e2, e3, e4, e5, e6⟩ => ?_⟩
  have := e5 vs s1
  rw [h1] at this; cases this
  have := e6 ws s2
  rw [k1] at this; cases this
  subst e2 e4
  have g := Go.data (P := P) r e3 (.tup [v, w])
  exact ⟨_, g, .tup (.inl (.inl upd_same)) (.cons (dp_mono g.fr (dp_mono sm h2)) (dpa_one (dp_mono g.fr (dp_mono sm k2))))⟩
theorem di_zip {m m' : M PyData} {p pos tpos : Pos} {elts : List Expr} {kk : Nat} (hg : Gl X "zip") (hm : X.mg "zip" = none) (ha : DE X c a m) (hb : DE X c b m') (hs : starEach [a, b] X.env = (false, eval a X.env) :: starEach [b] X.env := by rfl) (hs2 : starEach [b] X.env = (false, eval b X.env) :: starEach [] X.env := by rfl)
    (hpl : (backTo pos (starEach [b] X.env)).any (·.1) = false := by rfl) : DI X c (.Tuple elts kk tpos) (.Call (.Name "zip" p) [a, b] [] pos) (mZip m m') :=
  pi_imp (pi_zipA hg hm (pa_cons ha (pa_cons hb pa_nil hs2) hs) hs hpl) fun σ H R ⟨F, ρ, r, o⟩ => ⟨F, ρ, r, Out.mono (Out.bind o) (fun d ρ1 q v H1 F1 g1 d1 => ⟨F1, ρ1, g1.rp, Out.mono (Out.bind q) (fun d' ρ2 q u H2 F2 g2 d2 => by
    obtain ⟨xs, e, q⟩ := Out.of q
    have d1' := dp_mono g2.fr d1
    cases d with
    | list i =>
      cases d' with
      | list j =>
        cases e
        cases d1' with
        | lst hs ha => cases d2 with
          | lst hs2 hb => exact ⟨_, _, _, _, rfl, .inl ⟨rd_seq g2.rp.sub hs, rd_seq g2.rp.sub hs2, q _ H2 F2 (g1.trans g2) (itz_d hs ha hs2 hb)⟩⟩
      | _ => cases e
    | tuple i =>
      cases d' with
      | tuple j =>
        cases e
        cases d1' with
        | tup hs ha => cases d2 with
          | tup hs2 hb => exact ⟨_, _, _, _, rfl, .inr ⟨sqT_mono g2.rp.sub hs, sqT_mono g2.rp.sub hs2, q _ H2 F2 (g1.trans g2) (itzt_d hs ha hs2 hb)⟩⟩
      | _ => cases e
    | _ => cases e) fun e ρ2 q cv dd H2 F2 g2 er => q cv dd H2 F2 (g1.trans g2) er⟩) fun e ρ1 q => q⟩
end
end DL

set_option Elab.async false
set_option linter.all false
set_option maxRecDepth 100000
set_option maxHeartbeats 2000000
namespace DL
open PySem PySem.Spec PyProof.Rows L2
section
variable {K : Kx} {F F' H H' : Hp} {cs ρ' : Sl} {vs : List V} {N : List Str} {pm : List Nat} {σ' : St}
theorem app_at {k i : Nat} {c : C} (h : (cs ++ List.replicate k none)[i]? = some (some c)) : cs[i]? = some (some c) := by
  by_cases hi : i < cs.length
  · rw [List.getElem?_append_left hi] at h; exact h
  · rw [List.getElem?_append_right (by omega), List.getElem?_replicate] at h
    split at h <;> cases h
theorem app_at' {k i : Nat} {c : Option C} (h : cs[i]? = some c) : (cs ++ List.replicate k none)[i]? = some c := by
  rw [List.getElem?_append_left (List.getElem?_eq_some_iff.mp h).1]; exact h
theorem start_at {i : Nat} {v : V} (h : (start N vs)[i]? = some (some v)) : (vs.map some)[i]? = some (some v) := by
  unfold L2.start at h
  by_cases hi : i < (vs.map some).length
  · rw [List.getElem?_append_left hi] at h; exact h
  · rw [List.getElem?_append_right (by omega), List.getElem?_replicate] at h
    split at h <;> cases h
theorem start_lt {i : Nat} (h : i < vs.length) : (start N vs)[i]? = (vs.map some)[i]? := by
  unfold L2.start
  rw [List.getElem?_append_left (by rw [List.length_map]; exact h)]
theorem start_at' {i : Nat} {v : Option V} (h : (vs.map some)[i]? = some v) : (start N vs)[i]? = some v := by
  rw [start_lt (by have := (List.getElem?_eq_some_iff.mp h).1; rwa [List.length_map] at this)]; exact h
theorem rp_start (r : Rp K F cs (vs.map some) H) : Rp K F (cs ++ List.replicate (N.length - vs.length) none) (start N vs) H := by
  have hl : cs.length = vs.length := by rw [r.len, List.length_map]
  refine ⟨r.sub, ?_, fun i x e => ?_, fun i x e => ?_, fun i k e hk => ?_, fun i j a ⟨k, e, hk⟩ ⟨k', e', hk'⟩ h1 h2 => r.apart i j a ⟨k, app_at e, hk⟩ ⟨k', app_at e', hk'⟩ (start_at h1) (start_at h2)⟩
  · unfold L2.start
    rw [List.length_append, List.length_append, hl, List.length_map, List.length_replicate, List.length_replicate]
  · obtain ⟨v, h1, h2⟩ := r.dat i x (app_at e)
    exact ⟨v, start_at' h1, h2⟩
  · obtain ⟨v, h1, h2⟩ := r.fn i x (app_at e)
    exact ⟨v, h1, start_at' h2⟩
  · obtain ⟨a, o, h1, h2⟩ := r.own i k (app_at e) hk
    exact ⟨a, o, start_at' h1, h2⟩
theorem own_start {k : Nat} {b : Addr} (h : Own (cs ++ List.replicate k none) (start N vs) b) : Own cs (vs.map some) b := by
  obtain ⟨i, ⟨c, e, hc⟩, h1⟩ := h
  exact ⟨i, ⟨c, app_at e, hc⟩, start_at h1⟩
theorem own_start' {k : Nat} {b : Addr} (h : Own cs (vs.map some) b) : Own (cs ++ List.replicate k none) (start N vs) b := by
  obtain ⟨i, ⟨c, e, hc⟩, h1⟩ := h
  exact ⟨i, ⟨c, app_at' e, hc⟩, start_at' h1⟩
theorem fin_at {n i : Nat} {o : Option C} (h : (finSl n pm cs ρ')[i]? = some o) : i < n ∧ o = if i ∈ pm then (ρ'[i]?).join else (cs[i]?).join := by
  unfold finSl at h
  have hi : i < n := by
    have := (List.getElem?_eq_some_iff.mp h).1
    rwa [List.length_map, List.length_range] at this
  rw [List.getElem?_map, List.getElem?_range hi] at h
  exact ⟨hi, (Option.some.inj h).symm⟩
theorem fin_get {n i : Nat} (hi : i < n) : (finSl n pm cs ρ')[i]? = some (if i ∈ pm then (ρ'[i]?).join else (cs[i]?).join) := by
  unfold finSl
  rw [List.getElem?_map, List.getElem?_range hi]; rfl
theorem ok_sl {n i : Nat} (h : okSl n pm cs = true) (o : ownAt cs i) : i ∈ pm := by
  unfold okSl at h
  rw [Bool.and_eq_true] at h
  obtain ⟨c, e, hc⟩ := o
  have hl : cs.length = n := of_decide_eq_true h.1
  have hi : i < n := by rw [← hl]; exact (List.getElem?_eq_some_iff.mp e).1
  have q := List.all_eq_true.mp h.2 i (List.mem_range.mpr hi)
  rw [e] at q
  have q' : (pm.contains i || !c.own) = true := q
  rw [hc, Bool.not_true, Bool.or_false] at q'
  exact List.contains_iff_mem.mp q'
theorem go_fin (r : Rp K F cs (vs.map some) H) (ok : okSl vs.length pm cs = true) (g : Go K (ofP pm) (cs ++ List.replicate (N.length - vs.length) none) (start N vs) H F ρ' σ' H' F') :
    Go K (allP vs.length) cs (vs.map some) H F (finSl vs.length pm cs ρ') (vs.map some) H' F' ∧ ∀ p, Own (finSl vs.length pm cs ρ') (vs.map some) p → Own ρ' σ' p := by
  have sm : ∀ i, i ∈ pm → i < vs.length → σ'[i]? = (vs.map some)[i]? := fun i h1 h2 => by rw [g.pn i (List.contains_iff_mem.mpr h1), start_lt h2]
  have ownF : ∀ i, ownAt (finSl vs.length pm cs ρ') i → i < vs.length ∧ i ∈ pm ∧ ownAt ρ' i := fun i ⟨c, e, hc⟩ => by
    obtain ⟨h1, h2⟩ := fin_at e
    by_cases hp : i ∈ pm
    · rw [if_pos hp] at h2
      exact ⟨h1, hp, c, join_some h2.symm, hc⟩
    · rw [if_neg hp] at h2
      exact (hp (ok_sl ok ⟨c, join_some h2.symm, hc⟩)).elim
  have up : ∀ p, Own (finSl vs.length pm cs ρ') (vs.map some) p → Own ρ' σ' p := fun p ⟨i, o, e⟩ => by
    obtain ⟨h1, h2, h3⟩ := ownF i o
    exact ⟨i, h3, by rw [sm i h2 h1]; exact e⟩
  refine ⟨⟨⟨g.rp.sub, by unfold finSl; rw [List.length_map, List.length_range, List.length_map], fun i x e => ?_, fun i x e => ?_, fun i c e hc => ?_, fun i j a o1 o2 e1 e2 => ?_⟩, g.fr, fun b o n e => g.hp b o (fun z => n (own_start z)) e, g.th, fun b o e => ?_, fun b o => ?_, fun i hi => rfl, fun i hi o => ?_, rfl⟩, up⟩
  · obtain ⟨h1, h2⟩ := fin_at e
    by_cases hp : i ∈ pm
    · rw [if_pos hp] at h2
      obtain ⟨v, q1, q2⟩ := g.rp.dat i x (join_some h2.symm)
      exact ⟨v, by rw [← sm i hp h1]; exact q1, q2⟩
    · rw [if_neg hp] at h2
      obtain ⟨v, q1, q2⟩ := r.dat i x (join_some h2.symm)
      exact ⟨v, q1, dp_mono g.fr q2⟩
  · obtain ⟨h1, h2⟩ := fin_at e
    by_cases hp : i ∈ pm
    · rw [if_pos hp] at h2
      obtain ⟨v, q1, q2⟩ := g.rp.fn i x (join_some h2.symm)
      exact ⟨v, q1, by rw [← sm i hp h1]; exact q2⟩
    · rw [if_neg hp] at h2
      exact r.fn i x (join_some h2.symm)
  · obtain ⟨h1, h2⟩ := fin_at e
    obtain ⟨_, hp, _⟩ := ownF i ⟨c, e, hc⟩
    rw [if_pos hp] at h2
    obtain ⟨a, o, q1, q2⟩ := g.rp.own i c (join_some h2.symm) hc
    exact ⟨a, o, by rw [← sm i hp h1]; exact q1, q2⟩
  · obtain ⟨h1, h2, h3⟩ := ownF i o1
    obtain ⟨k1, k2, k3⟩ := ownF j o2
    exact g.rp.apart i j a h3 k3 (by rw [sm i h2 h1]; exact e1) (by rw [sm j k2 k1]; exact e2)
  · rcases g.nw b o e with w | w | w
    · exact .inl w
    · exact .inr (.inl w)
    · exact .inr (.inr (own_start w))
  · rcases g.ow b (up b o) with w | w
    · exact .inl (own_start w)
    · exact .inr w
  · have hp := ok_sl ok o
    obtain ⟨c, e, hc⟩ := o
    obtain ⟨c', e', hc'⟩ := g.po i (List.contains_iff_mem.mpr hp) ⟨c, app_at' e, hc⟩
    exact ⟨c', by rw [fin_get (of_decide_eq_true hi), if_pos hp, e']; rfl, hc'⟩
end
section
variable {P : Program} {w : World} {K : Kx} {base : Heap} {x : Str} {params : Arguments} {body : List Stmt} {scope : Scope} {f : Addr} {fd : FuncData} {N ps : List Str} {k : Nat} {ER : ERx} {pm : List Nat} {m : M Fl}
/-- a def by its body -/
theorem fn_by (Fd : FunD K.fr x x params body scope [] [] f fd) (S : FnScope N ps scope)
    (hbody : ∀ (cdv : Value) (A : Around) (outer : List Env) (s : Shared) (H : Hp) (E : XK), Room k (A.deeper (envOfC x scope s.heap.objs.size f cdv)) →
      DSs (cxOf (L2.CX P w) P w K.fr K.mg base N x scope f cdv A outer s H E) ⟨ofP pm, ER, fun cls d _ H => E cls d H⟩ body m) :
    FnOk P w K.fr K.mg base (L2.CX P w) (k + 1) f fd ps (spF K ER ps.length (run ps.length N.length pm m)) := by
  refine FunD.ok Fd S (fun vs H Q E h => h.1) fun cdv A outer s H vs Q E hr h => ?_
  obtain ⟨hl, F, cs, r, o⟩ := h
  refine ⟨_, hbody cdv A outer s H E hr, ?_⟩
  unfold run at o
  by_cases ok : okSl ps.length pm cs = true
  · rw [if_pos ok] at o
    rw [← hl] at o ok
    refine ⟨F, _, rp_start r, ?_⟩
    cases z : m (cs ++ List.replicate (N.length - vs.length) none) with
    | stuck => rw [z] at o; exact o.elim
    | err e ρ' =>
      rw [z] at o
      intro cv dd σ' H' F' g er
      exact o cv dd H' F' (go_fin r ok g).1 er
    | ok fl ρ' =>
      rw [z] at o
      cases fl with
      | nx =>
        intro σ' H' F' g
        exact o .non H' F' (go_fin r ok g).1 .non
      | bk => exact o.elim
      | ct => exact o.elim
      | rt c =>
        intro σ' H' F' g v rc
        obtain ⟨g', up⟩ := go_fin r ok g
        refine o v H' F' g' (rc_own rc fun p fr no => ⟨?_, fun z => no (up p z)⟩)
        rcases fr with y | y
        · exact .inl y
        · exact .inr (own_start y)
  · rw [if_neg ok] at o; exact o.elim
/-- what the head says of a def -/
structure DefK (K : Kx) (x : Str) (params : Arguments) (body : List Stmt) (scope : Scope) : Prop where
  ex : ∃ f fd, FunD K.fr x x params body scope [] [] f fd ∧ K.mg x = some (.ref f)
theorem kn_of (Dk : DefK K x params body scope) (S : FnScope N ps scope)
    (hb : ∀ (kV doc pm : Value) (an : Option Addr) (cdv ct : Value) (us : List Value), us.length = ps.length → bindArgs (PySem.W.fnOf x x params body scope .none kV doc pm an cdv ct) ⟨us, []⟩ = pure (ps.zip us))
    (hbody : ∀ (f : Addr) (cdv : Value) (A : Around) (outer : List Env) (s : Shared) (H : Hp) (E : XK), Room k (A.deeper (envOfC x scope s.heap.objs.size f cdv)) →
      DSs (cxOf (L2.CX P w) P w K.fr K.mg base N x scope f cdv A outer s H E) ⟨ofP pm, ER, fun cls d _ H => E cls d H⟩ body m) :
    Kn P w K base (k + 1) ER x ps (run ps.length N.length pm m) := by
  obtain ⟨f, fd, Fd, hm⟩ := Dk.ex
  exact ⟨f, fd, fn_by Fd S (hbody f), hm, Fd.kp, Fd.bindsN hb⟩
theorem knK_of (Dk : DefK K x params body scope) (S : FnScope N ps scope)
    (hb : ∀ (kV doc pm : Value) (an : Option Addr) (cdv ct : Value) (us : List Value), us.length = ps.length → bindArgs (PySem.W.fnOf x x params body scope .none kV doc pm an cdv ct) ⟨us, []⟩ = pure (ps.zip us))
    (hk : ∀ (kV doc pm : Value) (an : Option Addr) (cdv ct : Value) (ws : List Value), ws.length = ps.length → bindArgs (PySem.W.fnOf x x params body scope .none kV doc pm an cdv ct) ⟨[], ps.zip ws⟩ = pure (ps.zip ws))
    (hbody : ∀ (f : Addr) (cdv : Value) (A : Around) (outer : List Env) (s : Shared) (H : Hp) (E : XK), Room k (A.deeper (envOfC x scope s.heap.objs.size f cdv)) →
      DSs (cxOf (L2.CX P w) P w K.fr K.mg base N x scope f cdv A outer s H E) ⟨ofP pm, ER, fun cls d _ H => E cls d H⟩ body m) :
    KnK P w K base (k + 1) ER x ps (run ps.length N.length pm m) := by
  obtain ⟨f, fd, Fd, hm⟩ := Dk.ex
  refine ⟨f, fd, fn_by Fd S (hbody f), hm, Fd.kp, Fd.bindsN hb, ?_⟩
  obtain ⟨oc, od, dV, kV, doc, pm, an, cdv, ct, osl, rfl, lk, hcd, hD, hK⟩ := Fd.ex
  rcases hD with ⟨_, rfl⟩ | ⟨e, _⟩
  · exact fun s ws _ hl => .of_eq (hk kV doc pm an cdv ct ws hl)
  · exact absurd rfl e
end
end DL

set_option Elab.async false
set_option linter.all false
set_option maxRecDepth 100000
set_option maxHeartbeats 2000000
namespace DL
open PySem PySem.Spec PyProof.Rows L2
/-! ### slots of a block -/
theorem wipeS_out {ρ : Sl} {i : Nat} : ∀ {vs : List Nat}, i ∉ vs → (wipeS ρ vs)[i]? = ρ[i]?
  | [], _ => rfl
  | v :: vs, h => by
    rw [List.mem_cons, not_or] at h
    unfold wipeS
    rw [List.getElem?_set_ne (Ne.symm h.1), wipeS_out h.2]
theorem wipeS_len {ρ : Sl} : ∀ {vs : List Nat}, (wipeS ρ vs).length = ρ.length
  | [] => rfl
  | v :: vs => by unfold wipeS; rw [List.length_set, wipeS_len]
theorem wipeS_some {ρ : Sl} {i : Nat} {c : C} : ∀ {vs : List Nat}, (wipeS ρ vs)[i]? = some (some c) → i ∉ vs ∧ ρ[i]? = some (some c)
  | [], h => ⟨by simp, h⟩
  | v :: vs, h => by
    unfold wipeS at h
    by_cases e : v = i
    · subst e
      by_cases hl : v < (wipeS ρ vs).length
      · rw [List.getElem?_set_self hl] at h; cases h
      · rw [List.getElem?_eq_none (by rw [List.length_set]; omega)] at h; cases h
    · rw [List.getElem?_set_ne e] at h
      obtain ⟨h1, h2⟩ := wipeS_some h
      exact ⟨by rw [List.mem_cons, not_or]; exact ⟨fun z => e z.symm, h1⟩, h2⟩
theorem wipe_ext {σ σ' : St} (hl : σ'.length = σ.length) : ∀ {vs : List Nat}, (∀ i, i ∉ vs → σ'[i]? = σ[i]?) → wipe σ' vs = wipe σ vs := fun {vs} he => by
  refine List.ext_getElem? fun i => ?_
  by_cases hi : i ∈ vs
  · have all : ∀ (τ : St) (vs : List Nat), i ∈ vs → (wipe τ vs)[i]? = if i < τ.length then some none else none := fun τ vs => by
      induction vs with
      | nil => intro h; cases h
      | cons v vs ih =>
        intro h
        unfold wipe
        by_cases e : v = i
        · subst e
          by_cases hlt : v < τ.length
          · rw [List.getElem?_set_self (by rw [wipe_length]; exact hlt), if_pos hlt]
          · rw [List.getElem?_eq_none (by rw [List.length_set, wipe_length]; omega), if_neg hlt]
        · rw [List.getElem?_set_ne e]
          rcases List.mem_cons.mp h with z | z
          · exact (e z.symm).elim
          · exact ih z
    rw [all _ _ hi, all _ _ hi, hl]
  · rw [wipe_out hi, wipe_out hi]
    exact he i hi
section
variable {K : Kx} {P : Pn} {F F0 F1 H H0 H1 : Hp} {ρ ρ0 ρ1 : Sl} {σ σ0 σ1 : St} {vs : List Nat}
theorem rp_wipe (r : Rp K F ρ σ H) (σ' : St) (hl : σ'.length = σ.length) (he : ∀ i, i ∉ vs → σ'[i]? = σ[i]?) : Rp K F (wipeS ρ vs) σ' H := by
  refine ⟨r.sub, by rw [wipeS_len, hl]; exact r.len, fun i x e => ?_, fun i x e => ?_, fun i c e hc => ?_, fun i j a ⟨c, e, hc⟩ ⟨c', e', hc'⟩ h1 h2 => ?_⟩
  · obtain ⟨h, e⟩ := wipeS_some e
    rw [he i h]; exact r.dat i x e
  · obtain ⟨h, e⟩ := wipeS_some e
    rw [he i h]; exact r.fn i x e
  · obtain ⟨h, e⟩ := wipeS_some e
    rw [he i h]; exact r.own i c e hc
  · obtain ⟨h, e⟩ := wipeS_some e
    obtain ⟨h', e'⟩ := wipeS_some e'
    rw [he i h] at h1
    rw [he j h'] at h2
    exact r.apart i j a ⟨c, e, hc⟩ ⟨c', e', hc'⟩ h1 h2
theorem own_wipe {σ' : St} (he : ∀ i, i ∉ vs → σ'[i]? = σ[i]?) {b : Addr} (h : Own (wipeS ρ vs) σ' b) : Own ρ σ b := by
  obtain ⟨i, ⟨c, e, hc⟩, h1⟩ := h
  obtain ⟨h, e⟩ := wipeS_some e
  exact ⟨i, ⟨c, e, hc⟩, by rw [← he i h]; exact h1⟩
theorem Go.reset (g : Go K P ρ0 σ0 H0 F0 ρ σ H F) (σ' : St) (hl : σ'.length = σ.length) (he : ∀ i, i ∉ vs → σ'[i]? = σ[i]?) (h1 : ∀ i ∈ vs, P.s i = false) (h2 : ∀ i ∈ vs, P.o i = false) : Go K P ρ0 σ0 H0 F0 (wipeS ρ vs) σ' H F := by
  refine ⟨rp_wipe g.rp σ' hl he, g.fr, g.hp, g.th, g.nw, fun b o => g.ow b (own_wipe he o), fun i hi => ?_, fun i hi o => ?_, hl.trans g.ln⟩
  · rw [he i (fun z => by rw [h1 i z] at hi; cases hi)]; exact g.pn i hi
  · obtain ⟨c, e, hc⟩ := g.po i hi o
    exact ⟨c, by rw [wipeS_out (fun z => by rw [h2 i z] at hi; cases hi)]; exact e, hc⟩
/-- the heap without D -/
def del (H : Hp) (D : Addr) : Hp := fun b => if b = D then none else H b
theorem del_self {D : Addr} : del H D D = none := if_pos rfl
theorem del_ne {D b : Addr} (h : b ≠ D) : del H D b = H b := if_neg h
theorem del_some {D b : Addr} {o : HO} (h : del H D b = some o) : b ≠ D ∧ H b = some o := by
  by_cases e : b = D
  · rw [e, del_self] at h; cases h
  · rw [del_ne e] at h; exact ⟨e, h⟩
theorem upd_del {D : Addr} {o : HO} (h : H D = some o) : L2.upd (del H D) D o = H := by
  funext b
  by_cases e : b = D
  · subst e; rw [upd_same, h]
  · rw [upd_ne e, del_ne e]
theorem del_upd {D : Addr} {o : HO} : del (L2.upd H D o) D = del H D := by
  funext b
  by_cases e : b = D
  · subst e; rw [del_self, del_self]
  · rw [del_ne e, del_ne e, upd_ne e]
theorem del_none {D : Addr} (h : H D = none) : del H D = H := by
  funext b
  by_cases e : b = D
  · subst e; rw [del_self, h]
  · rw [del_ne e]
theorem rp_undel {D : Addr} {o : HO} (r : Rp K F ρ σ (del H D)) (h : H D = some o) : Rp K F ρ σ H := by
  have q := (Go.temp (P := ⟨fun _ => false, fun _ => false⟩) r (del_self (H := H) (D := D)) o).rp
  rw [upd_del h] at q
  exact q
theorem Go.del {D : Addr} {o : HO} (r : Rp K F0 ρ0 σ0 (del H0 D)) (h : H0 D = some o) (g : Go K P ρ0 σ0 H0 F0 ρ σ H F) : Go K P ρ0 σ0 (del H0 D) F0 ρ σ (DL.del H D) F := by
  have f0 : F0 D = none := r.free del_self
  have n0 : ¬ Own ρ0 σ0 D := no_own r del_self
  have f1 : F D = none := by
    cases y : F D with
    | none => rfl
    | some u =>
      rcases g.nw D u y with w | w | w
      · rw [f0] at w; cases w
      · rw [h] at w; cases w
      · exact (n0 w).elim
  have n1 : ¬ Own ρ σ D := fun z => by
    rcases g.ow D z with w | w
    · exact n0 w
    · rw [h] at w; cases w
  have dn : ∀ b, H0 b = none → DL.del H0 D b = none := fun b e => by
    by_cases hb : b = D
    · rw [hb, del_self]
    · rw [del_ne hb]; exact e
  refine ⟨⟨fun b x e => ?_, g.rp.len, g.rp.dat, g.rp.fn, fun i c e hc => ?_, g.rp.apart⟩, g.fr, fun b x n e => ?_, fun b x e => ?_, fun b x e => ?_, fun b e => ?_, g.pn, g.po, g.ln⟩
  · rw [del_ne (fun z => by rw [z, f1] at e; cases e)]; exact g.rp.sub b x e
  · obtain ⟨a, u, h1, h2, h3, h4⟩ := g.rp.own i c e hc
    exact ⟨a, u, h1, h2, by rw [del_ne (fun z => n1 ⟨i, ⟨c, e, hc⟩, by rw [← z]; exact h1⟩)]; exact h3, h4⟩
  · obtain ⟨e1, e2⟩ := del_some e
    rw [del_ne e1]; exact g.hp b x n e2
  · obtain ⟨e1, e2⟩ := del_some e
    obtain ⟨y, e3⟩ := g.th b x e2
    exact ⟨y, by rw [del_ne e1]; exact e3⟩
  · rcases g.nw b x e with w | w | w
    · exact .inl w
    · exact .inr (.inl (dn b w))
    · exact .inr (.inr w)
  · rcases g.ow b e with w | w
    · exact .inl w
    · exact .inr (dn b w)
theorem noOwn_at (h : noOwn vs ρ = true) {i : Nat} (hi : i ∈ vs) : ¬ ownAt ρ i := fun ⟨c, e, hc⟩ => by
  have q := List.all_eq_true.mp h i hi
  rw [e] at q
  have q' : (!c.own) = true := q
  rw [hc] at q'; cases q'
theorem rest_at {ρ' : Sl} {i : Nat} {o : Option C} (h : (restS vs ρ ρ')[i]? = some o) : i < ρ.length ∧ o = if i ∈ vs then (ρ[i]?).join else (ρ'[i]?).join := by
  unfold restS at h
  have hi : i < ρ.length := by
    have := (List.getElem?_eq_some_iff.mp h).1
    rwa [List.length_map, List.length_range] at this
  rw [List.getElem?_map, List.getElem?_range hi] at h
  exact ⟨hi, (Option.some.inj h).symm⟩
theorem rest_len {ρ' : Sl} : (restS vs ρ ρ').length = ρ.length := by unfold restS; rw [List.length_map, List.length_range]
/-- the slots of the block's context -/
def blkP (P : Pn) (vs : List Nat) : Pn := ⟨fun i => !vs.contains i, fun i => P.o i && !vs.contains i⟩
theorem Go.unblk {ρ' : Sl} {H' F' : Hp} (r : Rp K F ρ σ H) (no : noOwn vs ρ = true) (g : Go K (blkP P vs) (wipeS ρ vs) (wipe σ vs) H F ρ' (wipe σ vs) H' F') :
    Go K P ρ σ H F (restS vs ρ ρ') σ H' F' ∧ ∀ p, Own (restS vs ρ ρ') σ p → Own ρ' (wipe σ vs) p := by
  have he : ∀ i, i ∉ vs → (wipe σ vs)[i]? = σ[i]? := fun i hi => wipe_out hi
  have ownR : ∀ i, ownAt (restS vs ρ ρ') i → i ∉ vs ∧ ownAt ρ' i := fun i ⟨c, e, hc⟩ => by
    obtain ⟨h1, h2⟩ := rest_at e
    by_cases hv : i ∈ vs
    · rw [if_pos hv] at h2
      exact (noOwn_at no hv ⟨c, join_some h2.symm, hc⟩).elim
    · rw [if_neg hv] at h2
      exact ⟨hv, c, join_some h2.symm, hc⟩
  have up : ∀ p, Own (restS vs ρ ρ') σ p → Own ρ' (wipe σ vs) p := fun p ⟨i, o, e⟩ => by
    obtain ⟨h1, h2⟩ := ownR i o
    exact ⟨i, h2, by rw [he i h1]; exact e⟩
  refine ⟨⟨⟨g.rp.sub, by rw [rest_len]; exact r.len, fun i x e => ?_, fun i x e => ?_, fun i c e hc => ?_, fun i j a o1 o2 e1 e2 => ?_⟩, g.fr, fun b o n e => g.hp b o (fun z => n (own_wipe he z)) e, g.th, fun b o e => ?_, fun b o => ?_, fun _ _ => rfl, fun i hi o => ?_, rfl⟩, up⟩
  · obtain ⟨h1, h2⟩ := rest_at e
    by_cases hv : i ∈ vs
    · rw [if_pos hv] at h2
      obtain ⟨v, q1, q2⟩ := r.dat i x (join_some h2.symm)
      exact ⟨v, q1, dp_mono g.fr q2⟩
    · rw [if_neg hv] at h2
      obtain ⟨v, q1, q2⟩ := g.rp.dat i x (join_some h2.symm)
      exact ⟨v, by rw [← he i hv]; exact q1, q2⟩
  · obtain ⟨h1, h2⟩ := rest_at e
    by_cases hv : i ∈ vs
    · rw [if_pos hv] at h2
      exact r.fn i x (join_some h2.symm)
    · rw [if_neg hv] at h2
      obtain ⟨v, q1, q2⟩ := g.rp.fn i x (join_some h2.symm)
      exact ⟨v, q1, by rw [← he i hv]; exact q2⟩
  · obtain ⟨h1, h2⟩ := rest_at e
    obtain ⟨hv, _⟩ := ownR i ⟨c, e, hc⟩
    rw [if_neg hv] at h2
    obtain ⟨a, o, q1, q2⟩ := g.rp.own i c (join_some h2.symm) hc
    exact ⟨a, o, by rw [← he i hv]; exact q1, q2⟩
  · obtain ⟨h1, h2⟩ := ownR i o1
    obtain ⟨k1, k2⟩ := ownR j o2
    exact g.rp.apart i j a h2 k2 (by rw [he i h1]; exact e1) (by rw [he j k1]; exact e2)
  · rcases g.nw b o e with w | w | w
    · exact .inl w
    · exact .inr (.inl w)
    · exact .inr (.inr (own_wipe he w))
  · rcases g.ow b (up b o) with w | w
    · exact .inl (own_wipe he w)
    · exact .inr w
  · have hv : i ∉ vs := fun z => noOwn_at no z o
    have hl : i < ρ.length := by obtain ⟨c, e, _⟩ := o; exact (List.getElem?_eq_some_iff.mp e).1
    obtain ⟨c, e, hc⟩ := o
    obtain ⟨c', e', hc'⟩ := g.po i (by show (P.o i && !vs.contains i) = true; rw [hi, Bool.true_and, Bool.not_eq_true']; exact (by simpa using hv)) ⟨c, by rw [wipeS_out hv]; exact e, hc⟩
    refine ⟨c', ?_, hc'⟩
    unfold restS
    rw [List.getElem?_map, List.getElem?_range hl]
    show some (if i ∈ vs then (ρ[i]?).join else (ρ'[i]?).join) = _
    rw [if_neg hv, e']; rfl
end
section
variable {X : Cx} {c : Ct} {elt tg iter : Expr} {ifs : List Expr} {scope : Scope} {own : List (Str × Nat)} {pos : Pos} {mi : M (List PyData)} {g : PyData → M Unit} {t : M Bool} {m : M PyData} {vs : List Nat}
/-- nothing is let out of a block -/
def noW : WX := fun _ _ _ _ => False
abbrev blkCt (c : Ct) (vs : List Nat) : Ct := ⟨blkP c.P vs, c.ER, noW⟩
theorem lc_use (h2 : ∀ xs ρ e ρ', g xs ρ ≠ .err e ρ') {σ : St} {H : Hp} {Q : VK} (q : Tr X.kx c (RC X.kx) (mLc vs mi g t m) σ H Q) :
    tLc (tI X.kx c mi) (TGd X.kx (blkCt c vs) g) (Tr X.kx (blkCt c vs) RB t) (Tr X.kx (blkCt c vs) (RD X.kx) m) vs σ H Q := by
  obtain ⟨F, ρ, r, o⟩ := q
  refine ⟨F, ρ, r, Out.mono (Out.bind o) (fun xs ρ1 o1 J H1 F1 g1 hJ => ?_) fun e ρ1 q => q⟩
  have o1' : Out (if noOwn vs ρ1 = true then (match mLcL vs g t m xs [] (wipeS ρ1 vs) with
    | .ok acc ρ' => .ok (.l acc) (restS vs ρ1 ρ')
    | .err _ _ => .stuck
    | .stuck => .stuck) else .stuck : Res C) (fun a ρ' => ∀ v H' F', Go X.kx c.P ρ σ H F ρ' σ H' F' → RC X.kx (Fr ρ σ H) ρ' σ H' F' a v → Q v H') (fun e ρ' => ∀ cv dd H' F', Go X.kx c.P ρ σ H F ρ' σ H' F' → c.ER e cv dd H' → c.W cv dd σ H') := o1
  by_cases no : noOwn vs ρ1 = true
  · rw [if_pos no] at o1'
    have o2 : Out (mLcL vs g t m xs [] (wipeS ρ1 vs)) (fun acc ρ' => ∀ v H' F', Go X.kx c.P ρ σ H F (restS vs ρ1 ρ') σ H' F' → RC X.kx (Fr ρ σ H) (restS vs ρ1 ρ') σ H' F' (.l acc) v → Q v H') (fun _ _ => False) := by
      cases z : mLcL vs g t m xs [] (wipeS ρ1 vs) with
      | ok acc ρ' => rw [z] at o1'; exact o1'
      | err e ρ' => rw [z] at o1'; exact o1'.elim
      | stuck => rw [z] at o1'; exact o1'.elim
    intro D hD
    let Wv : Nat → Hp → Prop := fun i H' => i ≤ xs.length ∧ ∃ F' ρ' acc av, Go X.kx (blkP c.P vs) (wipeS ρ1 vs) (wipe σ vs) H1 F1 ρ' (wipe σ vs) (del H' D) F' ∧ H' D = some (.lst av) ∧ DpAll X.kx F' av acc ∧
      Out (mLcL vs g t m (xs.drop i) acc ρ') (fun acc ρ' => ∀ v H' F', Go X.kx c.P ρ σ H F (restS vs ρ1 ρ') σ H' F' → RC X.kx (Fr ρ σ H) (restS vs ρ1 ρ') σ H' F' (.l acc) v → Q v H') (fun _ _ => False)
    have rw0 : Rp X.kx F1 (wipeS ρ1 vs) (wipe σ vs) H1 := rp_wipe g1.rp _ (wipe_length _ _) fun i hi => wipe_out hi
    refine ⟨fun i n H' => n = xs.length - i ∧ Wv i H', ⟨_, rfl, Nat.zero_le _, F1, wipeS ρ1 vs, [], [], ?_, upd_same, .nil, o2⟩, ?_⟩
    · rw [del_upd, del_none hD]
      exact Go.refl rw0
    rintro i n H2 ⟨rfl, hi, F2, ρ2, acc, av, g2, hD2, ha2, o3⟩
    have rp2 := rp_undel g2.rp hD2
    obtain ⟨hstop, hgo⟩ := hJ F2 (blkP c.P vs) ρ2 (wipe σ vs) H2 g2.fr rp2
    by_cases hlt : i < xs.length
    · obtain ⟨k1, k2⟩ := hgo i _ (List.getElem?_eq_getElem hlt)
      refine .inr ⟨k1, Wv (i + 1), fun H' w => ⟨xs.length - (i + 1), by omega, rfl, w⟩, fun x H3 y => ?_⟩
      obtain ⟨F3, g3, d3⟩ := k2 x H3 y
      rw [List.drop_eq_getElem_cons hlt] at o3
      refine ⟨F3, ρ2, _, g3.rp, d3, Out.mono (Out.noerr (Out.bind o3) fun e ρ2 => h2 _ _ _ _) (fun _ ρ4 o4 σ4 H4 F4 g4 => ?_) fun _ _ q => q⟩
      have hs4 : ∀ j, j ∉ vs → σ4[j]? = (wipe σ vs)[j]? := fun j hj => g4.pn j (by show (!vs.contains j) = true; rw [Bool.not_eq_true']; exact (by simpa using hj))
      refine ⟨(wipe_ext g4.ln hs4).trans (wipe_ext (wipe_length σ vs) fun j hj => wipe_out hj), ?_⟩
      have fin : ∀ {ρ' H' F' acc' av'}, Go X.kx (blkP c.P vs) ρ4 σ4 H4 F4 ρ' σ4 H' F' → DpAll X.kx F' av' acc' →
          Out (mLcL vs g t m (xs.drop (i + 1)) acc' (wipeS ρ' vs)) (fun acc ρ' => ∀ v H' F', Go X.kx c.P ρ σ H F (restS vs ρ1 ρ') σ H' F' → RC X.kx (Fr ρ σ H) (restS vs ρ1 ρ') σ H' F' (.l acc) v → Q v H') (fun _ _ => False) → ∀ H'' : Hp, del H'' D = del H' D → H'' D = some (.lst av') → Wv (i + 1) H'' := fun {ρ' H' F' acc' av'} g5 ha5 o5 H'' e1 e2 => by
        have gA := (g3.trans g4).trans g5
        have gB := Go.del g2.rp hD2 gA
        have gC := g2.trans gB
        have gD := gC.reset (vs := vs) (wipe σ vs) g4.ln.symm (fun j hj => (hs4 j hj).symm) (fun j hj => by show (!vs.contains j) = false; rw [Bool.not_eq_false']; exact (by simpa using hj)) (fun j hj => by show (c.P.o j && !vs.contains j) = false; rw [show vs.contains j = true from by simpa using hj, Bool.not_true, Bool.and_false])
        exact ⟨hlt, F', _, acc', av', by rw [e1]; exact gD, e2, ha5, o5⟩
      have keepD : ∀ {ρ' H' F'}, Go X.kx (blkP c.P vs) ρ4 σ4 H4 F4 ρ' σ4 H' F' → H' D = some (.lst av) := fun {ρ' H' F'} g5 => ((g3.trans g4).trans g5).hp D _ (no_own g2.rp del_self) hD2
      refine ⟨F4, ρ4, g4.rp, Out.mono (Out.bind o4) (fun k ρ5 o5 kb H5 F5 g5 hk => ?_) fun e ρ5 q => q.elim⟩
      cases hk
      cases k with
      | false => exact fin g5 (dpAll_mono ((g3.fr.trans g4.fr).trans g5.fr) ha2) o5 H5 rfl (keepD g5)
      | true =>
        refine ⟨F5, ρ5, g5.rp, Out.mono (Out.bind o5) (fun yd ρ6 o6 y H6 F6 g6 d6 => ?_) fun e ρ6 q => q.elim⟩
        have g56 := g5.trans g6
        have hD6 := keepD g56
        have o6' : Out (if acc.length < sizeLine then mLcL vs g t m (xs.drop (i + 1)) (acc ++ [yd]) (wipeS ρ6 vs) else .stuck) (fun acc ρ' => ∀ v H' F', Go X.kx c.P ρ σ H F (restS vs ρ1 ρ') σ H' F' → RC X.kx (Fr ρ σ H) (restS vs ρ1 ρ') σ H' F' (.l acc) v → Q v H') (fun _ _ => False) := o6
        by_cases hz : acc.length < sizeLine
        · rw [if_pos hz] at o6'
          refine ⟨av, hD6, by rw [dpa_len ha2]; exact hz, ?_⟩
          exact fin g56 (dpa_app (dpAll_mono ((g3.fr.trans g4.fr).trans g56.fr) ha2) (dpa_one d6)) o6' _ del_upd upd_same
        · rw [if_neg hz] at o6'; exact o6'.elim
    · have e : i = xs.length := by omega
      subst e
      rw [List.drop_eq_nil_of_le (Nat.le_refl _)] at o3
      refine .inl ⟨hstop, ?_⟩
      obtain ⟨g3, up⟩ := Go.unblk (P := c.P) g1.rp no g2
      have g4 := g1.trans g3
      have gT := Go.temp (P := c.P) g3.rp (del_self (H := H2) (D := D)) (.lst av)
      rw [upd_del hD2] at gT
      exact o3 (.ref D) H2 F2 (g4.trans gT) ⟨D, .lst av, rfl, .inl (g1.back hD), g2.rp.free del_self, hD2, ha2, no_own g3.rp del_self⟩
  · rw [if_neg no] at o1'; exact o1'.elim
/-- the conditions of a block -/
structure BIf (X : Cx) (c : Ct) (ifs : List Expr) (t : M Bool) : Prop where
  h : PTs X ifs (Tr X.kx c RB t)
theorem bif_nil : BIf X c [] mYes := ⟨⟨fun pins s σ H Q I ⟨F, ρ, r, o⟩ => pts_nil.run pins s σ H Q I (o _ H F (Go.refl r) rfl)⟩⟩
theorem bif_one {e : Expr} (h : DT X c e t) : BIf X c [e] t := ⟨pts_one h⟩
theorem do_lc (hc : X.calm = true) (hN : X.N.Nodup) (hi : DI X c tg iter mi) (ok : BlkOk X.N X.env.scope scope own) (hv : own.map (·.2) = vs := by rfl)
    (hg : ∀ (s : Shared) (H : Hp) (C : Addr) (cl : List (Str × Addr)) (fp : List Addr), DG (X.blk s H scope (compEnvC scope cl C X.env) fp) (blkCt c vs) tg g) (ht : ∀ (s : Shared) (H : Hp) (C : Addr) (cl : List (Str × Addr)) (fp : List Addr), BIf (X.blk s H scope (compEnvC scope cl C X.env) fp) (blkCt c vs) ifs t)
    (he : ∀ (s : Shared) (H : Hp) (C : Addr) (cl : List (Str × Addr)) (fp : List Addr), DE (X.blk s H scope (compEnvC scope cl C X.env) fp) (blkCt c vs) elt m) (hs : ∀ x, foldedSetIterable iter X.env x = pure x := by intro _; rfl) :
    DO X c (.ListComp elt [⟨tg, iter, ifs, 0⟩] scope pos) (mLc vs mi g t m) := by
  subst hv
  exact pe_imp (pe_lc hc hN hi ok (fun s H C cl fp => (hg s H C cl fp).pg) (fun s H C cl fp => (ht s H C cl fp).h) he hs) fun σ H Q q => lc_use (hg X.s_0 X.H_0 0 [] []).ne q
theorem ds_setLc {i : Nat} {y : Str} {py spos : Pos} (hc : X.calm = true) (hN : X.N.Nodup) (hy : X.N[i]? = some y) (hyl : X.env.scope.names.lookup y = some .local) (hP : c.P.all i = false)
    (hsw : swapsWith (.ListComp elt [⟨tg, iter, ifs, 0⟩] scope pos) (some (.Name y py)) spos.line X.env = pure true) (hi : DI X c tg iter mi) (ok : BlkOk X.N X.env.scope scope own) (hv : own.map (·.2) = vs := by rfl)
    (hg : ∀ (s : Shared) (H : Hp) (C : Addr) (cl : List (Str × Addr)) (fp : List Addr), DG (X.blk s H scope (compEnvC scope cl C X.env) fp) (blkCt c vs) tg g) (ht : ∀ (s : Shared) (H : Hp) (C : Addr) (cl : List (Str × Addr)) (fp : List Addr), BIf (X.blk s H scope (compEnvC scope cl C X.env) fp) (blkCt c vs) ifs t)
    (he : ∀ (s : Shared) (H : Hp) (C : Addr) (cl : List (Str × Addr)) (fp : List Addr), DE (X.blk s H scope (compEnvC scope cl C X.env) fp) (blkCt c vs) elt m) (hs : ∀ x, foldedSetIterable iter X.env x = pure x := by intro _; rfl) :
    DS X c (.Assign [.Name y py] (.ListComp elt [⟨tg, iter, ifs, 0⟩] scope pos) spos) (sSet i (mLc vs mi g t m)) := by
  subst hv
  exact ps_imp (ps_setLc hc hN hy hyl hsw hi ok (fun s H C cl fp => (hg s H C cl fp).pg) (fun s H C cl fp => (ht s H C cl fp).h) he hs) fun D σ H q => lc_use (hg X.s_0 X.H_0 0 [] []).ne (ds_setR hP q)
end
end DL

set_option Elab.async false
set_option linter.all false
set_option maxRecDepth 100000
set_option maxHeartbeats 2000000
namespace DL
open PySem PySem.Spec PyProof.Rows L2
section
variable {X : Cx} {c : Ct} {s : Stmt} {ss : List Stmt} {e a b d tg iter : Expr} {es : List Expr} {pos p2 : Pos} {m m1 m2 : M PyData} {n1 n2 : M C} {x y z : Str} {i j l : Nat}
/-! ### code that is never come to -/
theorem de_never : DE X c e M.stuck := ⟨fun _ _ _ _ _ _ ⟨_, _, _, h⟩ => h.elim⟩
theorem do_never : DO X c e M.stuck := ⟨fun _ _ _ _ _ _ ⟨_, _, _, h⟩ => h.elim⟩
theorem ds_never : DS X c s M.stuck := ⟨fun _ _ _ _ _ _ ⟨_, _, _, h⟩ => h.elim⟩
theorem dss_never : DSs X c ss M.stuck := ⟨fun _ _ _ _ _ _ ⟨_, _, _, h⟩ => h.elim⟩
/-! ### reading a slot's own list -/
theorem de_ixV (ho : PE X a (L2.tVar i)) (hb : DE X c b m) (hs : PlainIx b) : DE X c (.Subscript a b pos) (mIxV i m) :=
  pe_imp (pe_ix ix_seq ho hb hs) fun σ H Q ⟨F, ρ, r, h⟩ => by
    have h' : Out (if (lsAt i ρ).isSome = true then (M.bind m fun j => fun ρ' => match lsAt i ρ' with
      | some xs => M.of (oIx (.list xs) j) ρ'
      | none => .stuck) ρ else .stuck) (fun a ρ' => ∀ v H' F', Go X.kx c.P ρ σ H F ρ' σ H' F' → RD X.kx (Fr ρ σ H) ρ' σ H' F' a v → Q v H') (fun e ρ' => ∀ cv dd H' F', Go X.kx c.P ρ σ H F ρ' σ H' F' → c.ER e cv dd H' → c.W cv dd σ H') := h
    cases hl : lsAt i ρ with
    | none => rw [hl] at h'; exact h'.elim
    | some xs =>
      rw [hl] at h'
      rw [if_pos (show (some xs).isSome = true from rfl)] at h'
      obtain ⟨p, vs, z, h1, h2, h3⟩ := lsAt_own r hl
      refine ⟨.ref p, h1, F, ρ, r, Out.mono (Out.bind h') (fun jd ρ1 q u H1 F1 g1 d1 => ?_) fun e ρ1 q => q⟩
      cases hl1 : lsAt i ρ1 with
      | none => rw [hl1] at q; exact q.elim
      | some xs1 =>
        rw [hl1] at q
        obtain ⟨w, e1, q2⟩ := Out.of (show Out (M.of (oIx (.list xs1) jd) ρ1) _ _ from q)
        obtain ⟨p1, vs1, z1, k1, k2, k3⟩ := lsAt_own g1.rp hl1
        rw [h1] at k1; cases k1
        cases jd with
        | int jj =>
          cases d1
          obtain ⟨v, y1, y2⟩ := atI_dpa k3 (show atI xs1 jj = some w from e1)
          exact .inl ⟨p, vs1, jj, v, rfl, rfl, .of k2, y1, q2 v H1 F1 g1 y2⟩
        | _ => cases e1
theorem de_lenV {p : Pos} (hg : Gl X "len") (hm : X.mg "len" = none) (ho : PE X a (L2.tVar i)) (hv : bootBuiltins "len" = some (.builtin "len") := by decide +kernel)
    (he : starEach [a] X.env = (false, eval a X.env) :: starEach [] X.env := by rfl) (hpl : (backTo pos (starEach [] X.env)).any (·.1) = false := by rfl) : DE X c (.Call (.Name "len" p) [a] [] pos) (mLenV i) :=
  pe_imp (pe_callB (call_len_seq) hg hm hv (pa_cons ho pa_nil he) (by decide) (by decide) he hpl) fun σ H Q ⟨F, ρ, r, h⟩ => by
    unfold T1 mLenV at h
    cases hl : lsAt i ρ with
    | none => rw [hl] at h; exact h.elim
    | some xs =>
      rw [hl] at h
      obtain ⟨p, vs, z, h1, h2, h3⟩ := lsAt_own r hl
      exact ⟨.ref p, h1, p, vs, rfl, .inl (.of h2), by rw [dpa_len h3]; exact h _ H F (Go.refl r) (.int _)⟩
/-! ### or, by truth -/
theorem do_one {op} (h : DO X c a n1) : DO X c (.BoolOp op [a] pos) n1 := pe_one h
theorem do_orC {rest : List Expr} (ha : DO X c a n1) (hb : DO X c (.BoolOp .Or (b :: rest) pos) n2) : DO X c (.BoolOp .Or (a :: b :: rest) pos) (mOrC n1 n2) := pe_imp (pe_orT ha hb) fun σ H Q ⟨F, ρ, r, q⟩ =>
  ⟨F, ρ, r, Out.mono (Out.bind q) (fun k ρ1 q1 v H1 F1 g1 d1 => by
    have tv : ∀ t, truC k = some t → TruV X.K v H1 t := fun t e => by
      cases k with
      | d x => exact truV_of g1.rp.sub d1 e
      | l xs =>
        obtain ⟨p, o, rfl, _, _, h3, h4, _⟩ := d1
        obtain ⟨vs, rfl, h5⟩ := isO_l h4
        refine .inl ⟨vs, .of h3, ?_⟩
        have e' : (!xs.isEmpty) = t := Option.some.inj e
        rw [← e']
        cases h5 <;> rfl
      | _ => cases e
    cases e : truC k with
    | none => rw [e] at q1; exact q1.elim
    | some t =>
      rw [e] at q1
      refine ⟨t, tv t e, ?_⟩
      cases t with
      | true => exact q1 v H1 F1 g1 d1
      | false => exact ⟨F1, ρ1, g1.rp, T1.base g1 (fun _ _ _ _ _ _ z => rc_base g1 z) q1⟩) fun e ρ1 q => q⟩
/-! ### a + b of lists, of tuples -/
def rCatR : R2 := fun x y H Q => ∃ l b xs zs, x = .ref l ∧ y = .ref b ∧ Rd H l (.lst xs) ∧ Rd H b (.lst zs) ∧ xs.length + zs.length ≤ sizeLine ∧ ∀ p, H p = none → Q (.ref p) (L2.upd H p (.lst (xs ++ zs)))
theorem lst_rd {pins : List (Addr × Obj)} {σ : St} {H : Hp} {s : Shared} {p : Addr} {xs : List V} (I : Inv X pins σ H s) (h : Rd H p (.lst xs)) : ∃ (its : List Value) (n : Nat), Vals xs its ∧ xs.length = its.length ∧ s.heap.get? p = some { cls := .type "list", data := .seq its.toArray n } ∧ xs.length ≤ sizeLine := by
  obtain ⟨z, its, n, r, e⟩ := h.ok I.hok
  exact ⟨its, n, r, r.length, e, z⟩
theorem op_catR : OpR X (binaryOp .Add) rCatR := by
  intro pins s σ H x y v u Q I rx ry h
  obtain ⟨l, b, xs, zs, rfl, rfl, hH, hB, hz, q⟩ := h
  cases rx
  cases ry
  obtain ⟨its, n, r, hl, e, _⟩ := lst_rd I hH
  obtain ⟨its2, n2, r2, hl2, e2, _⟩ := lst_rd I hB
  refine PySem.P.add_list e e2 ?_ (by rw [List.size_toArray, List.size_toArray]; omega)
  have ea : its.toArray ++ its2.toArray = (its ++ its2).toArray := by simp
  rw [ea]
  exact ⟨.ref _, _, I.lnew (t' := s.toks) (r.append r2) (by rw [List.length_append]; omega), rfl, q _ I.fresh⟩
/-- a list's value, new or shared -/
theorem toL_rd {K : Kx} {F H : Hp} {ρ : Sl} {σ : St} {fr : FR} {k : C} {v : V} {xs : List PyData} (s : Same F H) (r : RC K fr ρ σ H F k v) (h : toL k = some xs) : ∃ p vs, v = .ref p ∧ Rd H p (.lst vs) ∧ DpAll K F vs xs := by
  cases k with
  | d x =>
    cases x with
    | list ys =>
      cases h
      cases r with
      | lst hs ha => exact ⟨_, _, rfl, rd_mono s hs, ha⟩
    | _ => cases h
  | l ys =>
    cases h
    obtain ⟨p, o, rfl, _, _, h3, h4, _⟩ := r
    obtain ⟨vs, rfl, h5⟩ := isO_l h4
    exact ⟨p, vs, rfl, .inl h3, h5⟩
  | _ => cases h
theorem do_cat (ha : DO X c a n1) (hb : DO X c b n2) : DO X c (.BinOp a .Add b pos) (mCat n1 n2) :=
  pe_imp (pe_op (OpR.or op_catR op_catA) ha hb) fun σ H Q ⟨F, ρ, r, h⟩ => ⟨F, ρ, r, Out.mono (Out.bind h) (fun k ρ1 h1 v H1 F1 g1 d1 => ⟨F1, ρ1, g1.rp, Out.mono (Out.bind h1) (fun k' ρ2 h2 u H2 F2 g2 d2 => by
    obtain ⟨w, e, q⟩ := Out.of h2
    have d1' := rc_go g2 d1
    have g12 := g1.trans g2
    unfold oCat at e
    cases e1 : toL k with
    | some xs =>
      rw [e1] at e
      cases e2 : toL k' with
      | some ys =>
        rw [e2] at e
        have e' : (if xs.length + ys.length ≤ sizeLine then some (C.l (xs ++ ys)) else none) = some w := e
        by_cases hz : xs.length + ys.length ≤ sizeLine
        · rw [if_pos hz] at e'
          cases e'
          obtain ⟨p, vs, rfl, k2, k3⟩ := toL_rd g2.rp.sub d1' e1
          obtain ⟨p', vs', rfl, k2', k3'⟩ := toL_rd g2.rp.sub d2 e2
          exact .inl ⟨p, p', vs, vs', rfl, rfl, k2, k2', by rw [dpa_len k3, dpa_len k3']; exact hz, fun t ht => q _ _ F2 (g12.trans (Go.temp g2.rp ht _)) ⟨t, _, rfl, .inl (g12.back ht), g2.rp.free ht, upd_same, dpa_app k3 k3', no_own g2.rp ht⟩⟩
        · rw [if_neg hz] at e'; cases e'
      | none =>
        rw [e2] at e
        cases k with
        | d x => cases x with
          | list ys => cases e
          | _ => cases e1
        | l ys => cases e
        | _ => cases e1
    | none =>
      rw [e1] at e
      cases k with
      | d x =>
        cases x with
        | tuple xs =>
          cases k' with
          | d y =>
            cases y with
            | tuple ys =>
              have e' : (if xs.length + ys.length ≤ sizeLine then some (C.d (.tuple (xs ++ ys))) else none) = some w := e
              by_cases hz : xs.length + ys.length ≤ sizeLine
              · rw [if_pos hz] at e'
                cases e'
                cases d1' with
                | tup hs ha => cases d2 with
                  | tup hs2 hb =>
                    rename_i pa va pb vb
                    refine .inr ⟨pa, pb, va, vb, rfl, rfl, sqT_mono g2.rp.sub hs, sqT_mono g2.rp.sub hs2, by rw [dpa_len ha, dpa_len hb]; exact hz, fun en => ?_, fun _ en => ?_, fun _ _ t ht => ?_⟩
                    · subst en
                      cases ha
                      exact q _ H2 F2 g12 (.tup hs2 hb)
                    · subst en
                      cases hb
                      rw [List.append_nil] at q
                      exact q _ H2 F2 g12 (.tup hs ha)
                    · exact q _ _ _ (g12.trans (Go.data g2.rp ht _)) (.tup (.inl (.inl upd_same)) (dpAll_mono (same_upd (g2.rp.free ht)) (dpa_app ha hb)))
              · rw [if_neg hz] at e'; cases e'
            | _ => cases e
          | _ => cases e
        | list xs => cases e1
        | _ => cases e
      | l xs => cases e1
      | _ => cases e) fun e ρ2 q cv dd H2 F2 g2 er => q cv dd H2 F2 (g1.trans g2) er⟩) fun e ρ1 q => q⟩
/-! ### slices -/
def ROp : FR → Sl → St → Hp → Hp → Option Int → Option Int → Prop := fun _ _ _ _ _ a b => a = b
abbrev DPo (X : Cx) (c : Ct) (e : Option Expr) (m : M (Option Int)) : Prop := PO X e (Tr X.kx c ROp m)
theorem dpo_none : DPo X c none pNo := ⟨fun pins s σ H Q I ⟨F, ρ, r, h⟩ => po_none.run pins s σ H Q I (h _ H F (Go.refl r) rfl)⟩
theorem dpo_some (h : DE X c e m) : DPo X c (some e) (pInt m) := ⟨fun pins s σ H Q I ⟨F, ρ, r, o⟩ => (po_some h).run pins s σ H Q I ⟨F, ρ, r, Out.mono (Out.bind o) (fun d ρ1 q v H1 F1 g1 d1 => by
  cases d with
  | int i => cases d1; exact ⟨i, rfl, q _ H1 F1 g1 rfl⟩
  | _ => exact q.elim) fun e ρ1 q => q⟩⟩
theorem dpa_cut {K : Kx} {F : Hp} {vs : List V} {ds : List PyData} (lo hi : Option Int) (h : DpAll K F vs ds) : DpAll K F (cutV vs lo hi) (cutL ds lo hi) := by
  unfold cutV cutL
  rw [dpa_len h]
  exact dpa_take _ (dpa_drop _ h)
theorem do_slice {lo hi : Option Expr} {ml mh : M (Option Int)} (he : DE X c e m) (hl : DPo X c lo ml) (hu : DPo X c hi mh) : DO X c (.Subscript e (.Slice lo hi none p2) pos) (mSl m ml mh) :=
  pe_imp (pe_slice (SlR.or sl_list sl_tupA) he hl hu) fun σ H Q ⟨F, ρ, r, o⟩ => ⟨F, ρ, r, Out.mono (Out.bind o) (fun d ρ1 q v H1 F1 g1 d1 => ⟨F1, ρ1, g1.rp, Out.mono (Out.bind q) (fun lo ρ2 q lo' H2 F2 g2 e2 => by
    cases e2
    refine ⟨F2, ρ2, g2.rp, Out.mono (Out.bind q) (fun hi ρ3 q hi' H3 F3 g3 e3 => ?_) fun e ρ2 q cv dd H3 F3 g3 er => q cv dd H3 F3 ((g1.trans g2).trans g3) er⟩
    cases e3
    obtain ⟨w, e, q⟩ := Out.of q
    have g := (g1.trans g2).trans g3
    have d3 := dp_mono (g2.fr.trans g3.fr) d1
    cases d with
    | list xs =>
      cases e
      cases d3 with
      | lst hs ha => exact .inl ⟨_, _, rfl, rd_seq g3.rp.sub hs, fun t ht => q _ _ F3 (g.trans (Go.temp g3.rp ht _)) ⟨t, _, rfl, .inl (g.back ht), g3.rp.free ht, upd_same, dpa_cut lo hi ha, no_own g3.rp ht⟩⟩
    | tuple xs =>
      cases e
      cases d3 with
      | tup hs ha =>
        refine .inr ⟨_, _, rfl, sqT_mono g3.rp.sub hs, fun ⟨w1, w2⟩ => ?_, fun _ t ht => q _ _ _ (g.trans (Go.data g3.rp ht _)) (.tup (.inl (.inl upd_same)) (dpAll_mono (same_upd (g3.rp.free ht)) (dpa_cut lo hi ha)))⟩
        refine q _ H3 F3 g ?_
        have ec : cutL xs lo hi = xs := by
          unfold cutL
          rw [← dpa_len ha, w1, w2, List.drop_zero, Nat.sub_zero, dpa_len ha, List.take_length]
        rw [ec]
        exact .tup hs ha
    | _ => cases e) fun e ρ2 q cv dd H2 F2 g2 er => q cv dd H2 F2 (g1.trans g2) er⟩) fun e ρ1 q => q⟩
/-! ### list(range(n)) -/
theorem rg_dpa {K : Kx} {F : Hp} (a b : Int) : DpAll K F (rgV a b) (rgL a b) := by
  unfold rgV rgL
  induction List.range (b - a).toNat with
  | nil => exact .nil
  | cons n r ih => exact .cons (.int _) ih
theorem rgOk_of {a b : Int} (h : rgOk a b = true) : RgOk a b := by
  unfold rgOk at h
  simp only [Bool.and_eq_true, decide_eq_true_eq] at h
  exact ⟨h.1.1.1.1, h.1.1.1.2, h.1.1.2, h.1.2, h.2⟩
theorem do_listRg {p p3 : Pos} (hc : X.calm = true) (hg : Gl X "list") (hm : X.mg "list" = none) (hg' : Gl X "range") (hm' : X.mg "range" = none) (ha : DE X c a m)
    (na : starEach [.Call (.Name "range" p3) [a] [] p2] X.env = (false, eval (.Call (.Name "range" p3) [a] [] p2) X.env) :: starEach [] X.env := by rfl) (nb : starEach [a] X.env = (false, eval a X.env) :: starEach [] X.env := by rfl) :
    DO X c (.Call (.Name "list" p) [.Call (.Name "range" p3) [a] [] p2] [] pos) (mLstRg1 m) :=
  pe_imp (pe_listRg hc hg hm (prg_1 hg' hm' ha nb) na) fun σ H Q ⟨F, ρ, r, o⟩ => ⟨F, ρ, r, Out.mono (Out.bind o) (fun d ρ1 q v H1 F1 g1 d1 => by
    obtain ⟨w, e, q⟩ := Out.of q
    cases d with
    | int j =>
      cases d1
      have e' : (if rgOk 0 j = true then some (C.l (rgL 0 j)) else none) = some w := e
      by_cases hj : rgOk 0 j = true
      · rw [if_pos hj] at e'
        cases e'
        exact ⟨j, rfl, rgOk_of hj, fun t ht => q _ _ F1 (g1.trans (Go.temp g1.rp ht _)) ⟨t, _, rfl, .inl (g1.back ht), g1.rp.free ht, upd_same, rg_dpa 0 j, no_own g1.rp ht⟩⟩
      · rw [if_neg hj] at e'; cases e'
    | _ => cases e) fun e ρ1 q => q⟩
/-! ### xs.extend(..) -/
def rExtR : V → List V → Hp → VK → Prop := fun x vs H Q => ∃ l b xs zs, x = .ref l ∧ vs = [.ref b] ∧ H l = some (.lst xs) ∧ Rd H b (.lst zs) ∧ xs.length + zs.length ≤ sizeLine ∧ Q .non (L2.upd H l (.lst (xs ++ zs)))
theorem mt_extR : MtM X "list.extend" rExtR := by
  intro pins s σ H x vs v us Q I rx rv h
  obtain ⟨l, b, xs, zs, rfl, rfl, hH, hB, hz, q⟩ := h
  cases rx
  obtain ⟨u, rfl, ru⟩ := rv.one
  cases ru
  obtain ⟨z, its, n, r, hl, e⟩ := I.lstM hH
  obtain ⟨its2, n2, r2, hl2, e2, _⟩ := lst_rd I hB
  have hsz : its.toArray.size + its2.toArray.size ≤ sizeLine := by rw [List.size_toArray, List.size_toArray]; omega
  have hlong : ¬ (!its.toArray.isEmpty && Builtin.List.listTooLong (its.toArray.size + its2.toArray.size)) = true := by
    rw [notLongL hsz, Bool.and_false]
    exact Bool.false_ne_true
  refine call_meets F.slot_list_extend ⟨_, e, rfl⟩ F.entry_list_extend (F.args_list_extend_2 _ _)
    (AutoSeq1.list_extend_list_list_0 l its.toArray n b its2.toArray n2 hlong (by rw [List.size_toArray]; omega) (by omega)) ⟨e, e2, ?_⟩
  refine ⟨.non, _, I.lset (its' := its ++ its2) hH e (by simp) (r.append r2) ?_, rfl, q⟩
  rw [List.length_append]
  omega
theorem ds_ext {p1 p2 p3 : Pos} (ho : PE X a (L2.tVar i)) (he : DO X c e n1) (hbase : attributeBase a "extend" X.env (eval a X.env) = eval a X.env := by rfl)
    (hfew : ((backTo p2 (starEach [e] X.env)).all (fun x => !x.1) && (backToKw p2 (keywordEach [] X.env)).all (fun x => x.1.isSome)
      && decide ([e].length + ([] : List Keyword).length + (if ([] : List Keyword).isEmpty then 0 else 1) < 30)) = true := by rfl)
    (hline : (p1.endLine == p2.line) = true := by rfl) (hs : starEach [e] X.env = (false, eval e X.env) :: starEach [] X.env := by rfl) (hplain : (backTo p2 (starEach [] X.env)).any (·.1) = false := by rfl)
    (hsw : swapsWith (.Call (.Attribute a "extend" p1) [e] [] p2) none p3.line X.env = pure false := by rfl) :
    DS X c (.Expr (.Call (.Attribute a "extend" p1) [e] [] p2) p3) (sExtC i n1) :=
  ps_imp (ps_expr (pe_bm PySem.F.plainAttrs_list PySem.F.slot_list_extend (by rfl) mt_extR ho (pa_cons he pa_nil hs) hbase hfew hline hs hplain) hsw) fun D σ H ⟨F, ρ, r, o⟩ => by
    obtain ⟨xs, hl, o⟩ := sOn_out (K := X.kx) (D := D) o
    obtain ⟨a, vs, z, h1, h2, h3⟩ := lsAt_own r hl
    refine ⟨.ref a, h1, .inl ⟨rfl, vs, .of h2⟩, F, ρ, r, Out.mono (Out.bind o) (fun y ρ1 q v H1 F1 g1 d1 => ?_) fun e ρ1 q => q.ex⟩
    cases hl1 : lsAt i ρ1 with
    | none => rw [hl1] at q; exact q.elim
    | some xs1 =>
      rw [hl1] at q
      cases hy : toL y with
      | none => rw [hy] at q; exact q.elim
      | some ys =>
        rw [hy] at q
        have q' : Out ((if xs1.length + ys.length ≤ sizeLine then .ok .nx (ρ1.set i (some (.l (xs1 ++ ys)))) else .stuck : Res Fl)) (SK X.kx c D ρ σ H F) (SE X.kx c ρ σ H F) := q
        by_cases hz : xs1.length + ys.length ≤ sizeLine
        · rw [if_pos hz] at q'
          obtain ⟨a1, vs1, z1, k1, k2, k3⟩ := lsAt_own g1.rp hl1
          rw [h1] at k1; cases k1
          obtain ⟨pb, wb, rfl, y2, y3⟩ := toL_rd g1.rp.sub d1 hy
          exact ⟨a, pb, vs1, wb, rfl, rfl, k2, y2, by rw [dpa_len k3, dpa_len y3]; exact hz, q' σ _ _ (g1.trans (Go.upd g1.rp z1 rfl rfl h1 (dpa_app k3 y3)))⟩
        · rw [if_neg hz] at q'; exact q'.elim
/-! ### a slot that holds a def, called -/
theorem do_door {T : Str → Option (Nat × (Sl → Res C))} {k n : Nat} {ms : List (M Av)} {p : Pos} (hT : ∀ x n φ, T x = some (n, φ) → ∃ ps : List Str, ps.length = n ∧ Kn X.prog X.w X.kx X.base k c.ER x ps φ) (hr : Room k X.A) (hN : X.N[i]? = some x) (hv : Vis X.env.scope x) (tk : ∀ σ, PassesAt (L2.CX X.prog X.w) X σ (WE c.W σ))
    (ha : DAr X c (e :: es) (mSeqA ms)) (hl : ms.length = n := by rfl) (hdb : (x == ("__debug__" : Str)) = false := by decide) (hcd : (x == ("__classdict__" : Str)) = false := by decide)
    (he : starEach (e :: es) X.env = (false, eval e X.env) :: starEach es X.env := by rfl) (hpl : (backTo pos (starEach es X.env)).any (·.1) = false := by rfl) : DO X c (.Call (.Name x p) (e :: es) [] pos) (mDoor T i n (mSeqA ms)) := by
  refine ⟨fun pins s σ H Q I ⟨F, ρ, r, h⟩ => ?_⟩
  unfold T1 mDoor at h
  cases z : ρ[i]? with
  | none => rw [z] at h; exact h.elim
  | some o =>
    cases o with
    | none => rw [z] at h; exact h.elim
    | some kk =>
      cases kk with
      | f y =>
        rw [z] at h
        obtain ⟨f, h1, h2⟩ := r.fn i y z
        have h0 : Out (match T y with
          | some (k, φ) => if k = n then mCall φ (mSeqA ms) ρ else .stuck
          | none => .stuck) (fun a ρ' => ∀ v H' F', Go X.kx c.P ρ σ H F ρ' σ H' F' → RC X.kx (Fr ρ σ H) ρ' σ H' F' a v → Q v H') (fun e ρ' => ∀ cv dd H' F', Go X.kx c.P ρ σ H F ρ' σ H' F' → c.ER e cv dd H' → c.W cv dd σ H') := h
        cases hTy : T y with
        | none => rw [hTy] at h0; exact h0.elim
        | some q =>
          obtain ⟨n', φ⟩ := q
          rw [hTy] at h0
          have h' : Out (if n' = n then mCall φ (mSeqA ms) ρ else .stuck) (fun a ρ' => ∀ v H' F', Go X.kx c.P ρ σ H F ρ' σ H' F' → RC X.kx (Fr ρ σ H) ρ' σ H' F' a v → Q v H') (fun e ρ' => ∀ cv dd H' F', Go X.kx c.P ρ σ H F ρ' σ H' F' → c.ER e cv dd H' → c.W cv dd σ H') := h0
          by_cases hn : n' = n
          · rw [if_pos hn] at h'
            subst hn
            obtain ⟨ps, hps, Kf⟩ := hT y n' φ hTy
            obtain ⟨f', fd, hF, hm, hk, hb⟩ := Kf.ex
            rw [h1] at hm
            cases hm
            have q := call_use (c := c) (n := ps.length) (X := X) (φ := φ) (m := mSeqA ms) (σ := σ) (H := H) (Q := Q) ⟨F, ρ, r, h'⟩ fun ρ P E o => by rw [hps, ← hl]; exact mseqA_len ms ρ P E o
            refine wpAny_Call_Name_kw (thn ((pe_var (pos := p) hN hv hdb hcd).run pins s σ H (fun v H1 => v = .ref f ∧ H1 = H) I ⟨.ref f, h2, rfl, rfl⟩) fun u s1 ⟨v, H1, I1, r1, q1⟩ => ?_)
            obtain ⟨rfl, rfl⟩ := q1
            cases r1
            refine PySem.W.callWith_K (h₀ := X.base) I.ok.mod.kin hk (thn (ha.run pos pins s1 σ _ _ I1 q) fun us s2 ⟨vs, H2, I2, r, q⟩ => ⟨I2.kIn, ?_⟩) he hpl
            exact run_fnS hF hr hb (tk σ) I2 r q
          · rw [if_neg hn] at h'; exact h'.elim
      | _ => rw [z] at h; exact h.elim
end
end DL

set_option Elab.async false
set_option linter.all false
set_option maxRecDepth 100000
set_option maxHeartbeats 2000000
namespace DL
open PySem PySem.Spec PyProof.Rows L2
theorem liftL1 {α : Type} (f : PyData → Option α) (m : M PyData) : liftL (on1 f) (mSeq [m]) = lift1 f m := by
  funext ρ
  show M.bind (M.bind m fun x => M.bind (M.pure []) fun xs => M.pure (x :: xs)) (fun xs => M.of (on1 f xs)) ρ = M.bind m (fun x => M.of (f x)) ρ
  unfold M.bind
  cases m ρ <;> rfl
theorem liftL2 {α : Type} (f : PyData → PyData → Option α) (m m' : M PyData) : liftL (on2 f) (mSeq [m, m']) = lift2 f m m' := by
  funext ρ
  show M.bind (M.bind m fun x => M.bind (M.bind m' fun y => M.bind (M.pure []) fun xs => M.pure (y :: xs)) fun xs => M.pure (x :: xs)) (fun xs => M.of (on2 f xs)) ρ = M.bind m (fun x => M.bind m' fun y => M.of (f x y)) ρ
  unfold M.bind
  cases m ρ with
  | ok x ρ1 => dsimp only; cases m' ρ1 <;> rfl
  | err e ρ1 => rfl
  | stuck => rfl
section
variable {X : Cx} {c : Ct} {a b : Expr} {p pos : Pos} {m m' : M PyData} {x : Str}
theorem bi_abs (hg : Gl X "abs") (hm : X.mg "abs" = none) (ha : DE X c a m) (h1 : starEach [a] X.env = (false, eval a X.env) :: starEach [] X.env := by rfl) : DE X c (.Call (.Name "abs" p) [a] [] pos) (lift1 oAbs m) := liftL1 oAbs m ▸ de_callB call_abs ca_abs hg hm boot_abs (da_cons ha da_nil h1) (by decide) (by decide) h1
theorem bi_int (hg : Gl X "int") (hm : X.mg "int" = none) (ha : DE X c a m) (h1 : starEach [a] X.env = (false, eval a X.env) :: starEach [] X.env := by rfl) : DE X c (.Call (.Name "int" p) [a] [] pos) (lift1 oInt m) := liftL1 oInt m ▸ de_callTy call_int1 ca_int hg hm boot_int (da_cons ha da_nil h1) (by decide) (by decide) h1
theorem bi_len (hg : Gl X "len") (hm : X.mg "len" = none) (ha : DE X c a m) (h1 : starEach [a] X.env = (false, eval a X.env) :: starEach [] X.env := by rfl) : DE X c (.Call (.Name "len" p) [a] [] pos) (lift1 oLen m) := liftL1 oLen m ▸ de_callB call_len ca_len hg hm boot_len (da_cons ha da_nil h1) (by decide) (by decide) h1
theorem bi_all (hc : X.calm = true) (hg : Gl X "all") (hm : X.mg "all" = none) (ha : DE X c a m) (h1 : starEach [a] X.env = (false, eval a X.env) :: starEach [] X.env := by rfl) : DE X c (.Call (.Name "all" p) [a] [] pos) (lift1 oAll m) := liftL1 oAll m ▸ de_callB (id := "all") (cr_all hc) ca_all hg hm (by decide +kernel) (da_cons ha da_nil h1) (by decide) (by decide) h1
theorem bi_any (hc : X.calm = true) (hg : Gl X "any") (hm : X.mg "any" = none) (ha : DE X c a m) (h1 : starEach [a] X.env = (false, eval a X.env) :: starEach [] X.env := by rfl) : DE X c (.Call (.Name "any" p) [a] [] pos) (lift1 oAny m) := liftL1 oAny m ▸ de_callB (id := "any") (cr_any hc) ca_any hg hm (by decide +kernel) (da_cons ha da_nil h1) (by decide) (by decide) h1
theorem bi_max (hc : X.calm = true) (hg : Gl X "max") (hm : X.mg "max" = none) (ha : DE X c a m) (hb : DE X c b m') (h1 : starEach [a, b] X.env = (false, eval a X.env) :: starEach [b] X.env := by rfl) (h2 : starEach [b] X.env = (false, eval b X.env) :: starEach [] X.env := by rfl) (h3 : (backTo pos (starEach [b] X.env)).any (·.1) = false := by rfl) : DE X c (.Call (.Name "max" p) [a, b] [] pos) (lift2 oMax m m') := liftL2 oMax m m' ▸ de_callB (call_max2 hc) ca_max2 hg hm (by decide +kernel) (da_cons ha (da_cons hb da_nil h2) h1) (by decide) (by decide) h1 h3
theorem bi_min (hc : X.calm = true) (hg : Gl X "min") (hm : X.mg "min" = none) (ha : DE X c a m) (hb : DE X c b m') (h1 : starEach [a, b] X.env = (false, eval a X.env) :: starEach [b] X.env := by rfl) (h2 : starEach [b] X.env = (false, eval b X.env) :: starEach [] X.env := by rfl) (h3 : (backTo pos (starEach [b] X.env)).any (·.1) = false := by rfl) : DE X c (.Call (.Name "min" p) [a, b] [] pos) (lift2 oMin m m') := liftL2 oMin m m' ▸ de_callB (call_min2 hc) ca_min2 hg hm (by decide +kernel) (da_cons ha (da_cons hb da_nil h2) h1) (by decide) (by decide) h1 h3
theorem bi_list (hg : Gl X "list") (hm : X.mg "list" = none) (ha : DE X c a m) (h1 : starEach [a] X.env = (false, eval a X.env) :: starEach [] X.env := by rfl) : DO X c (.Call (.Name "list" p) [a] [] pos) (lift1 oListC m) := liftL1 oListC m ▸ do_callTy call_list_of co_list hg hm boot_list (da_cons ha da_nil h1) (by decide) (by decide) h1
theorem bi_tuple (hg : Gl X "tuple") (hm : X.mg "tuple" = none) (ha : DE X c a m) (h1 : starEach [a] X.env = (false, eval a X.env) :: starEach [] X.env := by rfl) : DE X c (.Call (.Name "tuple" p) [a] [] pos) (lift1 oTuple m) := liftL1 oTuple m ▸ de_callTy call_tuple_of ca_tuple hg hm boot_tuple (da_cons ha da_nil h1) (by decide) (by decide) h1
/-- a global whole number -/
theorem de_gint {i : Int} (hg : Gl X x) (hm : ∃ t, X.mg x = some (.int i t)) (hd : (x == ("__debug__" : Str)) = false := by decide) : DE X c (.Name x p) (M.pure (.int i)) := by
  obtain ⟨t, h⟩ := hm
  exact de_globP (pe_glob (v := .int i) hg h ⟨t, rfl⟩ hd) fun F => .int i
/-- a def by its name -/
theorem do_gfn {f : Addr} (hg : Gl X x) (hm : X.mg x = some (.ref f)) (hd : (x == ("__debug__" : Str)) = false := by decide) : DO X c (.Name x p) (M.pure (.f x)) := do_globP (pe_glob (v := .ref f) hg hm rfl hd) hm
/-! ### what is let out -/
theorem takesB {X : Cx} {E : XK} {E₁ : Value → Shared → Prop} (hs : X.stack = X.env :: X.outer := by rfl) (hf : X.env.frame = some X.env.locals := by rfl) (hex : X.ex = [] := by rfl)
    (hx : X.xe = fun e s' => wpAny (model X.prog X.w) X.A (leaving X.env e) (fun _ s'' => L2.CX X.prog X.w X.outer X.H_0 X.s_0 E e s'') E₁ s' := by rfl) : Takes X (fun cls d _ H => E cls d H) := takes_of hs hf hex hx
theorem passNo : ∀ σ, PassesAt (L2.CX X.prog X.w) X σ (WE noW σ) := fun σ => passAt takes0 σ
end
section
variable {X : Cx} {c : Ct} {elt tg iter : Expr} {ifs : List Expr} {scope : Scope} {own : List (Str × Nat)} {pos : Pos} {mi : M (List PyData)} {g : PyData → M Unit} {t : M Bool} {m : M PyData} {vs : List Nat}
theorem tr_dat {K : Kx} {σ : St} {H : Hp} {Q : VK} (q : Tr K c (RC K) (mDat m) σ H Q) : Tr K c (RD K) m σ H Q := by
  obtain ⟨F, ρ, r, q⟩ := q
  exact ⟨F, ρ, r, Out.mono (Out.bind q) (fun x ρ1 q1 v H1 F1 g1 d1 => q1 v H1 F1 g1 d1) fun e ρ1 q => q⟩
theorem tr_frz {K : Kx} {n : M C} {σ : St} {H : Hp} {Q : VK} (q : Tr K c (RD K) (mFrz n) σ H Q) : Tr K c (RC K) n σ H Q := by
  obtain ⟨F, ρ, r, q⟩ := q
  refine ⟨F, ρ, r, Out.mono (Out.bind q) (fun x ρ1 q1 v H1 F1 g1 d1 => ?_) fun e ρ1 q => q⟩
  cases x with
  | d x => exact q1 v H1 F1 g1 d1
  | l xs =>
    obtain ⟨p, o, rfl, h0, hF, hH, ho, no⟩ := d1
    obtain ⟨vs, rfl, h5⟩ := isO_l ho
    exact q1 _ H1 _ (g1.share h0 hH hF no) (.lst (.inl upd_same) (dpAll_mono (same_upd hF) h5))
  | _ => exact q1.elim
/-- name = [..], the list shared at once -/
theorem ds_setLcF {i : Nat} {y : Str} {py spos : Pos} (hc : X.calm = true) (hN : X.N.Nodup) (hy : X.N[i]? = some y) (hyl : X.env.scope.names.lookup y = some .local) (hP : c.P.all i = false)
    (hsw : swapsWith (.ListComp elt [⟨tg, iter, ifs, 0⟩] scope pos) (some (.Name y py)) spos.line X.env = pure true) (hi : DI X c tg iter mi) (ok : BlkOk X.N X.env.scope scope own) (hv : own.map (·.2) = vs := by rfl)
    (hg : ∀ (s : Shared) (H : Hp) (C : Addr) (cl : List (Str × Addr)) (fp : List Addr), DG (X.blk s H scope (compEnvC scope cl C X.env) fp) (blkCt c vs) tg g) (ht : ∀ (s : Shared) (H : Hp) (C : Addr) (cl : List (Str × Addr)) (fp : List Addr), BIf (X.blk s H scope (compEnvC scope cl C X.env) fp) (blkCt c vs) ifs t)
    (he : ∀ (s : Shared) (H : Hp) (C : Addr) (cl : List (Str × Addr)) (fp : List Addr), DE (X.blk s H scope (compEnvC scope cl C X.env) fp) (blkCt c vs) elt m) (hs : ∀ x, foldedSetIterable iter X.env x = pure x := by intro _; rfl) :
    DS X c (.Assign [.Name y py] (.ListComp elt [⟨tg, iter, ifs, 0⟩] scope pos) spos) (sSet i (mDat (mFrz (mLc vs mi g t m)))) := by
  subst hv
  exact ps_imp (ps_setLc hc hN hy hyl hsw hi ok (fun s H C cl fp => (hg s H C cl fp).pg) (fun s H C cl fp => (ht s H C cl fp).h) he hs) fun D σ H q => lc_use (hg X.s_0 X.H_0 0 [] []).ne (tr_frz (tr_dat (ds_setR hP q)))
end
/-- nothing is known of what the def does -/
theorem kn_stuck {P : Program} {w : World} {K : Kx} {base : Heap} {x : Str} {params : Arguments} {body : List Stmt} {scope : Scope} {ps : List Str} {k : Nat} {ER : ERx} (Dk : DefK K x params body scope)
    (hb : ∀ (kV doc pm : Value) (an : Option Addr) (cdv ct : Value) (us : List Value), us.length = ps.length → bindArgs (PySem.W.fnOf x x params body scope .none kV doc pm an cdv ct) ⟨us, []⟩ = pure (ps.zip us)) :
    Kn P w K base k ER x ps (fun _ => .stuck) := by
  obtain ⟨f, fd, Fd, hm⟩ := Dk.ex
  exact ⟨f, fd, ⟨fun vs H Q E h => h.1, fun A outer s H args us vs Q E _ _ _ _ ⟨_, _, _, _, o⟩ => o.elim⟩, hm, Fd.kp, Fd.bindsN hb⟩
/-- how the program's exceptions stand -/
def erK (K : Kx) : ERx := fun e cv dd _ => match e with
  | .unfit => cv = .ref (He.ga K.fr "Unfit") ∧ dd = none
  | .cannot => cv = .ref (He.ga K.fr "CanNot") ∧ dd = none
  | .many => cv = .ref (He.ga K.fr "TooMany") ∧ dd = none
  | .nothing => cv = .ref (He.ga K.fr "NothingDone") ∧ dd = none
  | .bad _ => False
/-! ### a law's end -/
/-- no list stands in what the top has left -/
def noLists (K : PySem.W.Frag) : Bool := K.all fun q => match q.2.cls with
  | .type n => !(n == "list")
  | _ => true
theorem rd_of {K : PySem.W.Frag} {H : Hp} {a : Addr} {xs : List V} (n : noLists K = true) (h : SqL K H a xs) : Rd H a (.lst xs) := by
  rcases h with h | ⟨o, its, k, h1, h2, _⟩
  · exact h
  · have q := List.all_eq_true.mp n _ (He.lookup_mem h1)
    have q' : (match o.cls with
      | .type n => !(n == "list")
      | _ => true) = true := q
    rw [h2] at q'
    cases q'
def spL (K : PySem.W.Frag) (φ : Sl → Res C) : Sp := fun vs H Q _ => ∃ (a : Addr) (ns : List Int), vs = [.ref a] ∧ Rd H a (.lst (ns.map V.int)) ∧ (∀ b, H b = none ∨ ∃ o xs, H b = some (.frz o (.lst xs))) ∧ Good φ ns ∧ ∀ H', Q (.bl true) H'
theorem ints_dpa {K : Kx} {F : Hp} : ∀ ns : List Int, DpAll K F (ns.map V.int) (ns.map PyData.int)
  | [] => .nil
  | n :: r => .cons (.int n) (ints_dpa r)
theorem law_fn {P : Program} {w : World} {K : Kx} {base : Heap} {k : Nat} {ER : ERx} {φ : Sl → Res C} {f : Addr} {fd : FuncData} {x : Str} (h : FnOk P w K.fr K.mg base (L2.CX P w) k f fd [x] (spF K ER 1 φ)) : FnOk P w K.fr K.mg base CX0 k f fd [x] (spL K φ) := by
  refine ⟨fun vs H Q E ⟨a, ns, e, _⟩ => by rw [e] <;> rfl, fun A outer s H args us vs Q E hr e0 hb hv ⟨a, ns, e, hR, hO, hg, hq⟩ => ?_⟩
  subst e
  have sp : spF K ER 1 φ [.ref a] H Q (fun _ _ _ => False) := by
    refine ⟨rfl, H, _, ⟨Same.refl H, rfl, fun i x e => ?_, fun i x e => ?_, fun i c e hc => ?_, fun i j b o1 o2 e1 e2 => ?_⟩, Out.mono hg (fun c ρ e v H' F' g r => ?_) fun _ _ q => q.elim⟩
    · cases i with
      | zero =>
        cases e
        exact ⟨.ref a, rfl, .lst hR (ints_dpa ns)⟩
      | succ i => cases i <;> cases e
    · cases i with
      | zero => cases e
      | succ i => cases i <;> cases e
    · cases i with
      | zero => cases e; cases hc
      | succ i => cases i <;> cases e
    · obtain ⟨c, e, hc⟩ := o1
      cases i with
      | zero => cases e; cases hc
      | succ i => cases i <;> cases e
    · subst e
      cases r
      exact hq H'
  refine codeAny_mono (h.run A outer s H args us [.ref a] Q (fun _ _ _ => False) hr e0 hb hv sp) fun r s' hq => ?_
  cases r with
  | error e =>
    obtain ⟨_, _, _, _, _, _, _, _, _, _, _, _, z⟩ := hq
    exact z.elim
  | ok fl =>
    cases fl with
    | ret u => exact hq
    | next => exact hq
    | brk => exact hq
    | cont => exact hq
theorem dl_walk {l : PySem.W.OpenLaw} {n k : Nat} {q : Program} {loose : List Str} {XP : (Str → Option Value) → Heap → Prop} {YP : World → Heap → Prop} {d : DefRec} {x : Str}
    (hn : l.most = some n) (hn2 : n ≤ sizeLine) (hdf : d.params.defaults = []) (hr : Room k callerA)
    (F : ∀ (w : World) (mg : Str → Option Value) (fa : Addr) (h : Heap), YP w h → h.Ns mainGlobals mg → mg d.name = some (.ref fa) →
      ∃ (K : PySem.W.Frag) (fd : FuncData) (φ : Sl → Res C), K.In h ∧ noLists K = true ∧ (∀ (s : Shared) (u : Value), BindsTo s fd ⟨[u], []⟩ [(x, u)]) ∧
        (∀ ns : List Int, ns.length ≤ n → (∀ z ∈ ns, Builtin.Int.intBits z ≤ 1048576) → Good φ ns) ∧
        ∀ base : Heap, K.In base → base.Ns mainGlobals mg → ∃ ER, FnOk l.prog w K mg base (L2.CX l.prog w) k fa fd [x] (spF ⟨K, mg⟩ ER 1 φ)) :
    PySem.W.WalkO q loose XP YP l.row.toRowW d [] (fun f vs => PySem.call f vs) := by
  refine Att.attach_callB hn hdf fun w s₀ s₁ mg mb fa o pm cd doc a vs ns G Y ho hd hcd hmg hobj hints hlen hbits hg => ?_
  obtain ⟨K, fd, φ, KX, nl, hb, hgood, hF⟩ := F w mg fa _ Y G.T.g hmg
  exact law_call (CX := CX0) (sp := spL K φ) KX G.T.g G.T.b G.T.builtins G.T.nolimit hg hobj hints (Nat.le_trans hlen hn2) hr (fun base h1 h2 => by
    obtain ⟨ER, h⟩ := hF base h1 h2
    exact law_fn (K := ⟨K, mg⟩) h) hb (fun H hO hS => ⟨a, ns, rfl, rd_of nl hS, hO, hgood ns hlen hbits, fun _ => rfl⟩) fun H e s' z => z
end DL

set_option Elab.async false
set_option linter.all false
set_option maxRecDepth 100000
set_option maxHeartbeats 2000000
namespace DL
open PySem PySem.Spec PyProof.Rows L2
section
variable {X : Cx} {c : Ct} {x n s T : Str} {C : Addr} {i j : Nat} {body : List Stmt} {mb : M Fl} {ex : Exc} {bb : Bool} {Tn : String} {np p2 p3 p4 p5 p6 p7 p8 pos pos' : Pos}
open Classical in
theorem ds_try_ret (hs : X.stack = X.env :: X.outer) (hf : X.env.frame = some X.env.locals) (hN : X.N.Nodup) (hi : X.N[i]? = some n) (hln : X.env.scope.names.lookup n = some .local) (hP : c.P.all i = false) (hx : ExF X.kx x C) (hgx : Gl X x) (tk : Takes X c.W)
    (hb : ∀ (W : WX) (pn : List (Addr × Obj)) (xe : Value → Shared → Prop), Takes (X.tr pn xe) W → DSs (X.tr pn xe) ⟨c.P, c.ER, W⟩ body mb)
    (hE : ∀ e cv dd H, c.ER e cv dd H → (e.same ex = true ∧ cv = .ref C ∧ dd = none) ∨ (e.same ex = false ∧ PySem.W.exmOne X.K cv (.ref C) = some false))
    (hm : PySem.W.exmOne X.K (.ref C) (.ref C) = some true) (hk : ExcC X.K C) (kk : PySem.W.kitOne X.K (.ref C) (.type Tn) = some bb)
    (gi : Gl X "isinstance") (mi : X.mg "isinstance" = none) (gT : Gl X T) (mT : X.mg T = none) (vT : bootBuiltins T = some (.type Tn)) (nT : T ≠ "__name__" := by decide) (dT : (T == ("__debug__" : Str)) = false := by decide)
    (hdx : (x == ("__debug__" : Str)) = false := by decide) (hdn : (n == ("__debug__" : Str)) = false := by decide) (hcn : (n == ("__classdict__" : Str)) = false := by decide)
    (vi : bootBuiltins "isinstance" = some (.builtin "isinstance") := by decide +kernel)
    (h1 : ∀ a pn, starEach [.Constant (.str s) j p2, .Call (.Name "isinstance" p3) [.Name n p4, .Name T p5] [] p6] (X.suite a pn).env = (false, eval (.Constant (.str s) j p2) (X.suite a pn).env) :: starEach [.Call (.Name "isinstance" p3) [.Name n p4, .Name T p5] [] p6] (X.suite a pn).env := by intros; rfl)
    (h2 : ∀ a pn, starEach [.Call (.Name "isinstance" p3) [.Name n p4, .Name T p5] [] p6] (X.suite a pn).env = (false, eval (.Call (.Name "isinstance" p3) [.Name n p4, .Name T p5] [] p6) (X.suite a pn).env) :: starEach [] (X.suite a pn).env := by intros; rfl)
    (h3 : ∀ a pn, starEach [.Name n p4, .Name T p5] (X.suite a pn).env = (false, eval (.Name n p4) (X.suite a pn).env) :: starEach [.Name T p5] (X.suite a pn).env := by intros; rfl)
    (h4 : ∀ a pn, starEach [.Name T p5] (X.suite a pn).env = (false, eval (.Name T p5) (X.suite a pn).env) :: starEach [] (X.suite a pn).env := by intros; rfl)
    (h5 : ∀ a pn, (backTo p6 (starEach [.Name T p5] (X.suite a pn).env)).any (·.1) = false := by intros; rfl) :
    DS X c (.Try body [.ExceptHandler (some (.Name x np)) (some n) [.Return (some (.List [.Constant (.str s) j p2, .Call (.Name "isinstance" p3) [.Name n p4, .Name T p5] [] p6] p7)) p8] pos'] [] [] pos) (sTryRet mb ex i [.str s, .bool bb]) := by
  let tsuite : Addr → TS := fun a => tRet (tLst (tCons (tC (.str s)) (tCons (tCB (rIsE X.K C a) (tCons (L2.tVar i) (tCons (tC (.ty Tn)) tNil))) tNil)))
  let ts : Addr → Value → Option Addr → TS := fun a cls d => if cls = .ref C ∧ d = none then tsuite a else tNever
  refine ps_imp (ps_try_as (i := i) (ts := ts) (Wout := c.W) (tb := fun W => tS X.kx ⟨c.P, c.ER, W⟩ mb) hs hf hN hi hln ⟨hgx, hdx, .inl hx.gl⟩ tk (fun W pn xe tkW _ => hb W pn xe tkW) (fun a oe cls d pn hz hfl => ?_)) fun D σ H ⟨F, ρ, r, o⟩ => ?_
  · by_cases hc : cls = .ref C ∧ d = none
    · obtain ⟨rfl, rfl⟩ := hc
      show PSs _ _ (if Value.ref C = .ref C ∧ (none : Option Addr) = none then tsuite a else tNever)
      rw [if_pos ⟨rfl, rfl⟩]
      refine pss_one (ps_ret (pe_lst (pa_cons pe_str (pa_cons (pe_callB (call_isE hk hz hfl) gi mi vi (pa_cons (pe_var hi (.inl hln) hdn hcn) (pa_cons (pe_bltn (v := .ty Tn) gT mT vT rfl nT dT) pa_nil (h4 _ _)) (h3 _ _)) (by decide) (by decide) (h3 _ _) (h5 _ _)) pa_nil (h2 _ _)) (h1 _ _))))
    · show PSs _ _ (if cls = .ref C ∧ d = none then tsuite a else tNever)
      rw [if_neg hc]
      exact pss_never
  · have o' : Out (match mb ρ with
      | .ok fl ρ' => .ok fl ρ'
      | .err e ρ' => if e.same ex = true then (if i < ρ'.length then .ok (.rt (.l [.str s, .bool bb])) (ρ'.set i none) else .stuck) else .err e ρ'
      | .stuck => .stuck : Res Fl) (SK X.kx c D ρ σ H F) (SE X.kx c ρ σ H F) := o
    refine ⟨F, ρ, r, ?_⟩
    cases z : mb ρ with
    | ok fl ρ' => rw [z] at o'; exact o'
    | stuck => rw [z] at o'; exact o'
    | err e ρ' =>
      rw [z] at o'
      intro cv dd σ' H' F' g er
      rcases hE e cv dd H' er with ⟨e1, rfl, rfl⟩ | ⟨e1, e2⟩
      · have o2 : Out (if e.same ex = true then (if i < ρ'.length then .ok (.rt (.l [.str s, .bool bb])) (ρ'.set i none) else .stuck) else .err e ρ' : Res Fl) (SK X.kx c D ρ σ H F) (SE X.kx c ρ σ H F) := o'
        rw [if_pos e1] at o2
        have hlt0 : i < ρ'.length := Decidable.byContradiction fun hn => by
          rw [if_neg hn] at o2
          exact o2
        rw [if_pos hlt0] at o2
        refine ⟨true, hm, fun _ a ha => ?_, fun z => Bool.noConfusion z⟩
        show (if Value.ref C = .ref C ∧ (none : Option Addr) = none then tsuite a else tNever) _ _ _
        rw [if_pos ⟨rfl, rfl⟩]
        have hlt : i < σ'.length := by rw [← g.rp.len]; exact hlt0
        refine ⟨.ref a, by rw [List.getElem?_set_self hlt], .ty Tn, .type Tn, bb, rfl, fun u hu => hu, kk, by show 2 ≤ sizeLine; decide, fun p hp => ?_⟩
        have g1 := g.forget hP (some (.ref a))
        have g2 := g1.trans (Go.temp g1.rp hp (.lst [.str s, .bl bb]))
        exact o2 _ _ _ g2 (.ref p) ⟨p, .lst [.str s, .bl bb], rfl, .inl (g1.back hp), g1.rp.free hp, upd_same, .cons (.str s) (.cons (.bl bb) .nil), no_own g1.rp hp⟩
      · have o2 : Out (if e.same ex = true then (if i < ρ'.length then .ok (.rt (.l [.str s, .bool bb])) (ρ'.set i none) else .stuck) else .err e ρ' : Res Fl) (SK X.kx c D ρ σ H F) (SE X.kx c ρ σ H F) := o'
        rw [if_neg (by rw [e1]; exact Bool.false_ne_true)] at o2
        exact ⟨false, e2, fun z => Bool.noConfusion z, fun _ => o2 cv dd σ' H' F' g er⟩
end
/-- what isinstance asks of an exception's class -/
def excB (K : PySem.W.Frag) (x : Str) : Bool := decide (PySem.W.findIn K (.ref (He.ga K x)) "__getattribute__" = some (some (.builtin "BaseException.__getattribute__"))) && (decide (PySem.W.findIn K (.ref (He.ga K x)) "__getattr__" = some none) && (decide (PySem.W.subIn K (.ref (He.ga K x)) (.type "BaseException") = some true) &&
  (PySem.W.hasDictIn K (He.ga K x) && (decide (PySem.W.findIn K (.ref (He.ga K x)) "__class__" = some (some (.builtin "object.__class__"))) && (decide (PySem.W.specialIn K (.builtin "object.__class__") "__get__" = some (some (.builtin "getset_descriptor.__get__"))) &&
  (decide (PySem.W.takesIn K (.builtin "object.__class__") = some true) && (decide (PySem.W.mroIn K (He.ga K x) (.type "object") = some true) && decide (PySem.W.kitOne K (.ref (He.ga K x)) (.type "ValueError") = some true))))))))
theorem excB_ok {K : PySem.W.Frag} {x : Str} (h : excB K x = true) : ExcC K (He.ga K x) ∧ PySem.W.kitOne K (.ref (He.ga K x)) (.type "ValueError") = some true := by
  unfold excB at h
  obtain ⟨h1, h⟩ := He.ba h
  obtain ⟨h2, h⟩ := He.ba h
  obtain ⟨h3, h⟩ := He.ba h
  obtain ⟨h4, h⟩ := He.ba h
  obtain ⟨h5, h⟩ := He.ba h
  obtain ⟨h6, h⟩ := He.ba h
  obtain ⟨h7, h⟩ := He.ba h
  obtain ⟨h8, h9⟩ := He.ba h
  exact ⟨⟨of_decide_eq_true h1, of_decide_eq_true h2, of_decide_eq_true h3, h4, of_decide_eq_true h5, of_decide_eq_true h6, of_decide_eq_true h7, of_decide_eq_true h8⟩, of_decide_eq_true h9⟩
end DL

set_option Elab.async false
set_option linter.all false
set_option maxRecDepth 100000
set_option maxHeartbeats 2000000
namespace DL
open PySem PySem.Spec PyProof.Rows L2
/-! ### constants of the module: data of the written part -/
mutual
def datB (K : PySem.W.Frag) : Nat → Value → PyData → Bool
  | _, .none, .none => true
  | _, .bool b, .bool c => b == c
  | _, .int i _, .int j => decide (i = j)
  | _, .str x _, .str y => decide (x = y)
  | n + 1, .ref a, .tuple ds => (match K.lookup a with
    | some ⟨.type c, _, .seq its _, _⟩ => decide (c = "tuple") && (decide (its.size ≤ sizeLine) && datsB K n its.toList ds)
    | _ => false)
  | _, _, _ => false
def datsB (K : PySem.W.Frag) : Nat → List Value → List PyData → Bool
  | _, [], [] => true
  | n, u :: us, d :: ds => datB K n u d && datsB K n us ds
  | _, _, _ => false
end
def DatOk (K : Kx) (n : Nat) : Prop := ∀ (u : Value) (d : PyData), datB K.fr n u d = true → ∃ v, RelV v u ∧ ∀ F, Dp K F v d
theorem datsB_ok {K : Kx} {n : Nat} (hn : DatOk K n) : ∀ (us : List Value) (ds : List PyData), datsB K.fr n us ds = true → ∃ vs, Vals vs us ∧ ∀ F, DpAll K F vs ds
  | [], [], h => ⟨[], .nil, fun F => .nil⟩
  | u :: us, d :: ds, h => by
      have h' : (datB K.fr n u d && datsB K.fr n us ds) = true := by unfold datsB at h; exact h
      rw [Bool.and_eq_true] at h'
      obtain ⟨v, a1, a2⟩ := hn u d h'.1
      obtain ⟨vs, b1, b2⟩ := datsB_ok hn us ds h'.2
      exact ⟨v :: vs, .cons a1 b1, fun F => .cons (a2 F) (b2 F)⟩
  | [], _ :: _, h => by unfold datsB at h; cases h
  | _ :: _, [], h => by unfold datsB at h; cases h
theorem datB_flat {K : Kx} {n : Nat} {u : Value} {d : PyData} (h : datB K.fr n u d = true) (hr : ∀ a ds, u = .ref a → d = .tuple ds → False) : ∃ v, RelV v u ∧ ∀ F, Dp K F v d := by
  cases u <;> cases d <;> first
    | exact ⟨.non, rfl, fun F => .non⟩
    | (rename_i i t j
       have e : i = j := by cases n <;> exact of_decide_eq_true h
       subst e
       first
         | exact ⟨.int i, ⟨t, rfl⟩, fun F => .int i⟩
         | exact ⟨.str i, ⟨t, rfl⟩, fun F => .str i⟩)
    | (rename_i b c
       have e : b = c := by cases b <;> cases c <;> first | rfl | (cases n <;> cases h)
       subst e
       exact ⟨.bl b, rfl, fun F => .bl b⟩)
    | (exfalso; cases n <;> cases h; done)
    | exact (hr _ _ rfl rfl).elim
theorem datB_ok {K : Kx} : ∀ n, DatOk K n
  | 0 => fun u d h => datB_flat h fun a ds e1 e2 => by subst e1 e2; cases h
  | n + 1 => fun u d h => by
    by_cases hr : ∃ a ds, u = .ref a ∧ d = .tuple ds
    · obtain ⟨a, ds, rfl, rfl⟩ := hr
      have h' : (match K.fr.lookup a with
        | some ⟨.type c, _, .seq its _, _⟩ => decide (c = "tuple") && (decide (its.size ≤ sizeLine) && datsB K.fr n its.toList ds)
        | _ => false) = true := by unfold datB at h; exact h
      cases q : K.fr.lookup a with
      | none => rw [q] at h'; cases h'
      | some o =>
        obtain ⟨oc, od, dt, osl⟩ := o
        rw [q] at h'
        cases oc with
        | type c =>
          cases dt with
          | seq its m =>
            have h2 : (decide (c = "tuple") && (decide (its.size ≤ sizeLine) && datsB K.fr n its.toList ds)) = true := h'
            rw [Bool.and_eq_true, Bool.and_eq_true, decide_eq_true_eq, decide_eq_true_eq] at h2
            obtain ⟨vs, h4, h5⟩ := datsB_ok (datB_ok n) _ _ h2.2.2
            exact ⟨.ref a, rfl, fun F => .tup (.inr ⟨_, its, m, q, congrArg Value.type h2.1, rfl, h2.2.1, h4⟩) (h5 F)⟩
          | _ => cases h'
        | _ => cases dt <;> cases h'
    · exact datB_flat h fun a ds e1 e2 => hr ⟨a, ds, e1, e2⟩
/-- the module's name x holds the data d -/
def DatK (K : Kx) (x : Str) (d : PyData) : Prop := ∃ u v, K.mg x = some u ∧ RelV v u ∧ ∀ F, Dp K F v d
def conB (K : PySem.W.Frag) (x : Str) (d : PyData) : Bool := match PySem.W.nsIn K mainGlobals x with
  | some (some u) => datB K 4 u d
  | _ => false
theorem conB_ok {K : Kx} {h : Heap} {x : Str} {d : PyData} (X : K.fr.In h) (N : h.Ns mainGlobals K.mg) (c : conB K.fr x d = true) : DatK K x d := by
  unfold conB at c
  cases e : PySem.W.nsIn K.fr mainGlobals x with
  | none => rw [e] at c; cases c
  | some o =>
    cases o with
    | none => rw [e] at c; cases c
    | some u =>
      rw [e] at c
      obtain ⟨v, h1, h2⟩ := datB_ok 4 _ _ c
      exact ⟨u, v, PySem.W.mg_of X N e, h1, h2⟩
section
variable {X : Cx} {c : Ct} {x : Str} {p : Pos} {d : PyData}
theorem de_gdat (hg : Gl X x) (hm : DatK X.kx x d) (hd : (x == ("__debug__" : Str)) = false := by decide) : DE X c (.Name x p) (M.pure d) := by
  obtain ⟨u, v, h1, h2, h3⟩ := hm
  exact de_globP (pe_glob (v := v) hg h1 h2 hd) h3
end
end DL

set_option Elab.async false
set_option linter.all false
set_option maxRecDepth 100000
set_option maxHeartbeats 2000000
namespace DL
open PySem PySem.Spec PyProof.Rows L2
/-! ### t[::-1] -/
section
variable {prog : Program} {w : World} {A : Around} {E : Value → Shared → Prop} {s : Shared}
theorem fm_some {α β : Type} {f : α → Option β} {g : α → β} : ∀ {l : List α}, (∀ x ∈ l, f x = some (g x)) → l.filterMap f = l.map g
  | [], _ => rfl
  | x :: r, h => by
    rw [List.filterMap_cons, h x List.mem_cons_self, List.map_cons, fm_some fun y hy => h y (List.mem_cons_of_mem _ hy)]
theorem rev_pick (xs : Array Value) : ((List.range xs.size).filterMap fun (k : Nat) => xs[((xs.size : Int) - 1 + (k : Int) * -1).toNat]?) = xs.toList.reverse := by
  have e : ∀ k, k < xs.size → xs[((xs.size : Int) - 1 + (k : Int) * -1).toNat]? = some (xs.toList.reverse.getD k .none) := fun k hk => by
    have e1 : ((xs.size : Int) - 1 + (k : Int) * -1).toNat = xs.size - 1 - k := by omega
    rw [e1]
    have hk2 : xs.size - 1 - k < xs.size := by omega
    rw [Array.getElem?_eq_getElem hk2, List.getD_eq_getElem?_getD, List.getElem?_reverse (by simpa using hk)]
    simp [hk2]
  have e2 : (List.range xs.size).filterMap (fun (k : Nat) => xs[((xs.size : Int) - 1 + (k : Int) * -1).toNat]?) = (List.range xs.size).map fun k => xs.toList.reverse.getD k .none := by
    exact fm_some fun k hk => e k (List.mem_range.mp hk)
  rw [e2]
  apply List.ext_getElem
  · simp
  · intro i h1 h2
    simp at h1 h2
    simp [h1]
theorem sliceApplied_rev {sl : Addr} {vs : Value} {n : Nat} {Q : Int × Int × Nat → Shared → Prop} (hs : s.heap.IsSliceOf sl .none .none vs) (ps : IsPart vs (some (-1)))
    (h : Q ((n : Int) - 1, -1, n) s) : wpAny (model prog w) A (Builtin.Slice.sliceApplied (.ref sl) (pure (n : Int))) Q E s := by
  obtain ⟨os, hos, hcs, hds⟩ := id hs
  unfold Builtin.Slice.sliceApplied Builtin.Slice.sliceFields
  refine wpAny_bind (wpAny_bind (wpAny_field hos hds (x := .none) rfl (wpAny_bind (wpAny_field hos hds (x := .none) rfl (wpAny_bind (wpAny_field hos hds (x := vs) rfl (wpAny_pure ?_)))))))
  refine wpAny_bind (HT.slicePart_ ps ?_)
  show wpAny _ _ (if ((-1 : Int) == 0) = true then _ else _) _ _ s
  rw [if_neg (by decide)]
  refine wpAny_bind (HT.slicePart_ .none (wpAny_bind (HT.slicePart_ .none (wpAny_bind (wpAny_pure ?_)))))
  show wpAny _ _ (match Builtin.Slice.sliceAdjust none none (-1) (n : Int) with | (lo, hi) => pure (lo, (-1 : Int), Builtin.Slice.slicePlaces lo hi (-1))) _ _ s
  have ea : Builtin.Slice.sliceAdjust none none (-1) (n : Int) = ((n : Int) - 1, -1) := rfl
  have ep : Builtin.Slice.slicePlaces ((n : Int) - 1) (-1) (-1) = n := by
    unfold Builtin.Slice.slicePlaces
    rw [if_neg (by decide)]
    by_cases hn : n = 0
    · subst hn; rfl
    · rw [if_pos (by omega)]
      have : ((n : Int) - 1 - -1 - 1) / - -1 + 1 = n := by
        have e : (- -1 : Int) = 1 := by decide
        rw [e, Int.ediv_one]; omega
      rw [this]; omega
  rw [ea]
  show wpAny _ _ (pure ((n : Int) - 1, (-1 : Int), Builtin.Slice.slicePlaces ((n : Int) - 1) (-1) (-1))) _ _ s
  rw [ep]
  exact wpAny_pure h
theorem getItem_tuple_rev {t sl : Addr} {items : Array Value} {vs : Value} {Q : Value → Shared → Prop} (ht : IsTup s.heap t items) (hs : s.heap.IsSliceOf sl .none .none vs) (ps : IsPart vs (some (-1)))
    (h : Q (.ref s.heap.objs.size) { s with heap := s.heap.push { cls := .type "tuple", data := .seq items.toList.reverse.toArray } })
    (hsz : items.size ≤ sizeLine) : wpAny (model prog w) A (getItem (.ref t) (.ref sl)) Q E s := by
  have htake : sizeOk (.seq items.toList.reverse.toArray) := by
    show items.toList.reverse.toArray.size ≤ sizeLine
    rw [List.size_toArray, List.length_reverse, Array.length_toList]
    exact hsz
  obtain ⟨os, hos, hcs, hds⟩ := id hs
  have hTs : s.TypeIs (.ref sl) "slice" := ⟨os, hos, hcs⟩
  unfold getItem
  try with_reducible refine wpAny_holding ?_
  first | refine wpAny_bind (wpAny_pure ?_) | skip
  refine wpAny_bind (wpAny_sequenceKey ht.typeIs (by decide) ?_)
  refine wpAny_bind (wpAny_callSpecial?_slot (name := Str.ofString "__getitem__") ht.typeIs PyProof.Rows.slot_tuple_getitem
    (wpAny_call_entry PyProof.Rows.slot_tuple_getitem ht.typeIs entry_tuple_getitem ?_ (args_tuple_getitem _ _)))
  show wpAny _ _ (Builtin.Tuple.tupleItemsOf (.ref t) >>= _) _ _ s
  refine wpAny_bind (tupleItemsOf_ ht ?_)
  refine wpAny_bind (wpAny_typeOf hTs ?_)
  rw [if_pos (by decide)]
  refine wpAny_bind (sliceApplied_rev hs ps ?_)
  have hno : ¬ ((((items.size : Int) - 1 == 0) && ((-1 : Int) == 1) && items.size == items.size) = true) := by
    rw [show ((-1 : Int) == 1) = false from rfl, Bool.and_false, Bool.false_and]
    exact Bool.false_ne_true
  show wpAny _ _ (if (((items.size : Int) - 1 == 0) && ((-1 : Int) == 1) && items.size == items.size) = true then _ else _) _ _ s
  rw [if_neg hno, rev_pick]
  first
    | exact wpAny_bind (m := Builtin.Tuple.tupleExact _) (wpAny_newObj_type (wpAny_pure ⟨_, rfl, wpAny_pure h⟩) htake)
    | exact wpAny_bind (m := Builtin.Tuple.tupleExact _) (wpAny_newObj_type (wpAny_bind (wpAny_pure (wpAny_pure ⟨_, rfl, wpAny_pure h⟩))) htake)
    | exact wpAny_bind (wpAny_bind (m := Builtin.Tuple.tupleExact _) (wpAny_newObj_type (wpAny_pure (wpAny_pure ⟨_, rfl, wpAny_pure h⟩)) htake))
    | exact wpAny_bind (wpAny_bind (m := Builtin.Tuple.tupleExact _) (wpAny_newObj_type (wpAny_pure ⟨_, rfl, wpAny_pure h⟩) htake))
end
section
variable {X : Cx} {c : Ct} {e a b : Expr} {pos p2 : Pos} {m m1 m2 : M PyData} {n1 n2 : M C}
def tRevA (K : PySem.W.Frag) (te : TE) : TE := fun σ H Q => te σ H fun x H1 => ∃ a xs, x = .ref a ∧ (SqL K H1 a xs ∧ (∀ p, H1 p = none → Q (.ref p) (L2.upd H1 p (.lst xs.reverse))) ∨ SqT K H1 a xs ∧ ∀ p, H1 p = none → Q (.ref p) (L2.upd H1 p (.tup xs.reverse)))
theorem pe_revA {e : Expr} {te : TE} {k : Nat} {p1 p2 p3 pos : Pos} (he : PE X e te) : PE X (.Subscript e (.Slice none none (some (.UnaryOp .USub (.Constant (.int 1) k p1) p2)) p3) pos) (tRevA X.K te) := by
  refine ⟨fun pins s σ H Q I h => ?_⟩
  refine Subscript_ (thn (he.run pins s σ H _ I h) fun v s1 ⟨x, H1, I1, r1, q1⟩ => ?_)
  obtain ⟨a, xs, ex, hx⟩ := q1
  subst ex
  cases r1
  have hst : PO X (some (.UnaryOp .USub (.Constant (.int 1) k p1) p2)) (tPart (tUn (rU fun i => .int (-i)) (tC (.int 1)))) := po_some (pe_un un_neg pe_int)
  refine wpAny_Slice (thn (po_none.run pins s1 σ H1 (fun o H2 => o = none ∧ H2 = H1) I1 ⟨rfl, rfl⟩) fun vl s2 ⟨l, H2, I2, pl, el, e2⟩ => ?_)
  subst el e2
  refine thn (po_none.run pins s2 σ H2 (fun o H3 => o = none ∧ H3 = H2) I2 ⟨rfl, rfl⟩) fun vu s3 ⟨u, H3, I3, pu, eu, e3⟩ => ?_
  subst eu e3
  refine thn (hst.run pins s3 σ H3 (fun o H4 => o = some (-1) ∧ H4 = H3) I3 ⟨1, rfl, -1, rfl, rfl, rfl⟩) fun vs s4 ⟨o, H4, I4, ps, eo, e4⟩ => ?_
  subst eo e4
  have I5 : Inv X pins σ H4 { s4 with heap := s4.heap.push { cls := .type "slice", data := .fields #[vl, vu, vs] } } := I4.kept (t' := s4.toks) fun b ob q => Heap.get?_push_of_some _ q
  show wpAny (model X.prog X.w) X.A (subscriptTail e (.Slice none none (some (.UnaryOp .USub (.Constant (.int 1) k p1) p2)) p3) (.ref a) (.ref s4.heap.objs.size)) (EP X pins σ Q) X.xe { s4 with heap := s4.heap.push { cls := .type "slice", data := .fields #[vl, vu, vs] } }
  rcases hx with ⟨hx, q⟩ | ⟨hx, q⟩
  · obtain ⟨its, r, ht, hz⟩ := I5.list hx
    have hlen := r.length
    refine tail_any (ops := [.ref a, .ref s4.heap.objs.size]) ht.isList.typeIs (PySem.slot_list_getitem.lookup) ?_ (by with_unfolding_all rfl)
    refine wpAny_getItem_list_slice ht.isList (Heap.IsSliceOf.new _ vl vu vs) pl pu ps (by decide) ?_ (by rw [List.size_toArray]; omega)
    rw [PySem.W.krv_pick]
    refine ⟨.ref _, _, I5.laid (t' := s4.toks) (o := .lst xs.reverse) (fun b ob q => Heap.get?_push_of_some _ q) (Nat.le_refl _) ?_, rfl, q _ (I5.hok.fresh (Nat.le_refl _))⟩
    exact ⟨by rw [List.length_reverse]; exact hz, _, 0, r.reverse, Heap.get?_push_size _ rfl⟩
  · obtain ⟨its, r, ht, hz⟩ := I5.tuple hx
    have hlen := r.length
    cases pl
    cases pu
    refine tail_any (ops := [.ref a, .ref s4.heap.objs.size]) ht.typeIs (PyProof.Rows.slot_tuple_getitem.lookup) ?_ (by with_unfolding_all rfl)
    refine getItem_tuple_rev ht (Heap.IsSliceOf.new _ .none .none vs) ps ?_ (by rw [List.size_toArray]; omega)
    refine ⟨.ref _, _, I5.laid (t' := s4.toks) (o := .tup xs.reverse) (fun b ob q => Heap.get?_push_of_some _ q) (Nat.le_refl _) ?_, rfl, q _ (I5.hok.fresh (Nat.le_refl _))⟩
    exact ⟨by rw [List.length_reverse]; exact hz, _, r.reverse, IsTup.new _ _⟩
theorem do_rev {k : Nat} {p1 p2 p3 : Pos} (he : DE X c e m) : DO X c (.Subscript e (.Slice none none (some (.UnaryOp .USub (.Constant (.int 1) k p1) p2)) p3) pos) (mRev m) :=
  pe_imp (pe_revA he) fun σ H Q ⟨F, ρ, r, o⟩ => ⟨F, ρ, r, Out.mono (Out.bind o) (fun d ρ1 q v H1 F1 g1 d1 => by
    obtain ⟨w, e, q⟩ := Out.of q
    cases d with
    | list xs =>
      cases e
      cases d1 with
      | lst hs ha => exact ⟨_, _, rfl, .inl ⟨rd_seq g1.rp.sub hs, fun t ht => q _ _ F1 (g1.trans (Go.temp g1.rp ht _)) ⟨t, _, rfl, .inl (g1.back ht), g1.rp.free ht, upd_same, dpa_rev ha, no_own g1.rp ht⟩⟩⟩
    | tuple xs =>
      cases e
      cases d1 with
      | tup hs ha => exact ⟨_, _, rfl, .inr ⟨sqT_mono g1.rp.sub hs, fun t ht => q _ _ _ (g1.trans (Go.data g1.rp ht _)) (.tup (.inl (.inl upd_same)) (dpAll_mono (same_upd (g1.rp.free ht)) (dpa_rev ha)))⟩⟩
    | _ => cases e) fun e ρ1 q => q⟩
/-! ### xs * k -/
theorem dpa_rep {K : Kx} {F : Hp} {vs : List V} {ds : List PyData} (h : DpAll K F vs ds) : ∀ n : Nat, DpAll K F (List.replicate n vs).flatten (List.replicate n ds).flatten
  | 0 => .nil
  | n + 1 => by
    rw [List.replicate_succ, List.replicate_succ, List.flatten_cons, List.flatten_cons]
    exact dpa_app h (dpa_rep h n)
theorem do_rep (ha : DO X c a n1) (hb : DE X c b m) : DO X c (.BinOp a .Mult b pos) (mRep n1 m) :=
  pe_imp (pe_op (OpR.or op_rep op_repT) ha hb) fun σ H Q ⟨F, ρ, r, h⟩ => ⟨F, ρ, r, Out.mono (Out.bind h) (fun k ρ1 h1 v H1 F1 g1 d1 => ⟨F1, ρ1, g1.rp, Out.mono (Out.bind h1) (fun y ρ2 h2 u H2 F2 g2 d2 => by
    obtain ⟨w, e, q⟩ := Out.of h2
    have d1' := rc_go g2 d1
    have g12 := g1.trans g2
    cases y with
    | int j =>
      cases d2
      cases k with
      | l xs =>
        have e' : (if repOk xs.length j = true then some (C.l (List.replicate j.toNat xs).flatten) else none) = some w := e
        by_cases hz : repOk xs.length j = true
        · rw [if_pos hz] at e'
          cases e'
          unfold repOk at hz
          simp only [Bool.and_eq_true, decide_eq_true_eq] at hz
          obtain ⟨p, vs, rfl, k2, k3⟩ := toL_rd g2.rp.sub d1' (show toL (.l xs) = some xs from rfl)
          obtain ⟨p', o, hp, _, _, h3, h4, _⟩ := d1'
          cases hp
          obtain ⟨vs', rfl, h5⟩ := isO_l h4
          exact .inl ⟨p, j, vs', rfl, rfl, h3, by omega, by omega, by rw [dpa_len h5]; exact hz.2, fun t ht => q _ _ F2 (g12.trans (Go.temp g2.rp ht _)) ⟨t, _, rfl, .inl (g12.back ht), g2.rp.free ht, upd_same, dpa_rep h5 _, no_own g2.rp ht⟩⟩
        · rw [if_neg hz] at e'; cases e'
      | d x =>
        cases x with
        | tuple xs =>
          have e' : (if repOkT xs.length j = true then some (C.d (.tuple (List.replicate j.toNat xs).flatten)) else none) = some w := e
          by_cases hz : repOkT xs.length j = true
          · rw [if_pos hz] at e'
            cases e'
            unfold repOkT at hz
            simp only [Bool.and_eq_true, decide_eq_true_eq] at hz
            cases d1' with
            | tup hs ha =>
              refine .inr ⟨_, j, _, rfl, rfl, sqT_mono g2.rp.sub hs, fun en => ?_, hz.1.2, hz.2, by rw [dpa_len ha]; exact hz.1.1.2, fun t ht => q _ _ _ (g12.trans (Go.data g2.rp ht _)) (.tup (.inl (.inl upd_same)) (dpAll_mono (same_upd (g2.rp.free ht)) (dpa_rep ha _)))⟩
              have := dpa_len ha
              rw [en, List.length_nil] at this
              omega
          · rw [if_neg hz] at e'; cases e'
        | _ => cases e
      | _ => cases e
    | _ => cases k <;> first | cases e | (rename_i z; cases z <;> cases e)) fun e ρ2 q cv dd H2 F2 g2 er => q cv dd H2 F2 (g1.trans g2) er⟩) fun e ρ1 q => q⟩
end
section
variable {X : Cx} {c : Ct} {x n y T : Str} {C : Addr} {i j : Nat} {body : List Stmt} {mb : M Fl} {ex : Exc} {bb : Bool} {Tn : String} {np p2 p3 p4 p5 p6 p7 p8 pos pos' : Pos}
open Classical in
theorem ds_try_set (hs : X.stack = X.env :: X.outer) (hf : X.env.frame = some X.env.locals) (hN : X.N.Nodup) (hi : X.N[i]? = some n) (hln : X.env.scope.names.lookup n = some .local) (hj : X.N[j]? = some y) (hly : X.env.scope.names.lookup y = some .local) (hP : c.P.all i = false) (hPj : c.P.all j = false) (hx : ExF X.kx x C) (hgx : Gl X x) (tk : Takes X c.W)
    (hb : ∀ (W : WX) (pn : List (Addr × Obj)) (xe : Value → Shared → Prop), Takes (X.tr pn xe) W → DSs (X.tr pn xe) ⟨c.P, c.ER, W⟩ body mb)
    (hE : ∀ e cv dd H, c.ER e cv dd H → (e.same ex = true ∧ cv = .ref C ∧ dd = none) ∨ (e.same ex = false ∧ PySem.W.exmOne X.K cv (.ref C) = some false))
    (hm : PySem.W.exmOne X.K (.ref C) (.ref C) = some true) (hk : ExcC X.K C) (kk : PySem.W.kitOne X.K (.ref C) (.type Tn) = some bb)
    (gi : Gl X "isinstance") (mi : X.mg "isinstance" = none) (gT : Gl X T) (mT : X.mg T = none) (vT : bootBuiltins T = some (.type Tn)) (nT : T ≠ "__name__" := by decide) (dT : (T == ("__debug__" : Str)) = false := by decide)
    (hdx : (x == ("__debug__" : Str)) = false := by decide) (hdn : (n == ("__debug__" : Str)) = false := by decide) (hcn : (n == ("__classdict__" : Str)) = false := by decide)
    (vi : bootBuiltins "isinstance" = some (.builtin "isinstance") := by decide +kernel)
    (h3 : ∀ a pn, starEach [.Name n p4, .Name T p5] (X.suite a pn).env = (false, eval (.Name n p4) (X.suite a pn).env) :: starEach [.Name T p5] (X.suite a pn).env := by intros; rfl)
    (h4 : ∀ a pn, starEach [.Name T p5] (X.suite a pn).env = (false, eval (.Name T p5) (X.suite a pn).env) :: starEach [] (X.suite a pn).env := by intros; rfl)
    (h5 : ∀ a pn, (backTo p6 (starEach [.Name T p5] (X.suite a pn).env)).any (·.1) = false := by intros; rfl)
    (h6 : ∀ a pn, swapsWith (.Call (.Name "isinstance" p3) [.Name n p4, .Name T p5] [] p6) (some (.Name y p2)) p7.line (X.suite a pn).env = pure false := by intros; rfl) :
    DS X c (.Try body [.ExceptHandler (some (.Name x np)) (some n) [.Assign [.Name y p2] (.Call (.Name "isinstance" p3) [.Name n p4, .Name T p5] [] p6) p7] p8] [] [] pos) (sTrySet mb ex i j bb) := by
  let tsuite : Addr → TS := fun a => tAsg (tCB (rIsE X.K C a) (tCons (L2.tVar i) (tCons (tC (.ty Tn)) tNil))) (gName j)
  let ts : Addr → Value → Option Addr → TS := fun a cls d => if cls = .ref C ∧ d = none then tsuite a else tNever
  refine ps_imp (ps_try_as (i := i) (ts := ts) (Wout := c.W) (tb := fun W => tS X.kx ⟨c.P, c.ER, W⟩ mb) hs hf hN hi hln ⟨hgx, hdx, .inl hx.gl⟩ tk (fun W pn xe tkW _ => hb W pn xe tkW) (fun a oe cls d pn hz hfl => ?_)) fun D σ H ⟨F, ρ, r, o⟩ => ?_
  · by_cases hc : cls = .ref C ∧ d = none
    · obtain ⟨rfl, rfl⟩ := hc
      show PSs _ _ (if Value.ref C = .ref C ∧ (none : Option Addr) = none then tsuite a else tNever)
      rw [if_pos ⟨rfl, rfl⟩]
      exact pss_one (ps_set hN hj (.inl hly) (pe_callB (call_isE hk hz hfl) gi mi vi (pa_cons (pe_var hi (.inl hln) hdn hcn) (pa_cons (pe_bltn (v := .ty Tn) gT mT vT rfl nT dT) pa_nil (h4 _ _)) (h3 _ _)) (by decide) (by decide) (h3 _ _) (h5 _ _)) (h6 _ _) (.inr hly))
    · show PSs _ _ (if cls = .ref C ∧ d = none then tsuite a else tNever)
      rw [if_neg hc]
      exact pss_never
  · have o' : Out (match mb ρ with
      | .ok fl ρ' => .ok fl ρ'
      | .err e ρ' => if e.same ex = true then (if i < ρ'.length ∧ j < ρ'.length then .ok .nx (((ρ'.set i none).set j (some (.d (.bool bb)))).set i none) else .stuck) else .err e ρ'
      | .stuck => .stuck : Res Fl) (SK X.kx c D ρ σ H F) (SE X.kx c ρ σ H F) := o
    refine ⟨F, ρ, r, ?_⟩
    cases z : mb ρ with
    | ok fl ρ' => rw [z] at o'; exact o'
    | stuck => rw [z] at o'; exact o'
    | err e ρ' =>
      rw [z] at o'
      intro cv dd σ' H' F' g er
      rcases hE e cv dd H' er with ⟨e1, rfl, rfl⟩ | ⟨e1, e2⟩
      · have o2 : Out (if e.same ex = true then (if i < ρ'.length ∧ j < ρ'.length then .ok .nx (((ρ'.set i none).set j (some (.d (.bool bb)))).set i none) else .stuck) else .err e ρ' : Res Fl) (SK X.kx c D ρ σ H F) (SE X.kx c ρ σ H F) := o'
        rw [if_pos e1] at o2
        have hlt0 : i < ρ'.length ∧ j < ρ'.length := Decidable.byContradiction fun hn => by
          rw [if_neg hn] at o2
          exact o2
        rw [if_pos hlt0] at o2
        refine ⟨true, hm, fun _ a ha => ?_, fun z => Bool.noConfusion z⟩
        show (if Value.ref C = .ref C ∧ (none : Option Addr) = none then tsuite a else tNever) _ _ _
        rw [if_pos ⟨rfl, rfl⟩]
        have hlt : i < σ'.length := by rw [← g.rp.len]; exact hlt0.1
        refine ⟨.ref a, by rw [List.getElem?_set_self hlt], .ty Tn, .type Tn, bb, rfl, fun u hu => hu, kk, ?_⟩
        have g1 := g.forget hP (some (.ref a))
        have g2 := g1.put (c := .d (.bool bb)) (v := .bl bb) (.bl bb) hPj
        have g3 := g2.forget hP none
        exact o2 _ _ _ g3
      · have o2 : Out (if e.same ex = true then (if i < ρ'.length ∧ j < ρ'.length then .ok .nx (((ρ'.set i none).set j (some (.d (.bool bb)))).set i none) else .stuck) else .err e ρ' : Res Fl) (SK X.kx c D ρ σ H F) (SE X.kx c ρ σ H F) := o'
        rw [if_neg (by rw [e1]; exact Bool.false_ne_true)] at o2
        exact ⟨false, e2, fun z => Bool.noConfusion z, fun _ => o2 cv dd σ' H' F' g er⟩
end
end DL
namespace DL
open PySem PySem.Spec PyProof.Rows L2
section
variable {X : Cx} {c : Ct} {a b : Expr} {pos : Pos} {m : M PyData} {i : Nat}
theorem vlAt_dp {K : Kx} {F : Hp} {ρ : Sl} {σ : St} {H : Hp} {xs : List PyData} (r : Rp K F ρ σ H) (h : vlAt i ρ = some xs) : ∃ p, σ[i]? = some (some (.ref p)) ∧ L2.Dp K.fr H (.ref p) (.list xs) := by
  unfold vlAt at h
  cases z : ρ[i]? with
  | none => rw [z] at h; cases h
  | some o =>
    cases o with
    | none => rw [z] at h; cases h
    | some k =>
      cases k with
      | l ys =>
        rw [z] at h
        cases h
        obtain ⟨p, o, h1, h2, h3, h4⟩ := r.own i _ z rfl
        obtain ⟨vs, rfl, h5⟩ := isO_l h4
        exact ⟨p, h1, .lst (.inl (.inl h3)) (dpAll_to (dpAll_mono r.sub h5))⟩
      | d x =>
        rw [z] at h
        cases x with
        | list ys =>
          cases h
          obtain ⟨v, h1, h2⟩ := r.dat i _ z
          cases h2 with
          | lst hs ha => exact ⟨_, h1, dp_to (dp_mono r.sub (.lst hs ha))⟩
        | _ => cases h
      | _ => rw [z] at h; cases h
theorem dt_cmV {op : CmpOp} {r : R2} {f : PyData → PyData → Option Bool} (ho : OpR X (compareOp op) r)
    (hf : ∀ {ρ : Sl} {σ : St} {H F : Hp} {v u : V} {x y : PyData} {k : Bool} {Q : VK}, Rp X.kx F ρ σ H → L2.Dp X.K H v x → Dp X.kx F u y → f x y = some k → Q (.bl k) H → r v u H Q)
    (ha : PE X a (L2.tVar i)) (hb : DE X c b m) (hm : behindInMarks op b = false) : DT X c (.Compare a [op] [b] pos) (tCmpV f i m) :=
  pt_imp (pt_cmpR ho ha hb hm) fun σ H Q ⟨F, ρ, r, h⟩ => by
    have h' : Out (if (vlAt i ρ).isSome = true then (M.bind m fun y => fun ρ' => match vlAt i ρ' with
      | some xs => M.of (f (.list xs) y) ρ'
      | none => .stuck) ρ else .stuck) (fun a ρ' => ∀ v H' F', Go X.kx c.P ρ σ H F ρ' σ H' F' → RB (Fr ρ σ H) ρ' σ H' F' a v → Q v H') (fun e ρ' => ∀ cv dd H' F', Go X.kx c.P ρ σ H F ρ' σ H' F' → c.ER e cv dd H' → c.W cv dd σ H') := h
    cases hl : vlAt i ρ with
    | none => rw [hl] at h'; exact h'.elim
    | some xs =>
      rw [hl] at h'
      rw [if_pos (show (some xs).isSome = true from rfl)] at h'
      obtain ⟨p, h1, _⟩ := vlAt_dp r hl
      refine ⟨.ref p, h1, F, ρ, r, Out.mono (Out.bind h') (fun y ρ1 q u H1 F1 g1 d1 => ?_) fun e ρ1 q => q⟩
      cases hl1 : vlAt i ρ1 with
      | none => rw [hl1] at q; exact q.elim
      | some xs1 =>
        rw [hl1] at q
        obtain ⟨w, e1, q2⟩ := Out.of (show Out (M.of (f (.list xs1) y) ρ1) _ _ from q)
        obtain ⟨p1, k1, k2⟩ := vlAt_dp g1.rp hl1
        rw [h1] at k1; cases k1
        exact hf g1.rp k2 d1 e1 ⟨w, rfl, q2 _ H1 F1 g1 rfl⟩
theorem dt_eqV (hu : X.A.units + 64 < cLine) (ha : PE X a (L2.tVar i)) (hb : DE X c b m) (hm : behindInMarks .Eq b = false := by rfl) : DT X c (.Compare a [.Eq] [b] pos) (tCmpV eqS i m) :=
  dt_cmV (op_eqD hu) (fun {ρ σ H F v u x y k Q} r hx hy e q => by
    unfold eqS at e
    by_cases h2 : (SeqAt.shaped x && SeqAt.shaped y) = true
    · rw [if_pos h2] at e
      cases e
      rw [Bool.and_eq_true] at h2
      exact ⟨x, y, hx, dp_to (dp_mono r.sub hy), h2.1, h2.2, q⟩
    · rw [if_neg h2] at e; cases e) ha hb hm
theorem dt_neV (hu : X.A.units + 64 < cLine) (ha : PE X a (L2.tVar i)) (hb : DE X c b m) (hm : behindInMarks .NotEq b = false := by rfl) : DT X c (.Compare a [.NotEq] [b] pos) (tCmpV neS i m) :=
  dt_cmV (op_neD hu) (fun {ρ σ H F v u x y k Q} r hx hy e q => by
    unfold neS at e
    by_cases h2 : (SeqAt.shaped x && SeqAt.shaped y) = true
    · rw [if_pos h2] at e
      cases e
      rw [Bool.and_eq_true] at h2
      exact ⟨x, y, hx, dp_to (dp_mono r.sub hy), h2.1, h2.2, q⟩
    · rw [if_neg h2] at e; cases e) ha hb hm
end
end DL

set_option Elab.async false
set_option linter.all false
set_option maxRecDepth 100000
set_option maxHeartbeats 4000000
namespace DL
open PySem PySem.Spec PyProof.Rows L2
section
variable {P : Program} {w : World} {A : Around} {E : Value → Shared → Prop} {s : Shared}
/-- the set that is filled -/
abbrev eSet (w : World) : Obj := { cls := .type "set", dict := none, data := .set #[] 0 (.fresh 0 0 (!w.params.followText "set-order")) }
abbrev hSet (w : World) (s : Shared) : Heap := s.heap.push (eSet w)
theorem set_of_list {l : Addr} {items : Array Value} (ns : List Int) {Q : Value → Shared → Prop} (hh : A.handled = none) (hl : s.heap.IsList l items) (hit : IntsAre items.toList ns) (hb : ns.length + 1 < scanBound)
    (h : ∀ (h' : Heap) (tk c : Nat), SetR w h' s.heap.objs.size (fun j => decide (j ∈ ns)) c → c ≤ ns.length → (∀ b o, s.heap.get? b = some o → h'.get? b = some o) → Q (.ref s.heap.objs.size) { s with heap := h', toks := tk }) :
    wpAny (model P w) A (call (.type "set") [.ref l]) Q E s := by
  have size_eq : items.size = ns.length := by have q := IntsAre.length hit; rwa [Array.length_toList] at q
  have ⟨mc, mt, hmro⟩ := F.called_set.mro
  have hmade := F.called_set.made
  have hsub := F.called_set.sub
  refine wpAny_call (codeAny_of_tree (wpAny_pure ⟨Code.quiet_builtin _ (by decide +kernel), codeAny_builtin F.entry_type_call ?_⟩))
  rw [Around.under_plain (weight_type_call_type "set" [.ref l] []) rfl]
  have t1 := F.called_set.notType
  have t2 := F.called_set.canCreate
  have t3 := F.typeCall_set_1 (.ref l)
  repeat (any_goals (first | assumption | wp_step))
  refine codeAny_mono (code_set_led1 (.ref l) (E := E) (Q₁ := fun obj s₁ => obj = .ref s.heap.objs.size ∧ s₁ = { s with heap := hSet w s }) ⟨rfl, rfl⟩) fun r s₁ hr => ?_
  match r, hr with
  | .error e, hr => exact hr
  | .ok (.ret obj), hr =>
    obtain ⟨rfl, rfl⟩ := hr
    have made : (hSet w s).get? s.heap.objs.size = some (eSet w) := Heap.get?_push_size _ rfl
    have ty : Shared.TypeIs { s with heap := hSet w s } (.ref s.heap.objs.size) "set" := ⟨_, made, rfl⟩
    have i1 := F.called_set.init.lookup
    have i2 := F.called_set.init.bind (.ref s.heap.objs.size)
    repeat (any_goals (first | assumption | wp_step))
    refine codeAny_mono (codeAny_call_builtin (R := wants (fun r s₂ => r = .none ∧ ∃ h' tk c, s₂ = { s with heap := h', toks := tk } ∧ SetR w h' s.heap.objs.size (fun j => decide (j ∈ ns)) c ∧ c ≤ ns.length ∧ (∀ b o, s.heap.get? b = some o → h'.get? b = some o)) E) F.called_set.init.plain F.entry_set_init (check_set_init_1 ty ?_)) fun r₂ s₂ hr₂ => ?_
    · have old : ∀ b o, s.heap.get? b = some o → (hSet w s).get? b = some o := fun b o e => Heap.get?_push_of_some _ e
      obtain ⟨⟨cl, dc, dt, sl⟩, lo, lc, ln, ld⟩ := id hl
      simp only at lc ld
      subst lc ld
      have lo' := old _ _ lo
      have n1 := F.sub_list_set
      have n2 := F.sub_list_frozenset
      have n3 : (Value.type "list" == Value.type "dict") = false := by decide
      have hl1 : (hSet w s).IsList l items := ⟨_, lo', rfl, ln, rfl⟩
      unfold Builtin.«set.__init__» noKeywords Builtin.Frozenset.updateFrom
      generalize ep : pyIter = PI
      wp_walk
      subst ep
      refine wpAny_pyIter_list hl1 (wpAny_bind (wpAny_runValue ?_))
      have ls : l < s.heap.objs.size := Heap.lt_size lo
      have quiet : A.in1.in1.in1.handled = none := by simp [hh]
      have grown : (hSet w s).objs.size = s.heap.objs.size + 1 := Heap.size_push ..
      have at_ : ∀ (i : Nat) (v : Value), items[i]? = some v → ∃ k t, ns[i]? = some k ∧ v = .int k t := fun i v hv => by
        have hi : i < ns.length := size_eq ▸ (Array.getElem?_eq_some_iff.mp hv).1
        obtain ⟨t, e⟩ := IntsAre.int_at hit i v (by rw [Array.getElem?_toList]; exact hv)
        exact ⟨ns[i], t, List.getElem?_eq_getElem hi, by rw [e, List.getD_eq_getElem?_getD, List.getElem?_eq_getElem hi]; rfl⟩
      refine set_update_ints ((Walks.list quiet _ l (by rw [grown]; exact Nat.ne_of_lt (Nat.lt_succ_of_lt ls)) items).toS) s.heap.objs.size (by rw [grown]; simp only [List.mem_cons, List.not_mem_nil, or_false, not_or]; exact ⟨Nat.ne_of_lt (Nat.lt_succ_self _), Nat.ne_of_gt ls⟩) ns size_eq hb at_ (items.size - 0) 0 _ (by omega) (Nat.zero_le _) ⟨⟨_, Heap.get?_push_size _ rfl, rfl, rfl⟩, hl1.push _⟩ ⟨0, Nat.le_refl 0, setR_new_at (Heap.get?_push_of_some _ made)⟩ ?_
      rintro ⟨h', g2, d', tk', os'⟩ c' hm hc' hS'
      obtain rfl : g2 = s.gens := hm.gens
      obtain rfl : d' = s.drawn := hm.drawn
      obtain rfl : os' = s.os := hm.os
      refine wpAny_pure (wpAny_pure ⟨rfl, h', tk', c', rfl, hS', size_eq ▸ hc', fun b o e => ?_⟩)
      have hb0 : b < s.heap.objs.size := Heap.lt_size e
      exact hm.heap b o (by rw [grown]; simp only [List.mem_cons, List.not_mem_nil, or_false, not_or]; exact ⟨Nat.ne_of_lt hb0, Nat.ne_of_lt (Nat.lt_succ_of_lt hb0)⟩) (Heap.get?_push_of_some _ (old b o e))
    · match r₂, hr₂ with
      | .error e, hr₂ => exact hr₂
      | .ok (.ret r), hr₂ =>
        obtain ⟨rfl, h', tk, c', rfl, a1, a2, a3⟩ := hr₂
        repeat (any_goals (first | assumption | wp_step))
        exact h _ _ _ a1 a2 a3
  | .ok .next, hr => exact hr.elim
end
end DL

set_option Elab.async false
set_option linter.all false
set_option maxRecDepth 100000
set_option maxHeartbeats 2000000
namespace DL
open PySem PySem.Spec PyProof.Rows L2
/-! ### rows told by their order alone -/
theorem insU_mem (x : Int) : ∀ (l : List Int) (z : Int), z ∈ insU x l ↔ z = x ∨ z ∈ l
  | [], z => by simp [insU]
  | y :: r, z => by
    unfold insU
    split
    · simp
    · split
      · rename_i h; subst h; simp
      · rw [List.mem_cons, insU_mem x r z, List.mem_cons]
        constructor
        · rintro (h | h | h) <;> simp [h]
        · rintro (h | h | h) <;> simp [h]
theorem insU_lt (x : Int) : ∀ {l : List Int}, l.Pairwise (· < ·) → (insU x l).Pairwise (· < ·)
  | [], _ => List.pairwise_singleton _ _
  | y :: r, h => by
    have h' := List.pairwise_cons.mp h
    unfold insU
    split
    · rename_i c
      refine List.pairwise_cons.mpr ⟨fun z hz => ?_, h⟩
      rcases List.mem_cons.mp hz with e | e
      · rw [e]; exact c
      · have := h'.1 z e; omega
    · split
      · exact h
      · refine List.pairwise_cons.mpr ⟨fun z hz => ?_, insU_lt x h'.2⟩
        rcases (insU_mem x r z).mp hz with e | e
        · omega
        · exact h'.1 z e
theorem sortU_mem : ∀ (l : List Int) (z : Int), z ∈ sortU l ↔ z ∈ l
  | [], z => by simp [sortU]
  | x :: r, z => by rw [sortU, insU_mem, sortU_mem r z, List.mem_cons]
theorem sortU_lt : ∀ (l : List Int), (sortU l).Pairwise (· < ·)
  | [] => List.Pairwise.nil
  | x :: r => insU_lt x (sortU_lt r)
theorem lt_unique : ∀ {l m : List Int}, l.Pairwise (· < ·) → m.Pairwise (· < ·) → (∀ z, z ∈ l ↔ z ∈ m) → l = m
  | [], [], _, _, _ => rfl
  | [], y :: m, _, _, h => absurd ((h y).mpr List.mem_cons_self) (by simp)
  | x :: l, [], _, _, h => absurd ((h x).mp List.mem_cons_self) (by simp)
  | x :: l, y :: m, hl, hm, h => by
    have hl' := List.pairwise_cons.mp hl
    have hm' := List.pairwise_cons.mp hm
    have e : x = y := by
      rcases List.mem_cons.mp ((h x).mp List.mem_cons_self) with e | e
      · exact e
      · rcases List.mem_cons.mp ((h y).mpr List.mem_cons_self) with e2 | e2
        · exact e2.symm
        · have a := hm'.1 x e
          have b := hl'.1 y e2
          omega
    subst e
    congr 1
    refine lt_unique hl'.2 hm'.2 fun z => ?_
    constructor
    · intro hz
      rcases List.mem_cons.mp ((h z).mp (List.mem_cons_of_mem _ hz)) with e | e
      · subst e; have := hl'.1 z hz; omega
      · exact e
    · intro hz
      rcases List.mem_cons.mp ((h z).mpr (List.mem_cons_of_mem _ hz)) with e | e
      · subst e; have := hm'.1 z hz; omega
      · exact e
theorem insS_perm (x : Int) : ∀ l : List Int, (insS x l).Perm (x :: l)
  | [] => List.Perm.refl _
  | y :: r => by
    unfold insS
    split
    · exact List.Perm.refl _
    · exact ((insS_perm x r).cons y).trans (List.Perm.swap x y r)
theorem insS_le (x : Int) : ∀ {l : List Int}, l.Pairwise (· ≤ ·) → (insS x l).Pairwise (· ≤ ·)
  | [], _ => List.pairwise_singleton _ _
  | y :: r, h => by
    have h' := List.pairwise_cons.mp h
    unfold insS
    split
    · rename_i c
      refine List.pairwise_cons.mpr ⟨fun z hz => ?_, h⟩
      rcases List.mem_cons.mp hz with e | e
      · rw [e]; exact c
      · have := h'.1 z e; omega
    · refine List.pairwise_cons.mpr ⟨fun z hz => ?_, insS_le x h'.2⟩
      rcases List.mem_cons.mp ((insS_perm x r).mem_iff.mp hz) with e | e
      · omega
      · exact h'.1 z e
theorem sortS_perm : ∀ l : List Int, (sortS l).Perm l
  | [] => List.Perm.refl _
  | x :: r => (insS_perm x (sortS r)).trans ((sortS_perm r).cons x)
theorem sortS_le : ∀ l : List Int, (sortS l).Pairwise (· ≤ ·)
  | [] => List.Pairwise.nil
  | x :: r => insS_le x (sortS_le r)
theorem le_unique : ∀ {l m : List Int}, l.Pairwise (· ≤ ·) → m.Pairwise (· ≤ ·) → l.Perm m → l = m
  | [], m, _, _, h => (List.nil_perm.mp h).symm
  | x :: l, [], _, _, h => absurd h.length_eq (by simp)
  | x :: l, y :: m, hl, hm, h => by
    have hl' := List.pairwise_cons.mp hl
    have hm' := List.pairwise_cons.mp hm
    have e : x = y := by
      have a : x ≤ y := by
        rcases List.mem_cons.mp (h.mem_iff.mpr (List.mem_cons_self : y ∈ y :: m)) with e | e
        · omega
        · exact hl'.1 y e
      have b : y ≤ x := by
        rcases List.mem_cons.mp (h.mem_iff.mp (List.mem_cons_self : x ∈ x :: l)) with e | e
        · omega
        · exact hm'.1 x e
      omega
    subst e
    congr 1
    exact le_unique hl'.2 hm'.2 (List.Perm.cons_inv h)
/-! ### ints of data -/
theorem intsD_of {K : Kx} {F : Hp} : ∀ {vs : List V} {ds : List PyData} {ns : List Int}, DpAll K F vs ds → intsD ds = some ns → vs = ns.map V.int
  | _, _, ns, .nil, h => by cases h; rfl
  | v :: vs, d :: ds, ns, .cons hd ht, h => by
    cases d with
    | int i =>
      have h' : (intsD ds).map (fun t => i :: t) = some ns := h
      cases e : intsD ds with
      | none => rw [e] at h'; cases h'
      | some t =>
        rw [e] at h'
        cases h'
        cases hd
        rw [List.map_cons, intsD_of ht e]
    | _ => cases h
section
variable {X : Cx} {c : Ct} {e : Expr} {pos p p2 pos2 : Pos} {m : M PyData}
/-- set(l) of a list of whole numbers -/
def rSetL (K : PySem.W.Frag) (w : World) : List V → Hp → VK → Prop := fun vs H Q => ∃ (a : Addr) (ns : List Int), vs = [V.ref a] ∧ SqL K H a (ns.map V.int) ∧ ns.length < 64 ∧ ∀ (p : Addr) (k : Nat), k ≤ ns.length → H p = none → Q (.ref p) (L2.upd H p (SetO w p (fun j => decide (j ∈ ns)) k))
theorem cr_setL (hc : X.calm = true) : CallR X (.type "set") (rSetL X.K X.w) := by
  intro pins s σ H vs us Q I r h
  obtain ⟨a, ns, rfl, ha, hl, q⟩ := h
  rw [Vals.ref1 r]
  obtain ⟨its, rv, ht, hz⟩ := I.list ha
  refine set_of_list (items := its.toArray) ns (I.ok.hd hc) ht.isList (by simpa using intsAre_of rv) (by unfold scanBound; omega) fun h' tk k hS hk kp => ?_
  exact ⟨.ref _, _, I.laid (t' := tk) (o := SetO X.w s.heap.objs.size (fun j => decide (j ∈ ns)) k) kp (Nat.le_refl _) (setO_new hS), rfl, q _ k hk (I.hok.fresh (Nat.le_refl _))⟩
theorem do_sortSet (hc : X.calm = true) (hg : Gl X "sorted") (hm : X.mg "sorted" = none) (hg' : Gl X "set") (hm' : X.mg "set" = none) (ha : DE X c e m)
    (h1 : starEach [.Call (.Name "set" p2) [e] [] pos2] X.env = (false, eval (.Call (.Name "set" p2) [e] [] pos2) X.env) :: starEach [] X.env := by rfl)
    (h2 : starEach [e] X.env = (false, eval e X.env) :: starEach [] X.env := by rfl) : DO X c (.Call (.Name "sorted" p) [.Call (.Name "set" p2) [e] [] pos2] [] pos) (lift1 oSortSet m) :=
  pe_imp (pe_callB (cr_sortedSet hc) hg hm (by decide +kernel) (pa_cons (pe_callTy (cr_setL hc) hg' hm' (by decide +kernel) (pa_cons ha pa_nil h2) (by decide) (by decide) h2) pa_nil h1) (by decide) (by decide) h1) fun σ H Q ⟨F, ρ, r, o⟩ => ⟨F, ρ, r, Out.mono (Out.bind o) (fun d ρ1 q v H1 F1 g1 d1 => by
    obtain ⟨w, e, q⟩ := Out.of q
    cases d with
    | list xs =>
      have e' : (match intsD xs with
        | some ns => if ns.length < 64 then some (C.l ((sortU ns).map .int)) else none
        | none => none) = some w := e
      cases hi : intsD xs with
      | none => rw [hi] at e'; cases e'
      | some ns =>
        rw [hi] at e'
        have e2 : (if ns.length < 64 then some (C.l ((sortU ns).map .int)) else none) = some w := e'
        by_cases hl : ns.length < 64
        · rw [if_pos hl] at e2
          cases e2
          cases d1 with
          | lst hs ha =>
            rw [intsD_of ha hi] at hs
            refine ⟨_, ns, rfl, rd_seq g1.rp.sub hs, hl, fun p k hk hp => ⟨p, _, k, rfl, upd_same, by omega, fun ns' t hlt hmem _ ht => ?_⟩⟩
            have en : ns' = sortU ns := lt_unique hlt (sortU_lt ns) fun z => by rw [hmem z, sortU_mem]; simp
            subst en
            have g2 := g1.trans (Go.temp g1.rp hp (SetO X.w p (fun j => decide (j ∈ ns)) k))
            have g3 := g2.trans (Go.temp g2.rp ht (.lst ((sortU ns).map V.int)))
            exact q _ _ F1 g3 ⟨t, _, rfl, .inl (g2.back ht), g2.rp.free ht, upd_same, dpa_ints _, no_own g2.rp ht⟩
        · rw [if_neg hl] at e2; cases e2
    | _ => cases e) fun e ρ1 q => q⟩
theorem do_sortI (hg : Gl X "sorted") (hm : X.mg "sorted" = none) (ha : DE X c e m) (hc : CallR X (.builtin "sorted") (rSortedI X.K))
    (h1 : starEach [e] X.env = (false, eval e X.env) :: starEach [] X.env := by rfl) : DO X c (.Call (.Name "sorted" p) [e] [] pos) (lift1 oSortI m) :=
  pe_imp (pe_callB hc hg hm (by decide +kernel) (pa_cons ha pa_nil h1) (by decide) (by decide) h1) fun σ H Q ⟨F, ρ, r, o⟩ => ⟨F, ρ, r, Out.mono (Out.bind o) (fun d ρ1 q v H1 F1 g1 d1 => by
    obtain ⟨w, e, q⟩ := Out.of q
    cases d with
    | list xs =>
      have e' : (match intsD xs with
        | some ns => some (C.l ((sortS ns).map .int))
        | none => none) = some w := e
      cases hi : intsD xs with
      | none => rw [hi] at e'; cases e'
      | some ns =>
        rw [hi] at e'
        cases e'
        cases d1 with
        | lst hs ha =>
          rw [intsD_of ha hi] at hs
          refine ⟨_, ns, rfl, rd_seq g1.rp.sub hs, fun ns' t hp hle ht => ?_⟩
          have en : ns' = sortS ns := le_unique hle (sortS_le ns) (hp.trans (sortS_perm ns).symm)
          subst en
          exact q _ _ F1 (g1.trans (Go.temp g1.rp ht _)) ⟨t, _, rfl, .inl (g1.back ht), g1.rp.free ht, upd_same, dpa_ints _, no_own g1.rp ht⟩
    | _ => cases e) fun e ρ1 q => q⟩
/-- the keys of a dict, told by a list of them -/
theorem put_keys {κ : Type} [DecidableEq κ] (kvs : List (κ × V)) (k : κ) (v : V) : (∀ j, j ∈ (putK kvs k v).map (·.1) ↔ j = k ∨ j ∈ kvs.map (·.1)) ∧ ((kvs.map (·.1)).Nodup → ((putK kvs k v).map (·.1)).Nodup) ∧ (putK kvs k v).length ≤ kvs.length + 1 := by
  refine ⟨fun j => ?_, fun h => ?_, length_putK kvs k v⟩
  · unfold putK
    split
    · rename_i c
      obtain ⟨q, hq, e⟩ := List.any_eq_true.mp c
      have e := of_decide_eq_true e
      have : (kvs.map fun kv => if kv.1 = k then (kv.1, v) else kv).map (·.1) = kvs.map (·.1) := by
        rw [List.map_map]
        refine List.map_congr_left fun z _ => ?_
        show (if z.1 = k then (z.1, v) else z).1 = z.1
        split <;> rfl
      rw [this]
      constructor
      · exact .inr
      · rintro (h | h)
        · rw [h, ← e]; exact List.mem_map_of_mem hq
        · exact h
    · simp [or_comm]
  · unfold putK
    split
    · have : (kvs.map fun kv => if kv.1 = k then (kv.1, v) else kv).map (·.1) = kvs.map (·.1) := by
        rw [List.map_map]
        refine List.map_congr_left fun z _ => ?_
        show (if z.1 = k then (z.1, v) else z).1 = z.1
        split <;> rfl
      rw [this]; exact h
    · rename_i c
      rw [List.map_append, List.nodup_append]
      refine ⟨h, by simp, fun a ha b hb => ?_⟩
      have : b = k := by simpa using hb
      subst this
      intro e
      subst e
      obtain ⟨q, hq, e⟩ := List.mem_map.mp ha
      exact c (List.any_eq_true.mpr ⟨q, hq, decide_eq_true e⟩)
theorem merge_keys : ∀ (more kvs : List (L2.Key × V)), (∀ j, j ∈ (mergeK kvs more).map (·.1) ↔ j ∈ kvs.map (·.1) ∨ j ∈ more.map (·.1)) ∧ ((kvs.map (·.1)).Nodup → ((mergeK kvs more).map (·.1)).Nodup) ∧ (mergeK kvs more).length ≤ kvs.length + more.length
  | [], kvs => ⟨fun j => by simp [mergeK], fun h => h, Nat.le_refl _⟩
  | q :: r, kvs => by
    have hp := put_keys kvs q.1 q.2
    obtain ⟨h1, h2, h3⟩ := merge_keys r (putK kvs q.1 q.2)
    refine ⟨fun j => ?_, fun h => h2 (hp.2.1 h), ?_⟩
    · show j ∈ (mergeK (putK kvs q.1 q.2) r).map (·.1) ↔ _
      rw [h1 j, hp.1 j, List.map_cons, List.mem_cons]
      constructor
      · rintro ((h | h) | h)
        · exact .inr (.inl h)
        · exact .inl h
        · exact .inr (.inr h)
      · rintro (h | h | h)
        · exact .inl (.inr h)
        · exact .inl (.inl h)
        · exact .inr h
    · show (mergeK (putK kvs q.1 q.2) r).length ≤ _
      have := hp.2.2
      rw [List.length_cons]
      omega
theorem inl_all : ∀ {ks : List L2.Key}, (∀ k ∈ ks, ∃ i : Int, k = Sum.inl i) → ∃ ns : List Int, ks = ns.map Sum.inl
  | [], _ => ⟨[], rfl⟩
  | k :: r, h => by
    obtain ⟨i, rfl⟩ := h k List.mem_cons_self
    obtain ⟨ns, rfl⟩ := inl_all fun j hj => h j (List.mem_cons_of_mem _ hj)
    exact ⟨i :: ns, rfl⟩
/-- pairs of a whole number and data, in the heap -/
theorem keysD_of {K : Kx} {F : Hp} : ∀ {vs : List V} {ds : List PyData} {ns : List Int}, DpAll K F vs ds → keysD ds = some ns → ∃ (ps : List Addr) (kvs : List (L2.Key × V)), vs = ps.map V.ref ∧ Paired (fun p kv => SqT K F p [kV kv.1, kv.2]) ps kvs ∧ kvs.map (·.1) = ns.map Sum.inl
  | _, _, ns, .nil, h => by cases h; exact ⟨[], [], rfl, .nil, rfl⟩
  | v :: vs, d :: ds, ns, .cons hd ht, h => by
    cases d with
    | tuple xs =>
      match xs, hd, h with
      | [.int k, y], hd, h =>
        have h' : (keysD ds).map (fun t => k :: t) = some ns := h
        cases e : keysD ds with
        | none => rw [e] at h'; cases h'
        | some t =>
          rw [e] at h'
          cases h'
          obtain ⟨ps, kvs, rfl, h2, h3⟩ := keysD_of ht e
          cases hd with
          | tup hs ha =>
            cases ha with
            | cons a1 a2 =>
              cases a1
              cases a2 with
              | cons a3 a4 =>
                cases a4
                rename_i ad vy
                exact ⟨ad :: ps, (Sum.inl k, vy) :: kvs, rfl, .cons hs h2, by rw [List.map_cons, List.map_cons, h3]⟩
    | _ => cases h
theorem do_sortDict (hc : X.calm = true) (hg : Gl X "sorted") (hm : X.mg "sorted" = none) (hg' : Gl X "dict") (hm' : X.mg "dict" = none) (ha : DE X c e m)
    (h1 : starEach [.Call (.Name "dict" p2) [e] [] pos2] X.env = (false, eval (.Call (.Name "dict" p2) [e] [] pos2) X.env) :: starEach [] X.env := by rfl)
    (h2 : starEach [e] X.env = (false, eval e X.env) :: starEach [] X.env := by rfl) : DO X c (.Call (.Name "sorted" p) [.Call (.Name "dict" p2) [e] [] pos2] [] pos) (lift1 oSortDict m) :=
  pe_imp (pe_callB (call_sortedDI hc) hg hm (by decide +kernel) (pa_cons (pe_callTy (call_dictP hc) hg' hm' (by decide +kernel) (pa_cons ha pa_nil h2) (by decide) (by decide) h2) pa_nil h1) (by decide) (by decide) h1) fun σ H Q ⟨F, ρ, r, o⟩ => ⟨F, ρ, r, Out.mono (Out.bind o) (fun d ρ1 q v H1 F1 g1 d1 => by
    obtain ⟨w, e, q⟩ := Out.of q
    cases d with
    | list xs =>
      have e' : (match keysD xs with
        | some ns => if ns.length < 64 then some (C.l ((sortU ns).map .int)) else none
        | none => none) = some w := e
      cases hi : keysD xs with
      | none => rw [hi] at e'; cases e'
      | some ns =>
        rw [hi] at e'
        have e2 : (if ns.length < 64 then some (C.l ((sortU ns).map .int)) else none) = some w := e'
        by_cases hl : ns.length < 64
        · rw [if_pos hl] at e2
          cases e2
          cases d1 with
          | lst hs ha =>
            obtain ⟨ps, kvs, ev, hpr, hk⟩ := keysD_of ha hi
            rw [ev] at hs
            obtain ⟨k1, k2, k3⟩ := merge_keys kvs []
            obtain ⟨ks, hks⟩ := inl_all (ks := (mergeK [] kvs).map (·.1)) fun j hj => by
              rcases (k1 j).mp hj with h | h
              · cases h
              · rw [hk] at h
                obtain ⟨i, _, e⟩ := List.mem_map.mp h
                exact ⟨i, e.symm⟩
            have hkl : ks.length ≤ ns.length := by
              have a1 : ((mergeK [] kvs).map (·.1)).length = ks.length := by rw [hks, List.length_map]
              have a2 : (kvs.map (·.1)).length = ns.length := by rw [hk, List.length_map]
              rw [List.length_map] at a1 a2
              rw [List.length_nil] at k3
              omega
            have nd : ks.Nodup := by
              have := k2 List.nodup_nil
              rw [hks] at this
              exact List.Pairwise.of_map Sum.inl (fun a b h e => h (congrArg Sum.inl e)) this
            have km : ∀ z, z ∈ ks ↔ z ∈ ns := fun z => by
              have a := k1 (Sum.inl z)
              rw [hks, hk] at a
              have inj : ∀ l : List Int, (Sum.inl z : L2.Key) ∈ l.map Sum.inl ↔ z ∈ l := fun l => by
                constructor
                · intro h
                  obtain ⟨i, hi, e⟩ := List.mem_map.mp h
                  cases e; exact hi
                · intro h; exact List.mem_map_of_mem h
              rw [inj, inj] at a
              rw [a]
              constructor
              · rintro (h | h)
                · cases h
                · exact h
              · exact .inr
            refine ⟨_, ps, kvs, rfl, rd_seq g1.rp.sub hs, Paired.mapP hpr fun _ _ z => sqT_mono g1.rp.sub z, fun p hp => ⟨p, mergeK [] kvs, ks, rfl, .inl upd_same, hks, by omega, fun ys t hpm hle ht => ?_⟩⟩
            have en : ys = sortU ns := by
              refine lt_unique ?_ (sortU_lt ns) fun z => by rw [hpm.mem_iff, km, sortU_mem]
              have hn : ys.Nodup := hpm.nodup_iff.mpr nd
              exact (hle.and hn).imp fun h => by omega
            subst en
            have g2 := g1.trans (Go.temp g1.rp hp (HO.dK (mergeK [] kvs)))
            have g3 := g2.trans (Go.temp g2.rp ht (.lst ((sortU ns).map V.int)))
            exact q _ _ F1 g3 ⟨t, _, rfl, .inl (g2.back ht), g2.rp.free ht, upd_same, dpa_ints _, no_own g2.rp ht⟩
        · rw [if_neg hl] at e2; cases e2
    | _ => cases e) fun e ρ1 q => q⟩
end
end DL

set_option Elab.async false
set_option linter.all false
set_option maxRecDepth 100000
namespace DL
open PySem PySem.Spec L2
/-! ## pop, three comparisons in a row, sum and max of a list, sorted of a tuple -/
def mPop (i : Nat) : M PyData := fun ρ => match lsAt i ρ with
  | some xs => (match xs[xs.length - 1]? with
    | some y => .ok y (ρ.set i (some (.l xs.dropLast)))
    | none => .stuck)
  | none => .stuck
def tChain3 (f g h : PyData → PyData → Option Bool) (a b c d : M PyData) : M Bool := M.bind a fun x => M.bind b fun y => M.bind (M.of (f x y)) fun k => if k = true then M.bind c fun z => M.bind (M.of (g y z)) fun k' => if k' = true then M.bind d fun u => M.of (h z u) else M.pure false else M.pure false
def oSum : PyData → Option PyData
  | .list xs => (match intsD xs with
    | some ns => some (.int ns.sum)
    | none => none)
  | _ => none
def maxI : Int → List Int → Int
  | x, [] => x
  | x, y :: r => maxI (if x < y then y else x) r
def oMaxL : PyData → Option PyData
  | .list xs => (match intsD xs with
    | some (n :: r) => some (.int (maxI n r))
    | _ => none)
  | _ => none
def oSortT : PyData → Option C
  | .tuple xs => (match intsD xs with
    | some ns => some (.l ((sortS ns).map .int))
    | none => none)
  | _ => none
/-! ## dicts -/
/-- a table of the module -/
def tabV (kvs : List (Str × PyData)) (z : Str) : Option PyData := (kvs.find? fun kv => decide (kv.1 = z)).map (·.2)
def oTab (kvs : List (Str × PyData)) : PyData → Option PyData
  | .str z => tabV kvs z
  | _ => none
def oInTab (kvs : List (Str × PyData)) : PyData → Option Bool
  | .str z => some (tabV kvs z).isSome
  | _ => none
def oNotInTab (kvs : List (Str × PyData)) : PyData → Option Bool
  | .str z => some (!(tabV kvs z).isSome)
  | _ => none
def kD : PyData → Option Key
  | .int i => some (.inl i)
  | .str z => some (.inr z)
  | _ => none
section
variable {κ : Type} [DecidableEq κ]
def valD (kvs : List (κ × PyData)) (k : κ) : Option PyData := (kvs.find? fun kv => decide (kv.1 = k)).map (·.2)
def putD (kvs : List (κ × PyData)) (k : κ) (v : PyData) : List (κ × PyData) :=
  if (kvs.any fun kv => decide (kv.1 = k)) = true then kvs.map (fun kv => if kv.1 = k then (kv.1, v) else kv) else kvs ++ [(k, v)]
def mergeD (kvs more : List (κ × PyData)) : List (κ × PyData) := more.foldl (fun acc kv => putD acc kv.1 kv.2) kvs
end
def dkAt (i : Nat) (ρ : Sl) : Option (List (Key × PyData)) := match ρ[i]? with
  | some (some (.k kvs)) => some kvs
  | _ => none
/-- what the slot's own dict holds at a key -/
def mDIx (i : Nat) (m : M PyData) : M PyData := fun ρ => if (dkAt i ρ).isSome = true then (M.bind m fun y => fun ρ' => match dkAt i ρ', kD y with
  | some kvs, some k => M.of (valD kvs k) ρ'
  | _, _ => .stuck) ρ else .stuck
def tDIn (b : Bool) (i : Nat) (m : M PyData) : M Bool := M.bind m fun y => fun ρ => match dkAt i ρ, kD y with
  | some kvs, some k => .ok ((valD kvs k).isSome == b) ρ
  | _, _ => .stuck
def sDPut (i : Nat) (mk mv : M PyData) : M Fl := M.bind mv fun v => fun ρ => if (dkAt i ρ).isSome = true then (M.bind mk fun y => fun ρ' => match dkAt i ρ', kD y with
  | some kvs, some k => if kvs.length < sizeLine then .ok .nx (ρ'.set i (some (.k (putD kvs k v)))) else .stuck
  | _, _ => .stuck) ρ else .stuck
/-- a display -/
def mPrs : List (M PyData × M PyData) → M (List (PyData × PyData))
  | [] => M.pure []
  | (a, b) :: r => M.bind a fun x => M.bind b fun y => M.bind (mPrs r) fun ps => M.pure ((x, y) :: ps)
def kPrs : List (PyData × PyData) → Option (List (Key × PyData))
  | [] => some []
  | (x, y) :: r => match kD x, kPrs r with
    | some k, some ps => some ((k, y) :: ps)
    | _, _ => none
def mDisp (ps : List (M PyData × M PyData)) : M C := M.bind (mPrs ps) fun l => match kPrs l with
  | some kvs => M.pure (.k (mergeD [] kvs))
  | none => M.stuck
/-- a new dict's value at a key -/
def mDIxN (m : M C) (i : M PyData) : M PyData := M.bind m fun c => M.bind i fun y => match c, kD y with
  | .k kvs, some k => M.of (valD kvs k)
  | _, _ => M.stuck
/-- dict(pairs) -/
def prsD : List PyData → Option (List (Key × PyData))
  | [] => some []
  | .tuple [x, y] :: r => (match kD x, prsD r with
    | some k, some ps => some ((k, y) :: ps)
    | _, _ => none)
  | _ => none
def oDictP : PyData → Option C
  | .list xs => (match prsD xs with
    | some kvs => if kvs.length ≤ sizeLine then some (.k (mergeD [] kvs)) else none
    | none => none)
  | _ => none
/-- a list taken apart -/
def gTL (gs : List (PyData → M Unit)) (x : PyData) : M Unit := match x with
  | .list xs => if xs.length = gs.length then gsL gs xs else M.stuck
  | _ => M.stuck
end DL

set_option Elab.async false
set_option linter.all false
set_option maxRecDepth 100000
set_option maxHeartbeats 2000000
namespace DL
open PySem PySem.Spec PyProof.Rows L2
/-! ### xs.pop() -/
section
variable {X : Cx} {c : Ct} {a b d e : Expr} {i : Nat} {m : M PyData} {pos p p1 p2 : Pos}
theorem de_pop (ho : PE X a (L2.tVar i)) (hbase : attributeBase a "pop" X.env (eval a X.env) = eval a X.env := by rfl) (hline : (p1.endLine == p2.line) = true := by rfl) : DE X c (.Call (.Attribute a "pop" p1) [] [] p2) (mPop i) :=
  pe_imp (pe_bm0 PySem.F.plainAttrs_list PySem.F.slot_list_pop PySem.F.type_list_pop mt_pop ho hbase hline) fun σ H Q ⟨F, ρ, r, h⟩ => by
    have h' : Out (match lsAt i ρ with
      | some xs => (match xs[xs.length - 1]? with
        | some y => .ok y (ρ.set i (some (.l xs.dropLast)))
        | none => .stuck)
      | none => .stuck : Res PyData) (fun a ρ' => ∀ v H' F', Go X.kx c.P ρ σ H F ρ' σ H' F' → RD X.kx (Fr ρ σ H) ρ' σ H' F' a v → Q v H') (fun e ρ' => ∀ cv dd H' F', Go X.kx c.P ρ σ H F ρ' σ H' F' → c.ER e cv dd H' → c.W cv dd σ H') := h
    cases hl : lsAt i ρ with
    | none => rw [hl] at h'; exact h'.elim
    | some xs =>
      rw [hl] at h'
      have h2 : Out (match xs[xs.length - 1]? with
        | some y => .ok y (ρ.set i (some (.l xs.dropLast)))
        | none => .stuck : Res PyData) (fun a ρ' => ∀ v H' F', Go X.kx c.P ρ σ H F ρ' σ H' F' → RD X.kx (Fr ρ σ H) ρ' σ H' F' a v → Q v H') (fun e ρ' => ∀ cv dd H' F', Go X.kx c.P ρ σ H F ρ' σ H' F' → c.ER e cv dd H' → c.W cv dd σ H') := h'
      cases hy : xs[xs.length - 1]? with
      | none => rw [hy] at h2; exact h2.elim
      | some y =>
        rw [hy] at h2
        obtain ⟨ad, vs, z, k1, k2, k3⟩ := lsAt_own r hl
        obtain ⟨v, v1, v2⟩ := dpa_at k3 hy
        rw [← dpa_len k3] at v1
        exact ⟨.ref ad, k1, .inl ⟨rfl, vs, .of k2⟩, ad, vs, v, rfl, rfl, k2, v1, h2 v _ _ (Go.upd r z rfl rfl k1 (dpa_dropLast k3)) v2⟩
/-! ### three comparisons in a row, as a value -/
def tC3 (r r' r2 : R2) (ta tb tc td : TE) : TE := fun σ H Q => ta σ H fun x H1 => tb σ H1 fun y H2 => r x y H2 fun z H3 => ∃ k, z = .bl k ∧
  (if k = true then tc σ H3 fun w' H4 => r' y w' H4 fun z' H5 => ∃ k', z' = .bl k' ∧ (if k' = true then td σ H5 fun u' H6 => r2 w' u' H6 Q else Q (.bl false) H5) else Q (.bl false) H3)
theorem pe_chain3 {g : Expr} {op op' op2 : CmpOp} {r r' r2 : R2} {ta tb tc td : TE} (ho : OpR X (compareOp op) r) (ho' : OpR X (compareOp op') r') (ho2 : OpR X (compareOp op2) r2) (ha : PE X a ta) (hb : PE X b tb) (hc : PE X d tc) (hd : PE X g td)
    (hm : lastMarks [op, op', op2] [b, d, g] = false) : PE X (.Compare a [op, op', op2] [b, d, g] pos) (tC3 r r' r2 ta tb tc td) := by
  refine ⟨fun pins s σ H Q I h => ?_⟩
  refine Compare_chain (thn (ha.run pins s σ H _ I h) fun v s1 ⟨x, H1, I1, r1, q1⟩ => chain_link (thn (hb.run pins s1 σ H1 _ I1 q1) fun u s2 ⟨y, H2, I2, r2', q2⟩ =>
    thn (ho pins s2 σ H2 x y v u _ I2 r1 r2' q2) fun d s3 ⟨z, H3, I3, r3, k, e, q3⟩ => ?_)) hm
  subst e
  cases r3
  refine wpAny_truthy_bool ?_
  cases k with
  | false => exact ite_ff ⟨.bl false, H3, I3, rfl, q3⟩
  | true =>
    refine ite_tt (chain_link (thn (hc.run pins s3 σ H3 _ I3 q3) fun w' s4 ⟨z', H4, I4, r4, q4⟩ => thn (ho' pins s4 σ H4 y z' u w' _ I4 r2' r4 q4) fun d' s5 ⟨z2, H5, I5, r5, k2, e2, q5⟩ => ?_))
    subst e2
    cases r5
    refine wpAny_truthy_bool ?_
    cases k2 with
    | false => exact ite_ff ⟨.bl false, H5, I5, rfl, q5⟩
    | true => exact ite_tt (chain_last (thn (hd.run pins s5 σ H5 _ I5 q5) fun w2 s6 ⟨z3, H6, I6, r6, q6⟩ => ho2 pins s6 σ H6 z' z3 w' w2 Q I6 r4 r6 q6))
theorem de_chain3 {g : Expr} {m1 m2 m3 m4 : M PyData} {op op' op2 : CmpOp} {f f' f2 : PyData → PyData → Option Bool} (h : Cm X c op f) (h' : Cm X c op' f') (h2 : Cm X c op2 f2) (ha : DE X c a m1) (hb : DE X c b m2) (hd : DE X c d m3) (hg : DE X c g m4) (hm : lastMarks [op, op', op2] [b, d, g] = false) :
    DE X c (.Compare a [op, op', op2] [b, d, g] pos) (bD (tChain3 f f' f2 m1 m2 m3 m4)) := by
  obtain ⟨r, h1, h2a⟩ := h.ex
  obtain ⟨r', h1', h2b⟩ := h'.ex
  obtain ⟨r2, h12, h2c⟩ := h2.ex
  refine pe_imp (pe_chain3 h1 h1' h12 ha hb hd hg hm) fun σ H Q ⟨F, ρ, r, h⟩ => ⟨F, ρ, r, Out.mono (Out.bind (Out.bind h)) (fun x ρ1 q1 v H1 F1 g1 d1 => ⟨F1, ρ1, g1.rp, Out.mono (Out.bind q1) (fun y ρ2 q2 u H2 F2 g2 d2 => ?_) fun e ρ2 q cv dd H2 F2 g2 er => q cv dd H2 F2 (g1.trans g2) er⟩) fun e ρ1 q => q⟩
  obtain ⟨k, e, q3⟩ := Out.of (Out.bind q2)
  refine h2a g2.rp (dp_mono g2.fr d1) d2 e fun H3 F3 g3 => ⟨k, rfl, ?_⟩
  cases k with
  | false =>
    rw [if_neg Bool.false_ne_true] at q3 ⊢
    exact q3 _ H3 F3 ((g1.trans g2).trans g3) (.bl false)
  | true =>
    rw [if_pos rfl] at q3 ⊢
    refine ⟨F3, ρ2, g3.rp, Out.mono (Out.bind q3) (fun z ρ3 q4 w H4 F4 g4 d4 => ?_) fun e ρ2 q cv dd H2 F2 g4 er => q cv dd H2 F2 (((g1.trans g2).trans g3).trans g4) er⟩
    obtain ⟨k2, e2, q5⟩ := Out.of (Out.bind q4)
    refine h2b g4.rp (dp_mono (g3.fr.trans g4.fr) d2) d4 e2 fun H5 F5 g5 => ⟨k2, rfl, ?_⟩
    cases k2 with
    | false =>
      rw [if_neg Bool.false_ne_true] at q5 ⊢
      exact q5 _ H5 F5 ((((g1.trans g2).trans g3).trans g4).trans g5) (.bl false)
    | true =>
      rw [if_pos rfl] at q5 ⊢
      refine ⟨F5, ρ3, g5.rp, Out.mono (Out.bind q5) (fun y4 ρ4 q6 w4 H6 F6 g6 d6 => ?_) fun e ρ4 q cv dd H6 F6 g6 er => q cv dd H6 F6 (((((g1.trans g2).trans g3).trans g4).trans g5).trans g6) er⟩
      obtain ⟨k4, e4, q7⟩ := Out.of q6
      exact h2c g6.rp (dp_mono (g5.fr.trans g6.fr) d4) d6 e4 fun H7 F7 g7 => q7 _ H7 F7 ((((((g1.trans g2).trans g3).trans g4).trans g5).trans g6).trans g7) (.bl k4)
/-! ### sum, max of a list; sorted of a tuple -/
theorem bi_sum (hc : X.calm = true) (hg : Gl X "sum") (hm : X.mg "sum" = none) (ha : DE X c e m) (h1 : starEach [e] X.env = (false, eval e X.env) :: starEach [] X.env := by rfl) : DE X c (.Call (.Name "sum" p) [e] [] pos) (lift1 oSum m) :=
  pe_imp (pe_callB (cr_sum hc) hg hm (by decide +kernel) (pa_cons ha pa_nil h1) (by decide) (by decide) h1) fun σ H Q ⟨F, ρ, r, o⟩ => ⟨F, ρ, r, Out.mono (Out.bind o) (fun d ρ1 q v H1 F1 g1 d1 => by
    obtain ⟨w, e, q⟩ := Out.of q
    cases d with
    | list xs =>
      have e' : (match intsD xs with
        | some ns => some (PyData.int ns.sum)
        | none => none) = some w := e
      cases hi : intsD xs with
      | none => rw [hi] at e'; cases e'
      | some ns =>
        rw [hi] at e'
        cases e'
        cases d1 with
        | lst hs ha =>
          rw [intsD_of ha hi] at hs
          exact ⟨_, ns, rfl, rd_seq g1.rp.sub hs, q _ _ F1 g1 (.int _)⟩
    | _ => cases e) fun e ρ1 q => q⟩
theorem maxI_mem : ∀ (x : Int) (r : List Int), maxI x r ∈ x :: r ∧ ∀ y ∈ x :: r, y ≤ maxI x r
  | x, [] => ⟨List.mem_cons_self, fun y h => by rw [List.mem_singleton.mp h]; exact Int.le_refl _⟩
  | x, y :: r => by
    obtain ⟨h1, h2⟩ := maxI_mem (if x < y then y else x) r
    constructor
    · show maxI (if x < y then y else x) r ∈ x :: y :: r
      rcases List.mem_cons.mp h1 with h | h
      · rw [h]; split <;> simp
      · simp [h]
    · intro z hz
      show z ≤ maxI (if x < y then y else x) r
      have b := h2 _ List.mem_cons_self
      have b2 := fun h => h2 z (List.mem_cons_of_mem _ h)
      generalize maxI (if x < y then y else x) r = Mx at *
      rcases List.mem_cons.mp hz with h | h
      · rw [h]; split at b <;> omega
      · rcases List.mem_cons.mp h with h | h
        · rw [h]; split at b <;> omega
        · exact b2 h
theorem bi_maxL (hc : X.calm = true) (hg : Gl X "max") (hm : X.mg "max" = none) (ha : DE X c e m) (h1 : starEach [e] X.env = (false, eval e X.env) :: starEach [] X.env := by rfl) : DE X c (.Call (.Name "max" p) [e] [] pos) (lift1 oMaxL m) :=
  pe_imp (pe_callB (cr_max hc) hg hm (by decide +kernel) (pa_cons ha pa_nil h1) (by decide) (by decide) h1) fun σ H Q ⟨F, ρ, r, o⟩ => ⟨F, ρ, r, Out.mono (Out.bind o) (fun d ρ1 q v H1 F1 g1 d1 => by
    obtain ⟨w, e, q⟩ := Out.of q
    cases d with
    | list xs =>
      have e' : (match intsD xs with
        | some (n :: r) => some (PyData.int (maxI n r))
        | _ => none) = some w := e
      cases hi : intsD xs with
      | none => rw [hi] at e'; cases e'
      | some ns =>
        rw [hi] at e'
        cases ns with
        | nil => cases e'
        | cons n r =>
          cases e'
          cases d1 with
          | lst hs ha =>
            rw [intsD_of ha hi] at hs
            obtain ⟨k1, k2⟩ := maxI_mem n r
            refine ⟨_, n :: r, rfl, rd_seq g1.rp.sub hs, Nat.succ_pos _, fun mx h1 h2 => ?_⟩
            have : mx = maxI n r := Int.le_antisymm (k2 _ h1) (h2 _ k1)
            rw [this]
            exact q _ _ F1 g1 (.int _)
    | _ => cases e) fun e ρ1 q => q⟩
end
section
variable {prog : Program} {w : World} {A : Around} {E : Value → Shared → Prop} {s : Shared}
theorem collect_tup {l : Addr} {o : Obj} {n : Nat} {vs : List Value} {Q : List Value → Shared → Prop} (ho : s.heap.get? l = some o) (hc : o.cls = .type "tuple") (hd : o.data = .seq vs.toArray n)
    (h : Q vs { s with heap := (s.heap.push (seqObj "list" #[] 0)).update s.heap.objs.size (Obj.mapSeq (· ++ vs.toArray)) }) (hsz : vs.length ≤ sizeLine) :
    wpAny (model prog w) A (collect (.ref l)) Q E s := by
  unfold collect
  refine wpAny_bind (wpAny_runValue (codeAny_builtin entry_proto_collect' ?_))
  show wpAny _ _ (do again (.builtin "list.__iadd__" ⟨[← newList [], .ref l], []⟩)) _ _ s
  refine wpAny_bind (wpAny_newList (wpAny_pure ⟨Code.quiet_builtin _ (by decide +kernel), codeAny_builtin entry_list_iadd' ?_⟩))
  show wpAny _ _ (Builtin.List.listExtendWith (.ref s.heap.objs.size) (.ref l) (.ref s.heap.objs.size)) _ _ { s with heap := s.heap.push (seqObj "list" #[] 0) }
  unfold Builtin.List.listExtendWith
  have ho' : (s.heap.push (seqObj "list" #[] 0)).get? l = some o := Heap.get?_push_of_some _ ho
  refine wpAny_bind (wpAny_typeOf (T := "tuple") ⟨o, ho', hc⟩ ?_)
  have ht : (Value.type "tuple" == Value.type "tuple") = true := by rfl
  rw [if_pos (by rw [ht]; simp)]
  refine wpAny_bind (listItems_at ho' hd ?_)
  refine wpAny_bind (listItems_at (xs := #[]) (n := 0) (Heap.get?_push_size _ rfl) rfl ?_)
  rw [if_neg (by simp)]
  refine wpAny_bind (listUpdate_at (xs := #[]) (n := 0) (Heap.get?_push_size _ rfl) rfl ?_ (Nat.zero_le _) (by show (#[] ++ vs.toArray).size ≤ sizeLine + 1; simp only [Array.size_append, List.size_toArray, List.length_nil]; omega))
  refine wpAny_pure ?_
  show wpAny (model prog w) A (do
      let o ← load s.heap.objs.size
      match o.data with
      | .seq xs _ => pure xs.toList
      | _ => unsupported "internal:collect") Q E { s with heap := (s.heap.push (seqObj "list" #[] 0)).update s.heap.objs.size (Obj.mapSeq (· ++ vs.toArray)) }
  refine wpAny_bind (wpAny_load (get?_update_seq (Heap.get?_push_size _ rfl) _) ?_)
  show wpAny _ _ (pure ((#[] : Array Value) ++ vs.toArray).toList) Q E _
  rw [show ((#[] : Array Value) ++ vs.toArray).toList = vs by simp]
  exact wpAny_pure h
end
end DL

set_option Elab.async false
set_option linter.all false
set_option maxRecDepth 100000
set_option maxHeartbeats 2000000
namespace DL
open PySem PySem.Spec PyProof.Rows L2
section
variable {prog : Program} {w : World} {A : Around} {E : Value → Shared → Prop} {s : Shared}
theorem sorted_ordT {l : Addr} {o : Obj} {n : Nat} {vs : List Value} {ltv : Value → Value → Bool} {Q : Value → Shared → Prop} (O : SrtO.Swo ltv) (ho : s.heap.get? l = some o) (hc : o.cls = .type "tuple") (hd : o.data = .seq vs.toArray n) (hz : vs.length ≤ sizeLine)
    (hS : 2 ≤ vs.length → ∀ (h₁ : Heap) (a : Addr), h₁.get? a = some (seqObj "list" vs.toArray 0) → (∀ b o, s.heap.get? b = some o → b ≠ a ∧ h₁.get? b = some o) → SrtO.SortableO prog w A.in1.in1 { s with heap := h₁ } a vs ltv)
    (h : ∀ out : List Value, SrtO.Srtd ltv out → SrtO.Stb ltv out vs → Q (.ref (s.heap.objs.size + 1)) { s with heap := sortedAll s.heap vs out.toArray }) :
    wpAny (model prog w) A (call (.builtin "sorted") [.ref l]) Q E s := by
  refine Calls.call_function_entry kind_sorted plain_sorted entry_sorted (args_sorted1 _) ?_
  unfold Builtin.«sorted»
  refine wpAny_bind (m := checkCount "sorted" 1 1 _) (wpAny_pure ?_)
  refine wpAny_bind (collect_tup ho hc hd ?_ hz)
  refine wpAny_bind (wpAny_newList ?_ hz)
  have hsz : ((s.heap.push (seqObj "list" #[] 0)).update s.heap.objs.size (Obj.mapSeq (· ++ vs.toArray))).objs.size = s.heap.objs.size + 1 := by
    rw [Heap.size_update, size_push']
  have hoL : (((s.heap.push (seqObj "list" #[] 0)).update s.heap.objs.size (Obj.mapSeq (· ++ vs.toArray))).push (seqObj "list" vs.toArray 0)).get? (s.heap.objs.size + 1) = some (seqObj "list" vs.toArray 0) := by
    rw [← hsz]; exact Heap.get?_push_size _ rfl
  have keep : ∀ b o, s.heap.get? b = some o → b ≠ s.heap.objs.size + 1 ∧ (((s.heap.push (seqObj "list" #[] 0)).update s.heap.objs.size (Obj.mapSeq (· ++ vs.toArray))).push (seqObj "list" vs.toArray 0)).get? b = some o := fun b o q => by
    have hlt : b < s.heap.objs.size := Heap.lt_size q
    refine ⟨Nat.ne_of_lt (Nat.lt_succ_of_lt hlt), Heap.get?_push_of_some _ ?_⟩
    rw [Heap.get?_update_ne _ _ _ _ (Nat.ne_of_lt hlt)]
    exact Heap.get?_push_of_some _ q
  show wpAny _ _ _ _ _ { s with heap := ((s.heap.push (seqObj "list" #[] 0)).update s.heap.objs.size (Obj.mapSeq (· ++ vs.toArray))).push (seqObj "list" vs.toArray 0) }
  rw [hsz]
  refine wpAny_bind (wpAny_holding (wpAny_call_entry slot_list_sort ⟨_, hoL, rfl⟩ entry_list_sort (SrtO.list_sort_ord O hoL hz (fun h2 => hS h2 _ _ hoL keep) fun out hs hb => ⟨_, rfl, ?_⟩) (args_list_sort _)))
  exact wpAny_pure ⟨_, rfl, h out hs hb⟩
end
def rSortedT (K : PySem.W.Frag) : List V → Hp → VK → Prop := fun vs H Q => ∃ (a : Addr) (ns : List Int), vs = [V.ref a] ∧ SqT K H a (ns.map V.int) ∧
  ∀ (ns' : List Int) (p : Addr), ns'.Perm ns → ns'.Pairwise (· ≤ ·) → H p = none → Q (.ref p) (L2.upd H p (.lst (ns'.map V.int)))
section
variable {X : Cx} {c : Ct} {a b d e : Expr} {i : Nat} {m m' : M PyData} {pos p p1 p2 : Pos}
theorem cr_sortedTI : CallR X (.builtin "sorted") (rSortedT X.K) := by
  intro pins s σ H vs us Q I r h
  obtain ⟨a, ns, rfl, hs, q⟩ := h
  obtain ⟨its, rv, ⟨o, ho, hc, n, hd⟩, hz⟩ := I.tuple hs
  rw [Vals.ref1 r]
  have hi := rv.ints
  refine sorted_ordT SrtO.swo_int ho hc hd (by rw [← rv.length]; exact hz) (fun h2 h₁ a' _ _ => SrtO.ints_sortable hi h2) fun out h1 h2 => ?_
  obtain ⟨k1, k2, k3⟩ := SrtO.ints_out hi h1 h2
  obtain ⟨ep, he'⟩ := PyProof.Rows.sortedAll_at s.heap its out.toArray
  have hlen : ((out.map SrtO.iv).map V.int).length ≤ sizeLine := by
    rw [List.length_map, k2.length_eq]
    rw [List.length_map] at hz
    exact hz
  exact ⟨.ref _, L2.upd H (s.heap.objs.size + 1) (.lst ((out.map SrtO.iv).map V.int)), I.laid (t' := s.toks) (fun _ _ => PyProof.Rows.sortedAll_old) (Nat.le_succ _) ⟨hlen, out, ep, vals_of_ints k1, he'⟩, rfl, q _ _ k2 k3 (I.hok.fresh (Nat.le_succ _))⟩
theorem do_sortT (hg : Gl X "sorted") (hm : X.mg "sorted" = none) (ha : DE X c e m)
    (h1 : starEach [e] X.env = (false, eval e X.env) :: starEach [] X.env := by rfl) : DO X c (.Call (.Name "sorted" p) [e] [] pos) (lift1 oSortT m) :=
  pe_imp (pe_callB cr_sortedTI hg hm (by decide +kernel) (pa_cons ha pa_nil h1) (by decide) (by decide) h1) fun σ H Q ⟨F, ρ, r, o⟩ => ⟨F, ρ, r, Out.mono (Out.bind o) (fun d ρ1 q v H1 F1 g1 d1 => by
    obtain ⟨w, e, q⟩ := Out.of q
    cases d with
    | tuple xs =>
      have e' : (match intsD xs with
        | some ns => some (C.l ((sortS ns).map .int))
        | none => none) = some w := e
      cases hi : intsD xs with
      | none => rw [hi] at e'; cases e'
      | some ns =>
        rw [hi] at e'
        cases e'
        cases d1 with
        | tup hs ha =>
          rw [intsD_of ha hi] at hs
          refine ⟨_, ns, rfl, sqT_mono g1.rp.sub hs, fun ns' t hp hle ht => ?_⟩
          have en : ns' = sortS ns := le_unique hle (sortS_le ns) (hp.trans (sortS_perm ns).symm)
          subst en
          exact q _ _ F1 (g1.trans (Go.temp g1.rp ht _)) ⟨t, _, rfl, .inl (g1.back ht), g1.rp.free ht, upd_same, dpa_ints _, no_own g1.rp ht⟩
    | _ => cases e) fun e ρ1 q => q⟩
/-! ### a table of the module -/
def tabEs (K : PySem.W.Frag) : List DictEntry → List (Str × PyData) → Bool
  | [], [] => true
  | e :: es, q :: kvs => (match e.key with
    | .str z _ => decide (z = q.1)
    | _ => false) && (datB K 4 e.val q.2 && tabEs K es kvs)
  | _, _ => false
def tabB (K : PySem.W.Frag) (x : Str) (kvs : List (Str × PyData)) : Bool := match PySem.W.nsIn K mainGlobals x with
  | some (some (.ref a)) => (match K.lookup a with
    | some ⟨_, _, .dict es _, _⟩ => tabEs K es.toList kvs
    | _ => false)
  | _ => false
/-- the module's name x holds the table kvs -/
def TabK (K : Kx) (w : World) (x : Str) (kvs : List (Str × PyData)) : Prop := ∃ a es n, K.mg x = some (.ref a) ∧ KDict K.fr w a es n ∧
  ∀ z, (tabV kvs z = none ∧ PySem.W.nsIn K.fr a z = some none) ∨ ∃ d u v, tabV kvs z = some d ∧ PySem.W.nsIn K.fr a z = some (some u) ∧ RelV v u ∧ ∀ F, Dp K F v d
theorem tabEs_find {K : Kx} (z : Str) : ∀ {es : List DictEntry} {kvs : List (Str × PyData)}, tabEs K.fr es kvs = true → (tabV kvs z = none ∧ es.find? (·.key.isStr z) = none ∧ es.any (·.refKey) = false) ∨ ∃ d e v, tabV kvs z = some d ∧ es.find? (·.key.isStr z) = some e ∧ RelV v e.val ∧ ∀ F, Dp K F v d
  | [], [], _ => .inl ⟨rfl, rfl, rfl⟩
  | e :: es, q :: kvs, h => by
    unfold tabEs at h
    rw [Bool.and_eq_true, Bool.and_eq_true] at h
    obtain ⟨h1, h2, h3⟩ := h
    cases hk : e.key with
    | str y t =>
      rw [hk] at h1
      have h1 : y = q.1 := of_decide_eq_true h1
      have e1 : tabV (q :: kvs) z = if q.1 = z then some q.2 else tabV kvs z := by
        unfold tabV
        by_cases c : q.1 = z
        · rw [if_pos c, List.find?_cons_of_pos (by simpa using c)]; rfl
        · rw [if_neg c, List.find?_cons_of_neg (by simpa using c)]
      have e2 : (e :: es).find? (·.key.isStr z) = if q.1 = z then some e else es.find? (·.key.isStr z) := by
        by_cases c : q.1 = z
        · rw [if_pos c, List.find?_cons_of_pos (by show e.key.isStr z = true; rw [hk, h1, c]; simp [Value.isStr])]
        · rw [if_neg c, List.find?_cons_of_neg (by show ¬ e.key.isStr z = true; rw [hk, h1]; simp [Value.isStr, c])]
      rw [e1, e2]
      by_cases c : q.1 = z
      · rw [if_pos c, if_pos c]
        obtain ⟨v, h4, h5⟩ := datB_ok 4 _ _ h2
        exact .inr ⟨q.2, e, v, rfl, rfl, h4, h5⟩
      · rw [if_neg c, if_neg c]
        rcases tabEs_find z h3 with ⟨a1, a2, a3⟩ | h6
        · refine .inl ⟨a1, a2, ?_⟩
          rw [List.any_cons, a3, Bool.or_false]
          unfold DictEntry.refKey
          rw [hk]
        · exact .inr h6
    | _ => rw [hk] at h1; cases h1
  | [], _ :: _, h => by cases h
  | _ :: _, [], h => by cases h
theorem tabB_ok {K : Kx} {w : World} {h : Heap} {x : Str} {kvs : List (Str × PyData)} {a0 : Addr} {es : Array DictEntry} {n : Nat} (XI : K.fr.In h) (N : h.Ns mainGlobals K.mg) (c : tabB K.fr x kvs = true) (hm : K.mg x = some (.ref a0)) (D : KDict K.fr w a0 es n) : TabK K w x kvs := by
  unfold tabB at c
  cases e : PySem.W.nsIn K.fr mainGlobals x with
  | none => rw [e] at c; cases c
  | some o =>
    rw [e] at c
    cases o with
    | none => cases c
    | some u =>
      have hm' := PySem.W.mg_of XI N e
      rw [hm] at hm'
      cases hm'
      have c' : (match K.fr.lookup a0 with
        | some ⟨_, _, .dict es _, _⟩ => tabEs K.fr es.toList kvs
        | _ => false) = true := c
      rw [D.at_] at c'
      have c2 : tabEs K.fr es.toList kvs = true := c'
      refine ⟨a0, es, n, hm, D, fun z => ?_⟩
      have en : PySem.W.nsIn K.fr a0 z = (match es.toList.find? (·.key.isStr z) with
        | some e => some (some e.val)
        | none => if es.toList.any (·.refKey) then none else some none) := by
        unfold PySem.W.nsIn
        rw [D.at_]
        rfl
      rw [en]
      rcases tabEs_find z c2 with ⟨a1, a2, a3⟩ | ⟨d, e, v, a1, a2, a3, a4⟩
      · rw [a2]
        exact .inl ⟨a1, by simp [a3]⟩
      · rw [a2]
        exact .inr ⟨d, e.val, v, a1, rfl, a3, a4⟩
variable {x : Str} {kvs : List (Str × PyData)} {t2 : Pos}
theorem de_tab (hg : Gl X x) (hm : TabK X.kx X.w x kvs) (hb : DE X c b m) (hs : PlainIx b) (hd : (x == ("__debug__" : Str)) = false := by decide) : DE X c (.Subscript (.Name x p) b pos) (lift1 (oTab kvs) m) := by
  obtain ⟨ad, es, n, h1, D, h2⟩ := hm
  refine pe_imp (pe_ix ix_kdict (pe_glob (v := .ref ad) hg h1 rfl hd) hb hs) fun σ H Q ⟨F, ρ, r, o⟩ => ⟨F, ρ, r, Out.mono (Out.bind o) (fun y ρ1 q v H1 F1 g1 d1 => ?_) fun e ρ1 q => q⟩
  obtain ⟨w, e, q2⟩ := Out.of q
  cases y with
  | str z =>
    cases d1
    rcases h2 z with ⟨a1, _⟩ | ⟨d, u, v, a1, a2, a3, a4⟩
    · rw [show oTab kvs (.str z) = tabV kvs z from rfl, a1] at e; cases e
    · rw [show oTab kvs (.str z) = tabV kvs z from rfl, a1] at e
      cases e
      exact ⟨ad, z, v, rfl, rfl, ⟨es, n, u, D.at_, D.lit, a2, a3⟩, q2 v H1 F1 g1 (a4 F1)⟩
  | _ => cases e
theorem tab_in {K : Kx} {w : World} {a : Addr} {z : Str} (h : (tabV kvs z = none ∧ PySem.W.nsIn K.fr a z = some none) ∨ ∃ d u v, tabV kvs z = some d ∧ PySem.W.nsIn K.fr a z = some (some u) ∧ RelV v u ∧ ∀ F, Dp K F v d) : ∃ r, PySem.W.nsIn K.fr a z = some r ∧ r.isSome = (tabV kvs z).isSome := by
  rcases h with ⟨a1, a2⟩ | ⟨d, u, v, a1, a2, _⟩
  · exact ⟨none, a2, by rw [a1]; rfl⟩
  · exact ⟨some u, a2, by rw [a1]; rfl⟩
theorem dt_inTab (hg : Gl X x) (hm : TabK X.kx X.w x kvs) (ha : DE X c a m) (hd : (x == ("__debug__" : Str)) = false := by decide) (hb : behindInMarks .In (.Name x p) = false := by rfl) : DT X c (.Compare a [.In] [.Name x p] pos) (lift1 (oInTab kvs) m) := by
  obtain ⟨ad, es, n, h1, D, h2⟩ := hm
  refine pt_imp (pt_cmpR (op_in_kd D) ha (pe_glob (v := .ref ad) hg h1 rfl hd) hb) fun σ H Q ⟨F, ρ, r, o⟩ => ⟨F, ρ, r, Out.mono (Out.bind o) (fun y ρ1 q v H1 F1 g1 d1 => ?_) fun e ρ1 q => q⟩
  obtain ⟨k, e, q2⟩ := Out.of q
  cases y with
  | str z =>
    cases d1
    cases e
    obtain ⟨r, e1, e2⟩ := tab_in (w := X.w) (h2 z)
    exact ⟨z, r, rfl, rfl, e1, _, rfl, by rw [e2]; exact q2 _ H1 F1 g1 rfl⟩
  | _ => cases e
theorem dt_notInTab (hg : Gl X x) (hm : TabK X.kx X.w x kvs) (ha : DE X c a m) (hd : (x == ("__debug__" : Str)) = false := by decide) (hb : behindInMarks .NotIn (.Name x p) = false := by rfl) : DT X c (.Compare a [.NotIn] [.Name x p] pos) (lift1 (oNotInTab kvs) m) := by
  obtain ⟨ad, es, n, h1, D, h2⟩ := hm
  refine pt_imp (pt_cmpR (op_notIn_kd D) ha (pe_glob (v := .ref ad) hg h1 rfl hd) hb) fun σ H Q ⟨F, ρ, r, o⟩ => ⟨F, ρ, r, Out.mono (Out.bind o) (fun y ρ1 q v H1 F1 g1 d1 => ?_) fun e ρ1 q => q⟩
  obtain ⟨k, e, q2⟩ := Out.of q
  cases y with
  | str z =>
    cases d1
    cases e
    obtain ⟨r, e1, e2⟩ := tab_in (w := X.w) (h2 z)
    exact ⟨z, r, rfl, rfl, e1, _, rfl, by rw [e2]; exact q2 _ H1 F1 g1 rfl⟩
  | _ => cases e
end
end DL

set_option Elab.async false
set_option linter.all false
set_option maxRecDepth 100000
set_option maxHeartbeats 2000000
namespace DL
open PySem PySem.Spec PyProof.Rows L2
/-! ### a slot's own dict -/
theorem u1 {n : Nat} (h : n + 64 < cLine) : n + 1 < cLine := by omega
section
variable {κ : Type} [DecidableEq κ] {K : Kx} {F : Hp}
theorem valD_cons (q : κ × PyData) (kvs : List (κ × PyData)) (k : κ) : valD (q :: kvs) k = if q.1 = k then some q.2 else valD kvs k := by
  unfold valD
  by_cases c : q.1 = k
  · rw [if_pos c, List.find?_cons_of_pos (by simpa using c)]; rfl
  · rw [if_neg c, List.find?_cons_of_neg (by simpa using c)]
theorem kvd_val (k : κ) : ∀ {kvs : List (κ × PyData)} {ws : List (κ × V)}, KVD K F kvs ws → (valD kvs k = none ∧ valV ws k = none) ∨ ∃ d v, valD kvs k = some d ∧ valV ws k = some v ∧ Dp K F v d
  | _, _, .nil => .inl ⟨rfl, rfl⟩
  | q :: kvs, z :: ws, .cons ⟨h1, h2⟩ t => by
    rw [valD_cons]
    by_cases c : q.1 = k
    · rw [if_pos c, valV_pos (by rw [← h1]; exact c)]
      exact .inr ⟨_, _, rfl, rfl, h2⟩
    · rw [if_neg c, valV_neg (by rw [← h1]; exact c)]
      exact kvd_val k t
theorem kvd_any (k : κ) : ∀ {kvs : List (κ × PyData)} {ws : List (κ × V)}, KVD K F kvs ws → (kvs.any fun kv => decide (kv.1 = k)) = ws.any fun kv => decide (kv.1 = k)
  | _, _, .nil => rfl
  | q :: kvs, z :: ws, .cons ⟨h1, _⟩ t => by rw [List.any_cons, List.any_cons, h1, kvd_any k t]
theorem kvd_app : ∀ {a b : List (κ × PyData)} {x y : List (κ × V)}, KVD K F a x → KVD K F b y → KVD K F (a ++ b) (x ++ y)
  | _, _, _, _, .nil, h => h
  | _, _, _, _, .cons h t, h2 => .cons h (kvd_app t h2)
theorem kvd_map (k : κ) {d : PyData} {v : V} (h : Dp K F v d) : ∀ {kvs : List (κ × PyData)} {ws : List (κ × V)}, KVD K F kvs ws → KVD K F (kvs.map fun kv => if kv.1 = k then (kv.1, d) else kv) (ws.map fun kv => if kv.1 = k then (kv.1, v) else kv)
  | _, _, .nil => .nil
  | q :: kvs, z :: ws, .cons ⟨h1, h2⟩ t => by
    refine .cons ?_ (kvd_map k h t)
    dsimp only
    by_cases c : q.1 = k
    · rw [if_pos c, if_pos (by rw [← h1]; exact c)]; exact ⟨h1, h⟩
    · rw [if_neg c, if_neg (by rw [← h1]; exact c)]; exact ⟨h1, h2⟩
theorem kvd_put (k : κ) {d : PyData} {v : V} (h : Dp K F v d) {kvs : List (κ × PyData)} {ws : List (κ × V)} (t : KVD K F kvs ws) : KVD K F (putD kvs k d) (putK ws k v) := by
  unfold putD putK
  rw [kvd_any k t]
  split
  · exact kvd_map k h t
  · exact kvd_app t (.cons ⟨rfl, h⟩ .nil)
end
theorem kvd_merge {K : Kx} {F : Hp} : ∀ {more : List (Key × PyData)} {ms : List (Key × V)} {kvs : List (Key × PyData)} {ws : List (Key × V)}, KVD K F more ms → KVD K F kvs ws → KVD K F (mergeD kvs more) (mergeK ws ms)
  | _, _, _, _, .nil, h => h
  | q :: more, z :: ms, kvs, ws, .cons ⟨h1, h2⟩ t, h => by
    show KVD K F (mergeD (putD kvs q.1 q.2) more) (mergeK (putK ws z.1 z.2) ms)
    rw [← h1]
    exact kvd_merge t (kvd_put _ h2 h)
theorem kD_v {K : Kx} {F : Hp} {v : V} {x : PyData} {k : Key} (h : Dp K F v x) (e : kD x = some k) : v = kV k := by
  cases x <;> first
    | (cases e; cases h; rfl)
    | cases e
theorem dkAt_own {K : Kx} {F H : Hp} {ρ : Sl} {σ : St} {i : Nat} {kvs : List (Key × PyData)} (r : Rp K F ρ σ H) (h : dkAt i ρ = some kvs) : ∃ a ws, ρ[i]? = some (some (.k kvs)) ∧ σ[i]? = some (some (.ref a)) ∧ H a = some (.dK ws) ∧ KVD K F kvs ws := by
  unfold dkAt at h
  cases z : ρ[i]? with
  | none => rw [z] at h; cases h
  | some o =>
    rw [z] at h
    cases o with
    | none => cases h
    | some c =>
      cases c with
      | k ys =>
        cases h
        obtain ⟨a, o, h1, h2, h3, h4⟩ := r.own i _ z rfl
        obtain ⟨ws, rfl, h5⟩ := isO_k h4
        exact ⟨a, ws, rfl, h1, h3, h5⟩
      | _ => cases h
section
variable {X : Cx} {c : Ct} {a b d e : Expr} {i : Nat} {m m' : M PyData} {pos p p1 p2 : Pos}
theorem de_dix (hu : X.A.units + 1 < cLine) (ho : PE X a (L2.tVar i)) (hb : DE X c b m) (hs : NoSl b) : DE X c (.Subscript a b pos) (mDIx i m) :=
  pe_imp (pe_dget hu ho hb hs) fun σ H Q ⟨F, ρ, r, h⟩ => by
    have h' : Out (if (dkAt i ρ).isSome = true then (M.bind m fun y => fun ρ' => match dkAt i ρ', kD y with
      | some kvs, some k => M.of (valD kvs k) ρ'
      | _, _ => .stuck) ρ else .stuck) (fun a ρ' => ∀ v H' F', Go X.kx c.P ρ σ H F ρ' σ H' F' → RD X.kx (Fr ρ σ H) ρ' σ H' F' a v → Q v H') (fun e ρ' => ∀ cv dd H' F', Go X.kx c.P ρ σ H F ρ' σ H' F' → c.ER e cv dd H' → c.W cv dd σ H') := h
    cases hl : dkAt i ρ with
    | none => rw [hl] at h'; exact h'.elim
    | some kvs =>
      rw [hl, if_pos (show (some kvs).isSome = true from rfl)] at h'
      obtain ⟨ad, ws, z, h1, h2, h3⟩ := dkAt_own r hl
      refine ⟨.ref ad, h1, F, ρ, r, Out.mono (Out.bind h') (fun y ρ1 q u H1 F1 g1 d1 => ?_) fun e ρ1 q => q⟩
      cases hl1 : dkAt i ρ1 with
      | none => rw [hl1] at q; exact q.elim
      | some kvs1 =>
        rw [hl1] at q
        cases hk : kD y with
        | none => rw [hk] at q; exact q.elim
        | some k =>
          rw [hk] at q
          obtain ⟨w, e1, q2⟩ := Out.of (show Out (M.of (valD kvs1 k) ρ1) _ _ from q)
          obtain ⟨ad1, ws1, z1, k1, k2, k3⟩ := dkAt_own g1.rp hl1
          rw [h1] at k1; cases k1
          have hv := kD_v d1 hk
          subst hv
          rcases kvd_val k k3 with ⟨n1, _⟩ | ⟨d', v, n1, n2, n3⟩
          · rw [n1] at e1; cases e1
          · rw [n1] at e1; cases e1
            exact ⟨ad, v, rfl, by rw [← n2]; exact DGet.k k2, q2 v H1 F1 g1 n3⟩
theorem bool_eq_t (b : Bool) : (b == true) = b := by cases b <;> rfl
theorem bool_eq_f (b : Bool) : (b == false) = !b := by cases b <;> rfl
theorem tDIn_out {ρ : Sl} {bb : Bool} {S : Bool → Sl → Prop} {T : Exc → Sl → Prop} (h : Out (tDIn bb i m ρ) S T) :
    Out (m ρ) (fun y ρ1 => ∃ kvs k, dkAt i ρ1 = some kvs ∧ kD y = some k ∧ S ((valD kvs k).isSome == bb) ρ1) T := by
  refine Out.mono (Out.bind h) (fun y ρ1 q => ?_) fun e ρ1 q => q
  cases hl1 : dkAt i ρ1 with
  | none => rw [hl1] at q; exact q.elim
  | some kvs1 =>
    rw [hl1] at q
    cases hk : kD y with
    | none => rw [hk] at q; exact q.elim
    | some k =>
      rw [hk] at q
      exact ⟨kvs1, k, rfl, rfl, q⟩
theorem dt_din (hu : X.A.units + 1 < cLine) (ha : DE X c a m) (ho : PE X b (L2.tVar i)) (hm : behindInMarks .In b = false) : DT X c (.Compare a [.In] [b] pos) (tDIn true i m) :=
  pt_imp (pt_cmp (pc_din hu ha ho) hm) fun σ H Q ⟨F, ρ, r, h⟩ => ⟨F, ρ, r, Out.mono (tDIn_out h) (fun y ρ1 ⟨kvs, k, hl, hk, q⟩ v H1 F1 g1 d1 => by
    obtain ⟨ad1, ws1, z1, k1, k2, k3⟩ := dkAt_own g1.rp hl
    have hv := kD_v d1 hk
    subst hv
    refine ⟨.ref ad1, k1, ad1, valV ws1 k, rfl, DGet.k k2, _, rfl, ?_⟩
    have e : (valV ws1 k).isSome = ((valD kvs k).isSome == true) := by
      rw [bool_eq_t]
      rcases kvd_val k k3 with ⟨n1, n2⟩ | ⟨d', v, n1, n2, n3⟩ <;> rw [n1, n2] <;> rfl
    rw [e]
    exact q _ H1 F1 g1 rfl) fun e ρ1 q => q⟩
theorem dt_dnotin (hu : X.A.units + 1 < cLine) (ha : DE X c a m) (ho : PE X b (L2.tVar i)) (hm : behindInMarks .NotIn b = false) : DT X c (.Compare a [.NotIn] [b] pos) (tDIn false i m) :=
  pt_imp (pt_cmp (pc_dnotin hu ha ho) hm) fun σ H Q ⟨F, ρ, r, h⟩ => ⟨F, ρ, r, Out.mono (tDIn_out h) (fun y ρ1 ⟨kvs, k, hl, hk, q⟩ v H1 F1 g1 d1 => by
    obtain ⟨ad1, ws1, z1, k1, k2, k3⟩ := dkAt_own g1.rp hl
    have hv := kD_v d1 hk
    subst hv
    refine ⟨.ref ad1, k1, ad1, valV ws1 k, rfl, DGet.k k2, _, rfl, ?_⟩
    have e : (!(valV ws1 k).isSome) = ((valD kvs k).isSome == false) := by
      rw [bool_eq_f]
      rcases kvd_val k k3 with ⟨n1, n2⟩ | ⟨d', v, n1, n2, n3⟩ <;> rw [n1, n2] <;> rfl
    rw [e]
    exact q _ H1 F1 g1 rfl) fun e ρ1 q => q⟩
/-- d[k] = v -/
theorem ds_dput {mk mv : M PyData} (hu : X.A.units + 1 < cLine) (ho : PE X a (L2.tVar i)) (hi : DE X c b mk) (he : DE X c e mv) (hs : swapsWith e (some (.Subscript a b p1)) pos.line X.env = pure false := by rfl) : DS X c (.Assign [.Subscript a b p1] e pos) (sDPut i mk mv) :=
  ps_imp (ps_dput hu ho hi he hs) fun D σ H q => by
    refine tE.at (R := RD X.kx) q fun {F ρ d ρ1 v H1 F1} g1 d1 o => ?_
    have o' : Out (if (dkAt i ρ1).isSome = true then (M.bind mk fun y => fun ρ' => match dkAt i ρ', kD y with
      | some kvs, some k => if kvs.length < sizeLine then .ok .nx (ρ'.set i (some (.k (putD kvs k d)))) else .stuck
      | _, _ => .stuck) ρ1 else .stuck) (SK X.kx c D ρ σ H F) (SE X.kx c ρ σ H F) := o
    cases hl : dkAt i ρ1 with
    | none => rw [hl] at o'; exact o'.elim
    | some kvs =>
      rw [hl, if_pos (show (some kvs).isSome = true from rfl)] at o'
      obtain ⟨ad, ws, z, h1, h2, h3⟩ := dkAt_own g1.rp hl
      refine ⟨.ref ad, h1, F1, ρ1, g1.rp, Out.mono (Out.bind o') (fun y ρ2 q u H2 F2 g2 d2 => ?_) fun e ρ2 q cv dd H2 F2 g2 er => q cv dd σ H2 F2 (g1.trans g2) er⟩
      cases hl1 : dkAt i ρ2 with
      | none => rw [hl1] at q; exact q.elim
      | some kvs1 =>
        rw [hl1] at q
        cases hk : kD y with
        | none => rw [hk] at q; exact q.elim
        | some k =>
          rw [hk] at q
          have q' : Out (if kvs1.length < sizeLine then .ok .nx (ρ2.set i (some (.k (putD kvs1 k d)))) else .stuck : Res Fl) (SK X.kx c D ρ σ H F) (SE X.kx c ρ σ H F) := q
          by_cases hz : kvs1.length < sizeLine
          · rw [if_pos hz] at q'
            obtain ⟨ad1, ws1, z1, k1, k2, k3⟩ := dkAt_own g2.rp hl1
            rw [h1] at k1; cases k1
            have hv := kD_v d2 hk
            subst hv
            exact ⟨ad, _, rfl, DPut.k k2 (by rw [← Paired.length k3]; exact hz), q' σ _ _ ((g1.trans g2).trans (Go.upd g2.rp z1 rfl rfl h1 (kvd_put k (dp_mono g2.fr d1) k3)))⟩
          · rw [if_neg hz] at q'; exact q'.elim
/-! ### new dicts -/
theorem do_dnewK : DO X c (.Dict [] [] pos) (M.pure (.k [])) := pe_imp pe_dnewK fun σ H Q ⟨F, ρ, r, h⟩ => fun p hp =>
  h (.ref p) _ F (Go.temp r hp (.dK [])) ⟨p, _, rfl, .inl hp, r.free hp, upd_same, .nil, no_own r hp⟩
theorem do_dnewT : DO X c (.Dict [] [] pos) (M.pure (.t [])) := pe_imp pe_dnewT fun σ H Q ⟨F, ρ, r, h⟩ => fun p hp =>
  h (.ref p) _ F (Go.temp r hp (.dT [])) ⟨p, _, rfl, .inl hp, r.free hp, upd_same, .nil, no_own r hp⟩
/-- a new thing that is nobody's, rewritten -/
theorem Go.retemp {K : Kx} {P : Pn} {ρ ρ1 : Sl} {σ σ1 : St} {H H1 F F1 : Hp} (g : Go K P ρ σ H F ρ1 σ1 H1 F1) {p : Addr} (h : H p = none) (hF : F1 p = none) (no : ¬ Own ρ1 σ1 p) (o : HO) : Go K P ρ σ H F ρ1 σ1 (L2.upd H1 p o) F1 := by
  refine ⟨⟨fun b x e => ?_, g.rp.len, g.rp.dat, g.rp.fn, fun i c e hc => ?_, g.rp.apart⟩, g.fr, fun b x n e => ?_, fun b x e => ?_, g.nw, g.ow, g.pn, g.po, g.ln⟩
  · have ne : b ≠ p := fun z => by rw [z, hF] at e; cases e
    rw [upd_ne ne]; exact g.rp.sub b x e
  · obtain ⟨a, u, h1, h2, h3, h4⟩ := g.rp.own i c e hc
    have ne : a ≠ p := fun z => no ⟨i, ⟨c, e, hc⟩, z ▸ h1⟩
    exact ⟨a, u, h1, h2, by rw [upd_ne ne]; exact h3, h4⟩
  · have ne : b ≠ p := fun z => by rw [z, h] at e; cases e
    rw [upd_ne ne]; exact g.hp b x n e
  · by_cases hb : b = p
    · subst hb; exact ⟨o, upd_same⟩
    · obtain ⟨x', e'⟩ := g.th b x e
      exact ⟨x', by rw [upd_ne hb]; exact e'⟩
abbrev PrD (K : Kx) (F : Hp) : List (V × V) → List (PyData × PyData) → Prop := Paired fun v d => Dp K F v.1 d.1 ∧ Dp K F v.2 d.2
theorem prD_mono {K : Kx} {F F' : Hp} (e : Same F F') {a : List (V × V)} {b : List (PyData × PyData)} (h : PrD K F a b) : PrD K F' a b := Paired.mapP h fun _ _ z => ⟨dp_mono e z.1, dp_mono e z.2⟩
def trs (K : Kx) (c : Ct) (ps : List (M PyData × M PyData)) : List (TE × TE) := ps.map fun q => (Tr K c (RD K) q.1, Tr K c (RD K) q.2)
theorem tPairs_of {K : Kx} {c : Ct} {σ : St} {H0 F0 : Hp} {ρ0 : Sl} : ∀ (ps : List (M PyData × M PyData)) {ρ : Sl} {H F : Hp} {R : List (V × V) → Hp → Prop}, Go K c.P ρ0 σ H0 F0 ρ σ H F →
    Out (mPrs ps ρ) (fun l ρ' => ∀ vs H' F', Go K c.P ρ0 σ H0 F0 ρ' σ H' F' → Same F F' → PrD K F' vs l → R vs H') (fun e ρ' => ∀ cv dd H' F', Go K c.P ρ0 σ H0 F0 ρ' σ H' F' → c.ER e cv dd H' → c.W cv dd σ H') → tPairs (trs K c ps) σ H R
  | [], ρ, H, F, R, g, h => h [] H F g (Same.refl F) .nil
  | (m1, m2) :: ps, ρ, H, F, R, g, h => ⟨F, ρ, g.rp, Out.mono (Out.bind h) (fun x ρ1 q1 v H1 F1 g1 d1 => ⟨F1, ρ1, g1.rp, Out.mono (Out.bind q1) (fun y ρ2 q2 u H2 F2 g2 d2 => by
      have g12 := (g.trans g1).trans g2
      refine tPairs_of ps g12 (Out.mono (Out.bind q2) (fun l ρ3 q3 vs H3 F3 g3 s3 pr => ?_) fun e ρ3 q cv dd H3 F3 g3 er => q cv dd H3 F3 g3 er)
      exact q3 ((v, u) :: vs) H3 F3 g3 (g1.fr.trans (g2.fr.trans s3)) (.cons ⟨dp_mono (g2.fr.trans s3) d1, dp_mono s3 d2⟩ pr)) fun e ρ2 q cv dd H2 F2 g2 er => q cv dd H2 F2 ((g.trans g1).trans g2) er⟩) fun e ρ1 q cv dd H1 F1 g1 er => q cv dd H1 F1 (g.trans g1) er⟩
structure DPs (X : Cx) (c : Ct) (pos : Pos) (ks : List (Option Expr)) (vs : List Expr) (ps : List (M PyData × M PyData)) : Prop where
  run : PPs X pos ks vs (trs X.kx c ps)
theorem dps_nil : DPs X c pos [] [] [] := ⟨pps_nil⟩
theorem dps_cons {ks : List (Option Expr)} {vs : List Expr} {ps : List (M PyData × M PyData)} (hk : DE X c a m) (hv : DE X c b m') (hr : DPs X c pos ks vs ps) : DPs X c pos (some a :: ks) (b :: vs) ((m, m') :: ps) := ⟨pps_cons hk hv hr.run⟩
theorem kPrs_of {K : Kx} {F : Hp} : ∀ {vs : List (V × V)} {l : List (PyData × PyData)} {kvs : List (Key × PyData)}, PrD K F vs l → kPrs l = some kvs → ∃ ws : List (Key × V), vs = ws.map (fun kv => (kV kv.1, kv.2)) ∧ KVD K F kvs ws
  | _, _, _, .nil, e => by cases e; exact ⟨[], rfl, .nil⟩
  | v :: vs, (x, y) :: l, kvs, .cons ⟨h1, h2⟩ t, e => by
    have e' : (match kD x, kPrs l with
      | some k, some ps => some ((k, y) :: ps)
      | _, _ => none) = some kvs := e
    cases hk : kD x with
    | none => rw [hk] at e'; cases e'
    | some k =>
      rw [hk] at e'
      cases hp : kPrs l with
      | none => rw [hp] at e'; cases e'
      | some ps =>
        rw [hp] at e'
        cases e'
        obtain ⟨ws, rfl, h3⟩ := kPrs_of t hp
        obtain ⟨v1, v2⟩ := v
        have := kD_v h1 hk
        exact ⟨(k, v2) :: ws, by rw [List.map_cons, ← this], .cons ⟨rfl, h2⟩ h3⟩
theorem mPrs_len : ∀ (ps : List (M PyData × M PyData)) {ρ : Sl} {S : List (PyData × PyData) → Sl → Prop} {T : Exc → Sl → Prop}, Out (mPrs ps ρ) S T → Out (mPrs ps ρ) (fun l ρ' => S l ρ' ∧ l.length = ps.length) T
  | [], ρ, S, T, h => ⟨h, rfl⟩
  | (m1, m2) :: ps, ρ, S, T, h => by
    unfold mPrs at h ⊢
    unfold M.bind at h ⊢
    cases h1 : m1 ρ with
    | err e ρ1 => rw [h1] at h; exact h
    | stuck => rw [h1] at h; exact h
    | ok x ρ1 =>
      rw [h1] at h
      dsimp only at h ⊢
      cases h2 : m2 ρ1 with
      | err e ρ2 => rw [h2] at h; exact h
      | stuck => rw [h2] at h; exact h
      | ok y ρ2 =>
        rw [h2] at h
        dsimp only at h ⊢
        cases h3 : mPrs ps ρ2 with
        | err e ρ3 => rw [h3] at h; exact h
        | stuck => rw [h3] at h; exact h
        | ok l ρ3 =>
          rw [h3] at h
          have ih := mPrs_len ps (ρ := ρ2) (S := fun _ _ => True) (T := fun _ _ => True) (by rw [h3]; trivial)
          rw [h3] at ih
          exact ⟨h, by rw [List.length_cons, List.length_cons, ih.2]⟩
theorem do_disp {ks : List (Option Expr)} {vs : List Expr} {ps : List (M PyData × M PyData)} (h : DPs X c pos ks vs ps) (hall : ks.all (·.isSome) = true := by rfl) (hl : ks.length = vs.length := by rfl) (h0 : ks ≠ [] := by (intro z; cases z)) (h15 : ks.length ≤ 15 := by decide) (hp : ps.length ≤ 15 := by decide) : DO X c (.Dict ks vs pos) (mDisp ps) :=
  pe_imp (pe_disp h.run hall hl h0 h15) fun σ H Q ⟨F, ρ, r, o⟩ => fun p hpn => by
    have g0 := Go.temp (P := c.P) r hpn (.dK [])
    have o' : Out (M.bind (mPrs ps) (fun l => match kPrs l with
      | some kvs => M.pure (.k (mergeD [] kvs))
      | none => M.stuck) ρ) (fun a ρ' => ∀ v H' F', Go X.kx c.P ρ σ H F ρ' σ H' F' → RC X.kx (Fr ρ σ H) ρ' σ H' F' a v → Q v H') (fun e ρ' => ∀ cv dd H' F', Go X.kx c.P ρ σ H F ρ' σ H' F' → c.ER e cv dd H' → c.W cv dd σ H') := o
    refine tPairs_of (ρ0 := ρ) (H0 := L2.upd H p (.dK [])) (F0 := F) ps (Go.refl g0.rp) (Out.mono (mPrs_len ps (Out.bind o')) (fun l ρ1 ⟨q, hlen⟩ vs2 H2 F2 g s2 pr => ?_) fun e ρ1 q cv dd H2 F2 g er => q cv dd H2 F2 (g0.trans g) er)
    have nOwn : ¬ Own ρ σ p := no_own r hpn
    have e2 : H2 p = some (.dK []) := g.hp p _ nOwn upd_same
    have nOwn2 : ¬ Own ρ1 σ p := fun z => by
      rcases g.ow p z with z | z
      · exact nOwn z
      · rw [upd_same] at z; cases z
    have nF : F2 p = none := by
      cases z : F2 p with
      | none => rfl
      | some u =>
        rcases g.nw p u z with y | y | y
        · rw [r.free hpn] at y; cases y
        · rw [upd_same] at y; cases y
        · exact (nOwn y).elim
    cases hk : kPrs l with
    | none => rw [hk] at q; exact q.elim
    | some kvs =>
      rw [hk] at q
      obtain ⟨ws, rfl, h3⟩ := kPrs_of pr hk
      refine ⟨e2, ws, rfl, ?_, ?_⟩
      · have e := Paired.length pr
        rw [List.length_map] at e
        omega
      · exact q (.ref p) _ F2 ((g0.trans g).retemp hpn nF nOwn2 _) ⟨p, _, rfl, .inl hpn, nF, upd_same, kvd_merge h3 .nil, nOwn2⟩
theorem de_dixN {mc : M C} (hu : X.A.units + 1 < cLine) (ho : DO X c a mc) (hb : DE X c b m) (hs : NoSl b) : DE X c (.Subscript a b pos) (mDIxN mc m) :=
  pe_imp (pe_dget hu ho hb hs) fun σ H Q ⟨F, ρ, r, o⟩ => ⟨F, ρ, r, Out.mono (Out.bind o) (fun k ρ1 q1 v H1 F1 g1 d1 => ⟨F1, ρ1, g1.rp, Out.mono (Out.bind q1) (fun y ρ2 q2 u H2 F2 g2 d2 => by
    cases k with
    | k kvs =>
      cases hk : kD y with
      | none => rw [hk] at q2; exact q2.elim
      | some key =>
        rw [hk] at q2
        obtain ⟨w, e1, q3⟩ := Out.of (show Out (M.of (valD kvs key) ρ2) _ _ from q2)
        obtain ⟨ad, ob, rfl, h1, h2, h3, h4, h5⟩ := d1
        obtain ⟨ws, rfl, h6⟩ := isO_k h4
        have hv := kD_v d2 hk
        subst hv
        have h7 := g2.hp ad _ h5 h3
        rcases kvd_val key (kvd_mono g2.fr h6) with ⟨n1, _⟩ | ⟨d', v', n1, n2, n3⟩
        · rw [n1] at e1; cases e1
        · rw [n1] at e1; cases e1
          exact ⟨ad, v', rfl, by rw [← n2]; exact DGet.k h7, q3 v' H2 F2 (g1.trans g2) n3⟩
    | d x => cases q2
    | f x => cases q2
    | l x => cases q2
    | t x => cases q2) fun e ρ2 q cv dd H2 F2 g2 er => q cv dd H2 F2 (g1.trans g2) er⟩) fun e ρ1 q => q⟩
/-! ### dict(pairs) -/
theorem prsD_of {K : Kx} {F : Hp} : ∀ {vs : List V} {ds : List PyData} {kvs : List (Key × PyData)}, DpAll K F vs ds → prsD ds = some kvs → ∃ (ps : List Addr) (ws : List (Key × V)), vs = ps.map V.ref ∧ Paired (fun p kv => SqT K F p [kV kv.1, kv.2]) ps ws ∧ KVD K F kvs ws
  | _, _, _, .nil, h => by cases h; exact ⟨[], [], rfl, .nil, .nil⟩
  | v :: vs, d :: ds, kvs, .cons hd ht, h => by
    cases d with
    | tuple xs =>
      match xs, hd, h with
      | [x, y], hd, h =>
        have h' : (match kD x, prsD ds with
          | some k, some ps => some ((k, y) :: ps)
          | _, _ => none) = some kvs := h
        cases hk : kD x with
        | none => rw [hk] at h'; cases h'
        | some k =>
          rw [hk] at h'
          cases e : prsD ds with
          | none => rw [e] at h'; cases h'
          | some t =>
            rw [e] at h'
            cases h'
            obtain ⟨ps, ws, rfl, h2, h3⟩ := prsD_of ht e
            cases hd with
            | tup hs ha =>
              cases ha with
              | cons a1 a2 =>
                have hv := kD_v a1 hk
                cases a2 with
                | cons a3 a4 =>
                  cases a4
                  rename_i ad vx vy
                  subst hv
                  exact ⟨ad :: ps, (k, vy) :: ws, rfl, .cons hs h2, .cons ⟨rfl, a3⟩ h3⟩
      | [], hd, h => cases h
      | [_], hd, h => cases h
      | _ :: _ :: _ :: _, hd, h => cases h
    | _ => cases h
theorem do_dictP (hc : X.calm = true) (hg : Gl X "dict") (hm : X.mg "dict" = none) (ha : DE X c e m) (h1 : starEach [e] X.env = (false, eval e X.env) :: starEach [] X.env := by rfl) : DO X c (.Call (.Name "dict" p) [e] [] pos) (lift1 oDictP m) :=
  pe_imp (pe_callTy (call_dictP hc) hg hm (by decide +kernel) (pa_cons ha pa_nil h1) (by decide) (by decide) h1) fun σ H Q ⟨F, ρ, r, o⟩ => ⟨F, ρ, r, Out.mono (Out.bind o) (fun d ρ1 q v H1 F1 g1 d1 => by
    obtain ⟨w, e, q2⟩ := Out.of q
    cases d with
    | list xs =>
      have e' : (match prsD xs with
        | some kvs => if kvs.length ≤ sizeLine then some (C.k (mergeD [] kvs)) else none
        | none => none) = some w := e
      cases hi : prsD xs with
      | none => rw [hi] at e'; cases e'
      | some kvs =>
        rw [hi] at e'
        have e2 : (if kvs.length ≤ sizeLine then some (C.k (mergeD [] kvs)) else none) = some w := e'
        by_cases hz : kvs.length ≤ sizeLine
        · rw [if_pos hz] at e2
          cases e2
          cases d1 with
          | lst hs ha =>
            obtain ⟨ps, ws, ev, hpr, hk⟩ := prsD_of ha hi
            rw [ev] at hs
            exact ⟨_, ps, ws, rfl, rd_seq g1.rp.sub hs, Paired.mapP hpr fun _ _ z => sqT_mono g1.rp.sub z, fun p hp => q2 (.ref p) _ F1 (g1.trans (Go.temp g1.rp hp _)) ⟨p, _, rfl, .inl (g1.back hp), g1.rp.free hp, upd_same, kvd_merge hk .nil, no_own g1.rp hp⟩⟩
        · rw [if_neg hz] at e2; cases e2
    | _ => cases e) fun e ρ1 q => q⟩
theorem dg_tl {es : List Expr} {k n : Nat} {gs : List (PyData → M Unit)} (hc : X.calm = true) (h : DGs X c es gs) (hl : gs.length = n := by rfl) (hn : (assignEach es X.env).length = n := by rfl) (hst : (assignEach es X.env).findIdx? (·.1) = none := by rfl) : DG X c (.Tuple es k pos) (gTL gs) :=
  ⟨pg_imp (pg_unl hc h.pg hn hst) fun v σ H Q ⟨F, ρ, x, r, d, o⟩ => by
    cases d with
    | lst hs ha =>
      rename_i a vs xs o0
      have o' : Out ((if xs.length = gs.length then gsL gs xs else M.stuck) ρ) (fun _ ρ' => ∀ σ' H' F', Go X.kx c.P ρ σ H F ρ' σ' H' F' → Q σ' H') (fun _ _ => True) := o
      by_cases hl2 : xs.length = gs.length
      · rw [if_pos hl2] at o'
        exact ⟨a, vs, rfl, rd_seq r.sub hs, by rw [dpa_len ha, hl2, hl], F, ρ, xs, r, ha, o'⟩
      · rw [if_neg hl2] at o'; exact o'.elim
    | _ => exact o.elim,
   fun x ρ e ρ' q => by
    cases x with
    | list xs =>
      have q' : (if xs.length = gs.length then gsL gs xs else M.stuck) ρ = .err e ρ' := q
      by_cases hl2 : xs.length = gs.length
      · rw [if_pos hl2] at q'; exact h.ne _ _ _ _ q'
      · rw [if_neg hl2] at q'; cases q'
    | _ => cases q⟩
end
end DL

set_option linter.all false
set_option maxRecDepth 100000
namespace DL
open PySem PySem.Spec L2
/-! ## the denotation, applied -/
def Res.then {α β : Type} (r : Res α) (f : α → M β) : Res β := match r with
  | .ok a ρ => f a ρ
  | .err e ρ => .err e ρ
  | .stuck => .stuck
section
variable {α β : Type} (ρ : Sl) (m m' m2 : M PyData) (n n' : M C) (t u : M Bool) (s s' : M Fl) (i : Nat)
@[simp] theorem then_ok (a : α) (f : α → M β) : (Res.ok a ρ).then f = f a ρ := rfl
@[simp] theorem then_err (e : Exc) (f : α → M β) : (Res.err e ρ : Res α).then f = .err e ρ := rfl
@[simp] theorem then_stuck (f : α → M β) : (Res.stuck : Res α).then f = .stuck := rfl
@[simp] theorem bind_ap (a : M α) (f : α → M β) : M.bind a f ρ = (a ρ).then f := rfl
@[simp] theorem pure_ap (a : α) : M.pure a ρ = .ok a ρ := rfl
@[simp] theorem stuck_ap : (M.stuck : M α) ρ = .stuck := rfl
@[simp] theorem of_some (a : α) : M.of (some a) ρ = .ok a ρ := rfl
@[simp] theorem of_none : (M.of (none : Option α)) ρ = .stuck := rfl
@[simp] theorem ite_ap {c : Prop} [Decidable c] (a b : M α) : (if c then a else b) ρ = if c then a ρ else b ρ := by split <;> rfl
@[simp] theorem lift1_ap (f : PyData → Option α) : lift1 f m ρ = (m ρ).then fun x => M.of (f x) := rfl
@[simp] theorem lift2_ap (f : PyData → PyData → Option α) : lift2 f m m' ρ = (m ρ).then fun x => M.bind m' fun y => M.of (f x y) := rfl
@[simp] theorem mVar_ap : mVar i ρ = match ρ[i]? with
  | some (some (.d x)) => .ok x ρ
  | _ => .stuck := rfl
@[simp] theorem mVarF_ap : mVarF i ρ = match ρ[i]? with
  | some (some (.d x)) => .ok x ρ
  | some (some (.l xs)) => .ok (.list xs) (ρ.set i (some (.d (.list xs))))
  | _ => .stuck := rfl
@[simp] theorem mVarM_ap : mVarM i ρ = match ρ[i]? with
  | some (some (.d x)) => .ok (.d x) ρ
  | some (some (.f x)) => .ok (.f x) ρ
  | some (some c) => .ok c (ρ.set i none)
  | _ => .stuck := rfl
@[simp] theorem mVarC_ap : mVarC i ρ = match ρ[i]? with
  | some (some (.d x)) => .ok (.d x) ρ
  | some (some (.f a)) => .ok (.f a) ρ
  | _ => .stuck := rfl
@[simp] theorem bD_ap : bD t ρ = (t ρ).then fun b => M.pure (.bool b) := rfl
@[simp] theorem sSeq_ap : sSeq s s' ρ = (s ρ).then fun fl => match fl with
  | .nx => s'
  | fl => M.pure fl := rfl
@[simp] theorem sIf_ap : sIf t s s' ρ = (t ρ).then fun k => if k = true then s else s' := rfl
@[simp] theorem mIf_ap (a b : M α) : mIf t a b ρ = (t ρ).then fun k => if k = true then a else b := rfl
@[simp] theorem sSet_ap : sSet i n ρ = (n ρ).then fun c => sPut i c := rfl
@[simp] theorem sPut_ap (c : C) : sPut i c ρ = .ok .nx (ρ.set i (some c)) := rfl
@[simp] theorem sSet2_ap (j : Nat) : sSet2 i j n n' ρ = (n ρ).then fun x => M.bind n' fun y => fun ρ => .ok .nx ((ρ.set i (some x)).set j (some y)) := rfl
@[simp] theorem sSet3_ap (j l : Nat) (n2 : M C) : sSet3 i j l n n' n2 ρ = (n ρ).then fun x => M.bind n' fun y => M.bind n2 fun z => fun ρ => .ok .nx (((ρ.set i (some x)).set j (some y)).set l (some z)) := rfl
@[simp] theorem gN_ap (x : PyData) : gN i x ρ = .ok () (ρ.set i (some (.d x))) := rfl
@[simp] theorem gsL_nil : gsL [] [] ρ = .ok () ρ := rfl
@[simp] theorem gsL_cons (g : PyData → M Unit) (gs : List (PyData → M Unit)) (x : PyData) (xs : List PyData) : gsL (g :: gs) (x :: xs) ρ = (g x ρ).then fun _ => gsL gs xs := rfl
@[simp] theorem gT_tup (gs : List (PyData → M Unit)) (xs : List PyData) : gT gs (.tuple xs) ρ = if xs.length = gs.length then gsL gs xs ρ else .stuck := by
  show (if xs.length = gs.length then gsL gs xs else M.stuck) ρ = _
  split <;> rfl
@[simp] theorem sAsg_ap (g : PyData → M Unit) : sAsg m g ρ = (m ρ).then fun x => sDo (g x) := rfl
@[simp] theorem sAsg2_ap (g g' : PyData → M Unit) : sAsg2 m g g' ρ = (m ρ).then fun x => M.bind (g x) fun _ => sDo (g' x) := rfl
@[simp] theorem sDo_ap (a : M α) : sDo a ρ = (a ρ).then fun _ => M.pure .nx := rfl
@[simp] theorem sSkip_ap : sSkip ρ = .ok .nx ρ := rfl
@[simp] theorem sErr_ap (e : Exc) : sErr e ρ = .err e ρ := rfl
@[simp] theorem sRet_ap : sRet n ρ = (n ρ).then fun c => M.pure (.rt c) := rfl
@[simp] theorem mDat_ap : mDat m ρ = (m ρ).then fun c => M.pure (.d c) := rfl
def frz : C → M PyData
  | .d x => M.pure x
  | .l xs => M.pure (.list xs)
  | _ => M.stuck
@[simp] theorem frz_d (x : PyData) : frz (.d x) ρ = .ok x ρ := rfl
@[simp] theorem frz_l (x : List PyData) : frz (.l x) ρ = .ok (.list x) ρ := rfl
@[simp] theorem mFrz_ap : mFrz n ρ = (n ρ).then frz := by
  show (n ρ).then _ = _
  cases n ρ with
  | ok c ρ => cases c <;> rfl
  | _ => rfl
@[simp] theorem tNot_ap : DL.tNot t ρ = (t ρ).then fun b => M.pure (!b) := rfl
@[simp] theorem tAnd_ap : DL.tAnd t u ρ = (t ρ).then fun b => if b = true then u else M.pure false := rfl
@[simp] theorem tOr_ap : DL.tOr t u ρ = (t ρ).then fun b => if b = true then M.pure true else u := rfl
@[simp] theorem tTru_ap : tTru m ρ = (m ρ).then fun x => M.of (truD x) := rfl
@[simp] theorem mAnd_ap : mAnd m m' ρ = (m ρ).then fun d => match d with
  | .bool k => if k = true then m' else M.pure (.bool false)
  | _ => M.stuck := rfl
@[simp] theorem mOr_ap : mOr m m' ρ = (m ρ).then fun d => match d with
  | .bool k => if k = true then M.pure (.bool true) else m'
  | _ => M.stuck := rfl
@[simp] theorem mNot_ap : mNot m ρ = (m ρ).then fun d => match d with
  | .bool k => M.pure (.bool (!k))
  | _ => M.stuck := rfl
@[simp] theorem tChain_ap (f g : PyData → PyData → Option Bool) : tChain f g m m' m2 ρ = (m ρ).then fun x => M.bind m' fun y => M.bind (M.of (f x y)) fun k => if k = true then M.bind m2 fun z => M.of (g y z) else M.pure false := rfl
@[simp] theorem mSeqA_nil : mSeqA [] ρ = .ok [] ρ := rfl
@[simp] theorem mSeqA_cons (a : M Av) (r : List (M Av)) : mSeqA (a :: r) ρ = (a ρ).then fun x => M.bind (mSeqA r) fun xs => M.pure (x :: xs) := rfl
@[simp] theorem mSeq_nil : mSeq [] ρ = .ok [] ρ := rfl
@[simp] theorem mSeq_cons (r : List (M PyData)) : mSeq (m :: r) ρ = (m ρ).then fun x => M.bind (mSeq r) fun xs => M.pure (x :: xs) := rfl
@[simp] theorem mTup_ap (ms : List (M PyData)) : mTup ms ρ = (mSeq ms ρ).then fun xs => M.pure (.tuple xs) := rfl
@[simp] theorem mLst_ap (ms : List (M PyData)) : mLst ms ρ = (mSeq ms ρ).then fun xs => M.pure (.l xs) := rfl
@[simp] theorem agD_ap : agD m ρ = (m ρ).then fun x => M.pure (.d x) := rfl
@[simp] theorem agF_ap : agF n ρ = (n ρ).then fun c => match c with
  | .d x => M.pure (.d x)
  | .f a => M.pure (.f a)
  | _ => M.stuck := rfl
@[simp] theorem agV_ap : agV i ρ = match ρ[i]? with
  | some (some (.d x)) => .ok (.d x) ρ
  | some (some (.f a)) => .ok (.f a) ρ
  | some (some _) => .ok (.v i) ρ
  | _ => .stuck := rfl
@[simp] theorem rdA_d (x : PyData) : rdA ρ (.d x) = some (.d x) := rfl
@[simp] theorem rdA_v : rdA ρ (.v i) = (ρ[i]?).join := rfl
@[simp] theorem rdA_f (x : Str) : rdA ρ (.f x) = some (.f x) := rfl
/-- behind a call: what it changed goes into its arguments' slots -/
def callR (as : List Av) (r : Res C) : Res C := match r with
  | .ok r cs => .ok r (wrA as cs ρ)
  | .err e cs => .err e (wrA as cs ρ)
  | .stuck => .stuck
@[simp] theorem callR_ok (as : List Av) (c : C) (cs : Sl) : callR ρ as (.ok c cs) = .ok c (wrA as cs ρ) := rfl
@[simp] theorem callR_err (as : List Av) (e : Exc) (cs : Sl) : callR ρ as (.err e cs) = .err e (wrA as cs ρ) := rfl
@[simp] theorem mCall_ap (φ : Sl → Res C) (a : M (List Av)) : mCall φ a ρ = (a ρ).then fun as ρ' => if (slA as).Nodup then callR ρ' as (φ (as.map (rdA ρ'))) else .stuck := rfl
@[simp] theorem slA_nil : slA [] = [] := rfl
@[simp] theorem slA_v (r : List Av) : slA (.v i :: r) = i :: slA r := rfl
@[simp] theorem slA_d (x : PyData) (r : List Av) : slA (.d x :: r) = slA r := rfl
@[simp] theorem slA_f (x : Str) (r : List Av) : slA (.f x :: r) = slA r := rfl
@[simp] theorem wrA_nil (cs : Sl) : wrA [] cs ρ = ρ := rfl
@[simp] theorem wrA_v (r : List Av) (c : Option C) (cs : Sl) : wrA (.v i :: r) (c :: cs) ρ = wrA r cs (ρ.set i c) := rfl
@[simp] theorem wrA_d (x : PyData) (r : List Av) (c : Option C) (cs : Sl) : wrA (.d x :: r) (c :: cs) ρ = wrA r cs ρ := rfl
@[simp] theorem wrA_f (x : Str) (r : List Av) (c : Option C) (cs : Sl) : wrA (.f x :: r) (c :: cs) ρ = wrA r cs ρ := rfl
/-- a def's end -/
def runR (n : Nat) (pm : List Nat) (cs : Sl) (r : Res Fl) : Res C := match r with
    | .ok .nx ρ => .ok (.d .none) (finSl n pm cs ρ)
    | .ok (.rt c) ρ => .ok c (finSl n pm cs ρ)
    | .ok _ _ => .stuck
    | .err e ρ => .err e (finSl n pm cs ρ)
    | .stuck => .stuck
theorem run_ap (n N : Nat) (pm : List Nat) (b : M Fl) (cs : Sl) (h : okSl n pm cs = true) : run n N pm b cs = runR n pm cs (b (cs ++ List.replicate (N - n) none)) := by
  unfold run
  rw [if_pos h]; rfl
variable (k : Nat) (pm : List Nat) (cs : Sl)
@[simp] theorem runR_rt (c : C) : runR k pm cs (.ok (.rt c) ρ) = .ok c (finSl k pm cs ρ) := rfl
@[simp] theorem runR_nx : runR k pm cs (.ok .nx ρ) = .ok (.d .none) (finSl k pm cs ρ) := rfl
@[simp] theorem runR_err (e : Exc) : runR k pm cs (.err e ρ) = .err e (finSl k pm cs ρ) := rfl
@[simp] theorem runR_if {c : Prop} [Decidable c] (a b : Res Fl) : runR k pm cs (if c then a else b) = if c then runR k pm cs a else runR k pm cs b := by split <;> rfl
@[simp] theorem then_if {c : Prop} [Decidable c] (a b : Res α) (f : α → M β) : (if c then a else b).then f = if c then a.then f else b.then f := by split <;> rfl
/-! ### lists of a slot's own -/
@[simp] theorem mIxV_ap : mIxV i m ρ = if (lsAt i ρ).isSome = true then (m ρ).then fun j ρ' => match lsAt i ρ' with
    | some xs => M.of (oIx (.list xs) j) ρ'
    | none => .stuck else .stuck := rfl
@[simp] theorem sOn_ap : sOn i s ρ = if (lsAt i ρ).isSome = true then s ρ else .stuck := rfl
@[simp] theorem sSetIx_ap : sSetIx i m m' ρ = (m' ρ).then fun v => sOn i (M.bind m fun j => fun ρ => match lsAt i ρ with
  | some xs => (match ixOf xs.length j with
    | some k => .ok .nx (ρ.set i (some (.l (xs.set k v))))
    | none => .stuck)
  | none => .stuck) := rfl
@[simp] theorem sApp_ap : sApp i m ρ = sOn i (M.bind m fun x => fun ρ => match lsAt i ρ with
  | some xs => if xs.length < sizeLine then .ok .nx (ρ.set i (some (.l (xs ++ [x])))) else .stuck
  | none => .stuck) ρ := rfl
@[simp] theorem sExtC_ap : sExtC i n ρ = sOn i (M.bind n fun x => fun ρ => match lsAt i ρ, toL x with
  | some xs, some ys => if xs.length + ys.length ≤ sizeLine then .ok .nx (ρ.set i (some (.l (xs ++ ys)))) else .stuck
  | _, _ => .stuck) ρ := rfl
@[simp] theorem mLenV_ap : mLenV i ρ = match lsAt i ρ with
  | some xs => .ok (.int xs.length) ρ
  | none => .stuck := rfl
theorem lsAt_ap : lsAt i ρ = match ρ[i]? with
  | some (some (.l xs)) => some xs
  | _ => none := rfl
end
section
variable (i j : Int) (a b : Bool) (x y : Str) (xs ys : List PyData) (d : PyData)
@[simp] theorem oAdd_i : oAdd (.int i) (.int j) = some (.int (i + j)) := rfl
@[simp] theorem oSub_i : oSub (.int i) (.int j) = some (.int (i - j)) := rfl
@[simp] theorem oMul_i : oMul (.int i) (.int j) = if mulOk i j = true then some (.int (i * j)) else none := rfl
@[simp] theorem oDiv_i : oDiv (.int i) (.int j) = if divOk j = true then some (.int (i / j)) else none := rfl
@[simp] theorem oMod_i : oMod (.int i) (.int j) = if 0 < j then some (.int (i % j)) else none := rfl
@[simp] theorem oShl_i : oShl (.int i) (.int j) = if shlOk i j = true then some (.int (i * 2 ^ j.toNat)) else none := rfl
@[simp] theorem oShr_i : oShr (.int i) (.int j) = if 0 ≤ j then some (.int (i / 2 ^ j.toNat)) else none := rfl
@[simp] theorem oPow_i : oPow (.int i) (.int j) = if powOk i j = true then some (.int (i ^ j.toNat)) else none := rfl
@[simp] theorem oAnd_i : oAnd (.int i) (.int j) = some (.int (Builtin.bitAnd i j)) := rfl
@[simp] theorem oOr_i : oOr (.int i) (.int j) = some (.int (Builtin.bitOr i j)) := rfl
@[simp] theorem oNeg_i : oNeg (.int i) = some (.int (-i)) := rfl
@[simp] theorem oLt_i : oLt (.int i) (.int j) = some (decide (i < j)) := rfl
@[simp] theorem oLe_i : oLe (.int i) (.int j) = some (decide (i ≤ j)) := rfl
@[simp] theorem oGt_i : oGt (.int i) (.int j) = some (decide (j < i)) := rfl
@[simp] theorem oGe_i : oGe (.int i) (.int j) = some (decide (j ≤ i)) := rfl
@[simp] theorem oEq_i : oEq (.int i) (.int j) = some (decide (i = j)) := by
  show some (PyData.eqv (.int i) (.int j)) = _
  rfl
@[simp] theorem oNe_i : oNe (.int i) (.int j) = some (!decide (i = j)) := by
  show some (!PyData.eqv (.int i) (.int j)) = _
  rfl
@[simp] theorem oIsX_n : oIsX d .none = some (isNone d) := rfl
@[simp] theorem oNotX_n : oNotX d .none = some (!isNone d) := rfl
@[simp] theorem isNone_i : isNone (.int i) = false := rfl
@[simp] theorem isNone_n : isNone .none = true := rfl
@[simp] theorem isNone_l : isNone (.list xs) = false := rfl
@[simp] theorem isNone_t : isNone (.tuple xs) = false := rfl
@[simp] theorem oLen_l : oLen (.list xs) = some (.int xs.length) := rfl
@[simp] theorem oLen_t : oLen (.tuple xs) = some (.int xs.length) := rfl
@[simp] theorem oAbs_i : oAbs (.int i) = some (.int (if i < 0 then -i else i)) := rfl
@[simp] theorem oInt_i : oInt (.int i) = some (.int i) := rfl
@[simp] theorem oInt_b : oInt (.bool a) = some (.int (if a then 1 else 0)) := rfl
@[simp] theorem oMax_i : oMax (.int i) (.int j) = some (.int (if j > i then j else i)) := rfl
@[simp] theorem oMin_i : oMin (.int i) (.int j) = some (.int (if j < i then j else i)) := rfl
@[simp] theorem truD_b : truD (.bool a) = some a := rfl
@[simp] theorem truD_i : truD (.int i) = some (i != 0) := rfl
@[simp] theorem truD_l : truD (.list xs) = some (!xs.isEmpty) := rfl
@[simp] theorem truD_t : truD (.tuple xs) = some (!xs.isEmpty) := rfl
@[simp] theorem oIx_l : oIx (.list xs) (.int i) = atI xs i := rfl
@[simp] theorem oIx_t : oIx (.tuple xs) (.int i) = atI xs i := rfl
@[simp] theorem oIsi_i (t : Ty) : oIsi t (.int i) = some (.bool (isTy t (.int i))) := rfl
@[simp] theorem oIsi_b (t : Ty) : oIsi t (.bool a) = some (.bool (isTy t (.bool a))) := rfl
@[simp] theorem oIsi_s (t : Ty) : oIsi t (.str x) = some (.bool (isTy t (.str x))) := rfl
@[simp] theorem oIsi_n (t : Ty) : oIsi t .none = some (.bool (isTy t .none)) := rfl
@[simp] theorem oIsi_l (t : Ty) : oIsi t (.list xs) = some (.bool (isTy t (.list xs))) := rfl
@[simp] theorem oIsi_t (t : Ty) : oIsi t (.tuple xs) = some (.bool (isTy t (.tuple xs))) := rfl
@[simp] theorem oIsi2_i (t u : Ty) : oIsi2 t u (.int i) = some (.bool (isTy t (.int i) || isTy u (.int i))) := rfl
@[simp] theorem oIsi2_b (t u : Ty) : oIsi2 t u (.bool a) = some (.bool (isTy t (.bool a) || isTy u (.bool a))) := rfl
@[simp] theorem oIsi2_s (t u : Ty) : oIsi2 t u (.str x) = some (.bool (isTy t (.str x) || isTy u (.str x))) := rfl
@[simp] theorem oIsi2_n (t u : Ty) : oIsi2 t u .none = some (.bool (isTy t .none || isTy u .none)) := rfl
@[simp] theorem oIsi2_l (t u : Ty) : oIsi2 t u (.list xs) = some (.bool (isTy t (.list xs) || isTy u (.list xs))) := rfl
@[simp] theorem oIsi2_t (t u : Ty) : oIsi2 t u (.tuple xs) = some (.bool (isTy t (.tuple xs) || isTy u (.tuple xs))) := rfl
@[simp] theorem isTy_ii : isTy .int (.int i) = true := rfl
@[simp] theorem isTy_bi : isTy .bool (.int i) = false := rfl
@[simp] theorem isTy_si : isTy .str (.int i) = false := rfl
@[simp] theorem isTy_li : isTy .list (.int i) = false := rfl
@[simp] theorem isTy_ti : isTy .tuple (.int i) = false := rfl
@[simp] theorem isTy_ib : isTy .int (.bool a) = true := rfl
@[simp] theorem isTy_bb : isTy .bool (.bool a) = true := rfl
@[simp] theorem isTy_sb : isTy .str (.bool a) = false := rfl
@[simp] theorem isTy_lb : isTy .list (.bool a) = false := rfl
@[simp] theorem isTy_tb : isTy .tuple (.bool a) = false := rfl
@[simp] theorem isTy_ll : isTy .list (.list xs) = true := rfl
@[simp] theorem isTy_tl : isTy .tuple (.list xs) = false := rfl
@[simp] theorem isTy_il : isTy .int (.list xs) = false := rfl
@[simp] theorem isTy_bl : isTy .bool (.list xs) = false := rfl
@[simp] theorem isTy_sl : isTy .str (.list xs) = false := rfl
@[simp] theorem isTy_lt : isTy .list (.tuple xs) = false := rfl
@[simp] theorem isTy_tt : isTy .tuple (.tuple xs) = true := rfl
@[simp] theorem isTy_it : isTy .int (.tuple xs) = false := rfl
@[simp] theorem isTy_bt : isTy .bool (.tuple xs) = false := rfl
@[simp] theorem isTy_st : isTy .str (.tuple xs) = false := rfl
@[simp] theorem isTy_ls : isTy .list (.str x) = false := rfl
@[simp] theorem isTy_ts : isTy .tuple (.str x) = false := rfl
@[simp] theorem isTy_is : isTy .int (.str x) = false := rfl
@[simp] theorem isTy_bs : isTy .bool (.str x) = false := rfl
@[simp] theorem isTy_ss : isTy .str (.str x) = true := rfl
@[simp] theorem isTy_n (t : Ty) : isTy t .none = false := by cases t <;> rfl
end
/-! ## the sizes that the model asks for -/
theorem bits_le {x : Int} {p : Nat} : Builtin.Int.intBits x ≤ p ↔ x.natAbs < 2 ^ p := by
  unfold Builtin.Int.intBits
  by_cases h : x = 0
  · subst h
    simp [Nat.two_pow_pos]
  · have h' : (x == 0) = false := by simpa using h
    rw [h', if_neg Bool.false_ne_true]
    have hn : x.natAbs ≠ 0 := by simpa using h
    rw [Nat.succ_le_iff, Nat.log2_lt hn]
theorem mulOk_of {i j : Int} {p q : Nat} (hi : Builtin.Int.intBits i ≤ p) (hj : Builtin.Int.intBits j ≤ q) (h : p + q ≤ 134217728) : mulOk i j = true := by
  unfold mulOk
  exact decide_eq_true (by omega)
theorem bits_lt {x : Int} {p : Nat} (h1 : -(2 ^ p : Int) < x) (h2 : x < 2 ^ p) : Builtin.Int.intBits x ≤ p := by
  rw [bits_le]
  have e : ((2 ^ p : Nat) : Int) = (2 : Int) ^ p := by norm_cast
  omega
theorem bits_add {x y : Int} {p : Nat} (hx : Builtin.Int.intBits x ≤ p) (hy : Builtin.Int.intBits y ≤ p) : Builtin.Int.intBits (x + y) ≤ p + 1 := by
  rw [bits_le] at *
  rw [Nat.pow_succ]
  omega
theorem bits_mul {x y : Int} {p q : Nat} (hx : Builtin.Int.intBits x ≤ p) (hy : Builtin.Int.intBits y ≤ q) : Builtin.Int.intBits (x * y) ≤ p + q := by
  rw [bits_le] at *
  rw [Int.natAbs_mul, Nat.pow_add]
  exact Nat.mul_lt_mul'' hx hy
theorem divOk_of {j : Int} {p : Nat} (h0 : 0 < j) (h : j < 2 ^ p) (hp : p ≤ 9000) : divOk j = true := by
  unfold divOk
  rw [Bool.and_eq_true]
  refine ⟨decide_eq_true h0, decide_eq_true ?_⟩
  have hn : j.natAbs ≠ 0 := by omega
  have e : ((2 ^ p : Nat) : Int) = (2 : Int) ^ p := by norm_cast
  have h2 : j.natAbs < 2 ^ p := by omega
  have h3 := (Nat.log2_lt hn).mpr h2
  omega
end DL

set_option linter.all false
set_option maxRecDepth 100000
namespace DL
open PySem PySem.Spec L2
abbrev dI (i : Int) : Option C := some (.d (.int i))
/-! ## evaluation -/
@[simp] theorem okSl_1 (c : C) (h : c.own = false := by rfl) : okSl 1 [0] [some c] = true := by
  unfold okSl; simp [List.range, List.range.loop]
theorem atI_3_0 (a b c : PyData) : atI [a, b, c] 0 = some a := rfl
theorem atI_3_1 (a b c : PyData) : atI [a, b, c] 1 = some b := rfl
theorem atI_3_2 (a b c : PyData) : atI [a, b, c] 2 = some c := rfl
theorem ixOf_3_0 : ixOf 3 (.int 0) = some 0 := rfl
theorem ixOf_3_1 : ixOf 3 (.int 1) = some 1 := rfl
theorem ixOf_3_2 : ixOf 3 (.int 2) = some 2 := rfl
/-- the source of draws behind n draws -/
def Tin (n : Nat) (t : List PyData) : Prop := ∃ a b c : Int, t = [.int a, .int b, .int c] ∧ 0 ≤ a ∧ Builtin.Int.intBits a ≤ 2000000 ∧ 0 ≤ b ∧ b < 2 ^ 62 ∧ 0 ≤ c ∧ c ≤ n
theorem Tin.mono {n m : Nat} {t : List PyData} (h : Tin n t) (l : n ≤ m) : Tin m t := by
  obtain ⟨a, b, c, h1, h2, h3, h4, h5, h6, h7⟩ := h
  exact ⟨a, b, c, h1, h2, h3, h4, h5, h6, by omega⟩
theorem bits_div {a k : Int} {p : Nat} (h0 : 0 ≤ a) (hk : 0 < k) (h : Builtin.Int.intBits a ≤ p) : Builtin.Int.intBits (a / k) ≤ p := by
  rw [bits_le] at *
  have h1 : a / k ≤ a := Int.ediv_le_self _ h0
  have h2 : 0 ≤ a / k := Int.ediv_nonneg h0 (Int.le_of_lt hk)
  omega
end DL
namespace DL
open PySem PySem.Spec L2
theorem bits_s {i : Int} (h1 : -10000000000000000000000000000000000000000 < i) (h2 : i < 10000000000000000000000000000000000000000) : Builtin.Int.intBits i ≤ 140 := by
  rw [bits_le]
  have e : (2 : Nat) ^ 140 = 1393796574908163946345982392040522594123776 := by decide +kernel
  rw [e]
  omega
theorem mulOk_s {i j : Int} (h1 : -10000000000000000000000000000000000000000 < i) (h2 : i < 10000000000000000000000000000000000000000) (h3 : -10000000000000000000000000000000000000000 < j) (h4 : j < 10000000000000000000000000000000000000000) : mulOk i j = true := mulOk_of (bits_s h1 h2) (bits_s h3 h4) (by decide)
theorem divOk_b {j : Int} {p : Nat} (h0 : 0 < j) (h : Builtin.Int.intBits j ≤ p) (hp : p ≤ 9000) : divOk j = true := by
  rw [bits_le] at h
  unfold divOk
  rw [Bool.and_eq_true]
  refine ⟨decide_eq_true h0, decide_eq_true ?_⟩
  have hn : j.natAbs ≠ 0 := by omega
  have h3 := (Nat.log2_lt hn).mpr h
  omega
theorem divOk_s {j : Int} (h0 : 0 < j) (h : j < 10000000000000000000000000000000000000000) : divOk j = true := divOk_b h0 (bits_s (by omega) h) (by decide)
end DL
namespace DL
open PySem PySem.Spec L2
@[simp] theorem mYes_ap (ρ : Sl) : mYes ρ = .ok true ρ := rfl
@[simp] theorem oEq_b (a b : Bool) : oEq (.bool a) (.bool b) = some (decide (a = b)) := by cases a <;> cases b <;> rfl
@[simp] theorem oNe_b (a b : Bool) : oNe (.bool a) (.bool b) = some (!decide (a = b)) := by cases a <;> cases b <;> rfl
@[simp] theorem oEq_ss (s : Str) : oEq (.str s) (.str s) = some true := by
  show some (PyData.eqv (.str s) (.str s)) = some true
  simp [PyData.eqv]
theorem boolsD_map (xs : List PyData) : boolsD (xs.map fun _ => .bool true) = some (xs.map fun _ => true) := by
  induction xs with
  | nil => rfl
  | cons x r ih => rw [List.map_cons, boolsD, ih]; rfl
theorem oAll_map (xs : List PyData) : oAll (.list (xs.map fun _ => .bool true)) = some (.bool true) := by
  show (boolsD _).map _ = _
  rw [boolsD_map]
  simp
@[simp] theorem isNone_b (a : Bool) : isNone (.bool a) = false := rfl
@[simp] theorem isNone_s (a : Str) : isNone (.str a) = false := rfl
@[simp] theorem mLc_ap (vs : List Nat) (mi : M (List PyData)) (g : PyData → M Unit) (t : M Bool) (e : M PyData) (ρ : Sl) : mLc vs mi g t e ρ = (mi ρ).then fun xs => fun ρ => if noOwn vs ρ then (match mLcL vs g t e xs [] (wipeS ρ vs) with
    | .ok acc ρ' => .ok (.l acc) (restS vs ρ ρ')
    | .err _ _ => .stuck
    | .stuck => .stuck) else .stuck := rfl
@[simp] theorem mZip_ap (m m' : M PyData) (ρ : Sl) : mZip m m' ρ = (m ρ).then fun x => M.bind m' fun y => M.of (oZip x y) := rfl
@[simp] theorem oZip_l (xs ys : List PyData) : oZip (.list xs) (.list ys) = some (zipL xs ys) := rfl
@[simp] theorem oZip_t (xs ys : List PyData) : oZip (.tuple xs) (.tuple ys) = some (zipL xs ys) := rfl
/-- how deep data is nested -/
def dep : PyData → Nat
  | .list xs => depL xs + 1
  | .tuple xs => depL xs + 1
  | _ => 0
where depL : List PyData → Nat
  | [] => 0
  | x :: r => max (dep x) (depL r)
def plainD : PyData → Bool
  | .list xs => decide (xs.length ≤ sizeLine) && plainL xs
  | .tuple xs => decide (xs.length ≤ sizeLine) && plainL xs
  | .dict _ => false
  | _ => true
where plainL : List PyData → Bool
  | [] => true
  | x :: r => plainD x && plainL r
end DL
namespace DL
open PySem PySem.Spec L2
theorem shlOk_b {i k : Int} {p : Nat} (h0 : 0 ≤ k) (hi : Builtin.Int.intBits i ≤ p) (h : (p : Int) + k ≤ 134217728) : shlOk i k = true := by
  unfold shlOk
  rw [Bool.and_eq_true]
  exact ⟨decide_eq_true h0, decide_eq_true (by omega)⟩
theorem shlOk_1 {k : Int} (h0 : 0 ≤ k) (h1 : k ≤ 100000000) : shlOk 1 k = true := shlOk_b (p := 1) h0 (by decide) (by omega)
theorem atI_nat {α : Type} {xs : List α} {v : Int} (h : 0 ≤ v) (hv : v.toNat < xs.length) : atI xs v = some (xs[v.toNat]) := by
  unfold atI ixN
  rw [if_pos h, if_pos (by omega)]
  simp [hv]
end DL
namespace DL
open PySem PySem.Spec L2
/-! ## loops by an invariant -/
theorem sForL_inv {g : PyData → M Unit} {b : M Fl} : ∀ {xs : List PyData} {ρ : Sl} (I : Nat → Sl → Prop), I 0 ρ →
    (∀ i x ρ, xs[i]? = some x → I i ρ → ∃ ρ', M.bind (g x) (fun _ => b) ρ = .ok .nx ρ' ∧ I (i + 1) ρ') → ∃ ρ', sForL g b xs ρ = .ok .nx ρ' ∧ I xs.length ρ'
  | [], ρ, I, h0, _ => ⟨ρ, rfl, h0⟩
  | x :: r, ρ, I, h0, hs => by
    obtain ⟨ρ1, e1, h1⟩ := hs 0 x ρ rfl h0
    obtain ⟨ρ2, e2, h2⟩ := sForL_inv (g := g) (b := b) (xs := r) (ρ := ρ1) (fun i => I (i + 1)) h1 fun i y ρ' hy hi => hs (i + 1) y ρ' (by simpa using hy) hi
    refine ⟨ρ2, ?_, h2⟩
    have e1' : (g x ρ).then (fun _ => b) = .ok .nx ρ1 := e1
    show (g x ρ).then (fun _ => M.bind b fun fl => match fl with
      | .nx => sForL g b r
      | .ct => sForL g b r
      | .bk => M.pure .nx
      | .rt c => M.pure (.rt c)) = _
    cases hg : g x ρ with
    | ok u ρ0 =>
      rw [hg] at e1'
      have e3 : b ρ0 = .ok .nx ρ1 := e1'
      show (b ρ0).then _ = _
      rw [e3]
      exact e2
    | err e ρ0 => rw [hg] at e1'; cases e1'
    | stuck => rw [hg] at e1'; cases e1'
/-- one turn of a comprehension -/
def lcStep (g : PyData → M Unit) (t : M Bool) (e : M PyData) (x : PyData) : M (Option PyData) := M.bind (g x) fun _ => M.bind t fun k => if k = true then M.bind e fun y => M.pure (some y) else M.pure none
theorem mLcL_step {vs : List Nat} {g : PyData → M Unit} {t : M Bool} {e : M PyData} {x : PyData} {r acc : List PyData} {ρ ρ' : Sl} {o : Option PyData} (h : lcStep g t e x ρ = .ok o ρ') (hl : acc.length < sizeLine) :
    mLcL vs g t e (x :: r) acc ρ = mLcL vs g t e r (acc ++ o.toList) (wipeS ρ' vs) := by
  have h' : (g x ρ).then (fun _ => M.bind t fun k => if k = true then M.bind e fun y => M.pure (some y) else M.pure none) = .ok o ρ' := h
  show (g x ρ).then (fun _ => M.bind t fun k => if k = true then M.bind e fun y => fun ρ => if acc.length < sizeLine then mLcL vs g t e r (acc ++ [y]) (wipeS ρ vs) else .stuck else fun ρ => mLcL vs g t e r acc (wipeS ρ vs)) = _
  cases hg : g x ρ with
  | ok u ρ0 =>
    rw [hg] at h'
    have h2 : (t ρ0).then (fun k => if k = true then M.bind e fun y => M.pure (some y) else M.pure none) = .ok o ρ' := h'
    show (t ρ0).then _ = _
    cases ht : t ρ0 with
    | ok k ρ1 =>
      rw [ht] at h2
      cases k with
      | false =>
        cases h2
        rw [then_ok, if_neg Bool.false_ne_true, Option.toList_none, List.append_nil]
      | true =>
        have h3 : (e ρ1).then (fun y => M.pure (some y)) = .ok o ρ' := h2
        show (e ρ1).then (fun y => fun ρ => if acc.length < sizeLine then mLcL vs g t e r (acc ++ [y]) (wipeS ρ vs) else .stuck) = _
        cases he : e ρ1 with
        | ok y ρ2 =>
          rw [he] at h3
          cases h3
          show (if acc.length < sizeLine then _ else _) = _
          rw [if_pos hl]
          rfl
        | err _ _ => rw [he] at h3; cases h3
        | stuck => rw [he] at h3; cases h3
    | err _ _ => rw [ht] at h2; cases h2
    | stuck => rw [ht] at h2; cases h2
  | err _ _ => rw [hg] at h'; cases h'
  | stuck => rw [hg] at h'; cases h'
theorem mLcL_inv {vs : List Nat} {g : PyData → M Unit} {t : M Bool} {e : M PyData} : ∀ {xs acc : List PyData} {ρ : Sl} (I : Nat → List PyData → Sl → Prop), I 0 acc ρ → acc.length + xs.length ≤ sizeLine →
    (∀ i x acc ρ, xs[i]? = some x → I i acc ρ → ∃ o ρ', lcStep g t e x ρ = .ok o ρ' ∧ I (i + 1) (acc ++ o.toList) (wipeS ρ' vs)) → ∃ acc' ρ', mLcL vs g t e xs acc ρ = .ok acc' ρ' ∧ I xs.length acc' ρ'
  | [], acc, ρ, I, h0, _, _ => ⟨acc, ρ, rfl, h0⟩
  | x :: r, acc, ρ, I, h0, hl, hs => by
    obtain ⟨o, ρ1, e1, h1⟩ := hs 0 x acc ρ rfl h0
    rw [List.length_cons] at hl
    have ho : o.toList.length ≤ 1 := by cases o <;> simp
    obtain ⟨acc2, ρ2, e2, h2⟩ := mLcL_inv (vs := vs) (g := g) (t := t) (e := e) (xs := r) (acc := acc ++ o.toList) (ρ := wipeS ρ1 vs) (fun i => I (i + 1)) h1 (by rw [List.length_append]; omega) fun i y acc ρ' hy hi => hs (i + 1) y acc ρ' (by simpa using hy) hi
    exact ⟨acc2, ρ2, by rw [mLcL_step e1 (by omega)]; exact e2, h2⟩
@[simp] theorem sFor_ap (mi : M (List PyData)) (g : PyData → M Unit) (b : M Fl) (ρ : Sl) : sFor mi g b ρ = (mi ρ).then fun xs => sForL g b xs := rfl
@[simp] theorem mEnum_ap (m : M PyData) (ρ : Sl) : mEnum m ρ = (m ρ).then fun x => M.of (oEnum x) := rfl
@[simp] theorem oEnum_l (xs : List PyData) : oEnum (.list xs) = some (enumL xs) := rfl
@[simp] theorem mItems_ap (m : M PyData) (ρ : Sl) : mItems m ρ = (m ρ).then fun x => M.of (items x) := rfl
@[simp] theorem items_l (xs : List PyData) : items (.list xs) = some xs := rfl
@[simp] theorem items_t (xs : List PyData) : items (.tuple xs) = some xs := rfl
@[simp] theorem mRng1_ap (m : M PyData) (ρ : Sl) : mRng1 m ρ = (m ρ).then fun x => M.of (oRng1 x) := rfl
@[simp] theorem mRng2_ap (m m' : M PyData) (ρ : Sl) : mRng2 m m' ρ = (m ρ).then fun x => M.bind m' fun y => M.of (oRng2 x y) := rfl
theorem oRng1_i {j : Int} (h : -4611686018427387904 ≤ j) (h2 : j < 4611686018427387904) : oRng1 (.int j) = some (intsL 0 j.toNat) := by
  show (if -(2 ^ 62) ≤ j ∧ j < 2 ^ 62 then some (intsL 0 j.toNat) else none) = _
  rw [if_pos ⟨by omega, by omega⟩]
@[simp] theorem mSl_ap (m : M PyData) (lo hi : M (Option Int)) (ρ : Sl) : mSl m lo hi ρ = (m ρ).then fun x => M.bind lo fun l => M.bind hi fun u => M.of (oSl x l u) := rfl
@[simp] theorem pNo_ap (ρ : Sl) : pNo ρ = .ok none ρ := rfl
@[simp] theorem pInt_ap (m : M PyData) (ρ : Sl) : pInt m ρ = (m ρ).then fun d => match d with
  | .int i => M.pure (some i)
  | _ => M.stuck := rfl
@[simp] theorem oSl_l (xs : List PyData) (lo hi : Option Int) : oSl (.list xs) lo hi = some (.l (cutL xs lo hi)) := rfl
@[simp] theorem oSl_t (xs : List PyData) (lo hi : Option Int) : oSl (.tuple xs) lo hi = some (.d (.tuple (cutL xs lo hi))) := rfl
@[simp] theorem mOrC_ap (a b : M C) (ρ : Sl) : mOrC a b ρ = (a ρ).then fun c => match truC c with
  | some true => M.pure c
  | some false => b
  | none => M.stuck := rfl
@[simp] theorem truC_l (xs : List PyData) : truC (.l xs) = some (!xs.isEmpty) := rfl
@[simp] theorem oListC_l (xs : List PyData) : oListC (.list xs) = some (.l xs) := rfl
@[simp] theorem oListC_t (xs : List PyData) : oListC (.tuple xs) = some (.l xs) := rfl
theorem cut_hi {α : Type} {xs : List α} {k : Int} (h : 0 ≤ k) : cutL xs none (some k) = xs.take k.toNat := by
  unfold cutL
  rw [HT.sIx_none, List.drop_zero, Nat.sub_zero]
  obtain ⟨n, rfl⟩ := Int.eq_ofNat_of_zero_le h
  rw [HT.sIx_nat, Int.toNat_natCast, ← List.take_eq_take_min]
theorem mem_cut {α : Type} {xs : List α} {lo hi : Option Int} {x : α} (h : x ∈ cutL xs lo hi) : x ∈ xs := List.mem_of_mem_drop (List.mem_of_mem_take h)
theorem enumL_at' {xs : List PyData} {i : Nat} {d : PyData} (h : (enumL xs)[i]? = some d) : ∃ x, xs[i]? = some x ∧ d = .tuple [.int (i : Int), x] := by
  unfold enumL at h
  rw [List.getElem?_zipWith] at h
  cases e : xs[i]? with
  | none => rw [e] at h; cases h1 : (List.range xs.length)[i]? <;> (rw [h1] at h; cases h)
  | some x =>
    have hi := (List.getElem?_eq_some_iff.mp e).1
    rw [e, List.getElem?_range hi] at h
    exact ⟨x, rfl, (Option.some.inj h).symm⟩
theorem intsL_at {lo : Int} {n i : Nat} {d : PyData} (h : (intsL lo n)[i]? = some d) : i < n ∧ d = .int (lo + i) := by
  unfold intsL at h
  have hi : i < n := by
    have := (List.getElem?_eq_some_iff.mp h).1
    rwa [List.length_map, List.length_range] at this
  rw [List.getElem?_map, List.getElem?_range hi] at h
  exact ⟨hi, (Option.some.inj h).symm⟩
@[simp] theorem intsL_len (lo : Int) (n : Nat) : (intsL lo n).length = n := by unfold intsL; rw [List.length_map, List.length_range]
end DL
namespace DL
open PySem PySem.Spec L2
theorem bits_nat (x : Int) : Builtin.Int.intBits x = if x.natAbs = 0 then 0 else x.natAbs.log2 + 1 := by
  unfold Builtin.Int.intBits
  by_cases h : x = 0
  · subst h; rfl
  · have h1 : (x == 0) = false := by simpa using h
    have h2 : x.natAbs ≠ 0 := by omega
    rw [h1, if_neg Bool.false_ne_true, if_neg h2]
theorem bits_abs {x : Int} : Builtin.Int.intBits (if x < 0 then -x else x) = Builtin.Int.intBits x := by
  by_cases h : x < 0
  · rw [if_pos h, bits_nat, bits_nat, Int.natAbs_neg]
  · rw [if_neg h]
theorem bits_mod {a k : Int} {p : Nat} (hk : 0 < k) (h : Builtin.Int.intBits k ≤ p) : Builtin.Int.intBits (a % k) ≤ p := by
  rw [bits_le] at *
  have h1 := Int.emod_nonneg a (Int.ne_of_gt hk)
  have h2 := Int.emod_lt_of_pos a hk
  omega
theorem bits_small {i : Int} (h1 : -1000000000000 ≤ i) (h2 : i ≤ 1000000000000) : Builtin.Int.intBits i ≤ 41 := by
  rw [bits_le]
  have e : (2 : Nat) ^ 41 = 2199023255552 := by decide +kernel
  rw [e]
  omega
end DL
namespace DL
open PySem PySem.Spec L2
theorem ixOf_nat {n : Nat} {v : Int} (h : 0 ≤ v) (hv : v < n) : ixOf n (.int v) = some v.toNat := by
  show ixN n v = _
  unfold ixN
  rw [if_pos h, if_pos hv]
theorem atI_ints {xs : List Int} {v : Int} (h : 0 ≤ v) (hv : v.toNat < xs.length) : atI (xs.map PyData.int) v = some (.int (xs[v.toNat])) := by
  rw [atI_nat h (by rw [List.length_map]; exact hv), List.getElem_map]
theorem mapI_set {xs : List Int} {k : Nat} {v : Int} : (xs.map PyData.int).set k (.int v) = (xs.set k v).map PyData.int := by rw [List.map_set]
theorem mem_ints {xs : List Int} {lo hi : Option Int} {d : PyData} (h : d ∈ cutL (xs.map PyData.int) lo hi) : ∃ z ∈ xs, d = .int z := by
  obtain ⟨z, hz, e⟩ := List.mem_map.mp (mem_cut h)
  exact ⟨z, hz, e.symm⟩
theorem cut_len0 {α : Type} {xs : List α} {m : Int} {hi : Option Int} (h0 : 0 ≤ m) (h : (xs.length : Int) ≤ m) : cutL xs (some m) hi = [] := by
  unfold cutL
  obtain ⟨n, rfl⟩ := Int.eq_ofNat_of_zero_le h0
  rw [HT.sIx_nat, List.drop_eq_nil_of_le (by omega), List.take_nil]
theorem cut_len {α : Type} {xs : List α} {lo hi : Option Int} : (cutL xs lo hi).length ≤ xs.length := by
  unfold cutL
  rw [List.length_take, List.length_drop]
  omega
end DL
namespace DL
theorem two_le_pow {n : Nat} (h : 1 ≤ n) : (2 : Int) ≤ 2 ^ n := by
  obtain ⟨m, rfl⟩ := Nat.exists_eq_add_of_le h
  rw [Nat.add_comm, Int.pow_succ]
  have : (1 : Int) ≤ 2 ^ m := (show (0 : Int) < _ from Int.pow_pos (by decide))
  omega
theorem one_le_pow (n : Nat) : (1 : Int) ≤ 2 ^ n := (show (0 : Int) < _ from Int.pow_pos (by decide))
theorem pow_le_pow {n m : Nat} (h : n ≤ m) : (2 : Int) ^ n ≤ 2 ^ m := by
  obtain ⟨k, rfl⟩ := Nat.exists_eq_add_of_le h
  rw [Int.pow_add]
  have h1 := one_le_pow n
  have h2 := one_le_pow k
  have := Int.mul_le_mul_of_nonneg_left h2 (by omega : 0 ≤ (2 : Int) ^ n)
  omega
theorem pow_le64 {n : Nat} (h : n ≤ 64) : (2 : Int) ^ n ≤ 18446744073709551616 := pow_le_pow h
end DL
namespace DL
open PySem PySem.Spec L2
theorem sizeL_lt {n : Nat} (h : n ≤ 1000) : n < sizeLine := Nat.lt_of_le_of_lt h (by decide)
theorem atI_last (xs : List Int) (y : Int) : atI ((xs ++ [y]).map PyData.int) (-1) = some (.int y) := by
  unfold atI ixN
  have hl : ((xs ++ [y]).map PyData.int).length = xs.length + 1 := by simp
  rw [hl, if_neg (by decide), if_pos (by omega)]
  have e : (-1 + ((xs.length + 1 : Nat) : Int)).toNat = xs.length := by omega
  show ((xs ++ [y]).map PyData.int)[(-1 + ((xs.length + 1 : Nat) : Int)).toNat]? = _
  rw [e]
  simp
end DL
namespace DL
open PySem PySem.Spec L2
theorem sWhileN_mono {t : M Bool} {b : M Fl} : ∀ {n m : Nat} {ρ : Sl}, n ≤ m → ¬ (sWhileN t b n ρ).bad → sWhileN t b m ρ = sWhileN t b n ρ
  | 0, _, ρ, _, h => absurd trivial h
  | n + 1, 0, ρ, h, _ => absurd h (Nat.not_succ_le_zero _)
  | n + 1, m + 1, ρ, hl, h => by
    have go : ∀ k, sWhileN t b (k + 1) ρ = (t ρ).then fun c => if c = true then M.bind b fun fl => match fl with
      | .nx => sWhileN t b k
      | .ct => sWhileN t b k
      | .bk => M.pure .nx
      | .rt c => M.pure (.rt c)
      else M.pure .nx := fun k => rfl
    rw [go n] at h ⊢
    rw [go m]
    cases ht : t ρ with
    | err e ρ1 => rfl
    | stuck => rfl
    | ok c ρ1 =>
      rw [ht] at h
      cases c with
      | false => rfl
      | true =>
        have go2 : ∀ k, ((Res.ok true ρ1).then fun c => if c = true then M.bind b fun fl => match fl with
          | .nx => sWhileN t b k
          | .ct => sWhileN t b k
          | .bk => M.pure .nx
          | .rt c => M.pure (.rt c)
          else M.pure .nx) = (b ρ1).then fun fl => match fl with
          | .nx => sWhileN t b k
          | .ct => sWhileN t b k
          | .bk => M.pure .nx
          | .rt c => M.pure (.rt c) := fun k => rfl
        rw [go2 n] at h ⊢
        rw [go2 m]
        cases hb : b ρ1 with
        | err e ρ2 => rfl
        | stuck => rfl
        | ok fl ρ2 =>
          rw [hb] at h
          cases fl with
          | nx => exact sWhileN_mono (Nat.le_of_succ_le_succ hl) h
          | ct => exact sWhileN_mono (Nat.le_of_succ_le_succ hl) h
          | bk => rfl
          | rt c => rfl
theorem sWhile_eq {t : M Bool} {b : M Fl} {n : Nat} {ρ ρ' : Sl} {fl : Fl} (h : sWhileN t b n ρ = .ok fl ρ') : sWhile t b ρ = .ok fl ρ' := by
  have hn : ¬ (sWhileN t b n ρ).bad := by rw [h]; exact fun z => z
  unfold sWhile
  have hx : ∃ n, ¬ (sWhileN t b n ρ).bad := ⟨n, hn⟩
  rw [dif_pos hx]
  have hc := hx.choose_spec
  rcases Nat.le_total n hx.choose with l | l
  · rw [sWhileN_mono l hn, h]
  · rw [← sWhileN_mono l hc, h]
end DL
namespace DL
open PySem PySem.Spec L2
theorem seq_ok {a b : M Fl} {ρ ρ1 : Sl} (h : a ρ = .ok .nx ρ1) : sSeq a b ρ = b ρ1 := by
  rw [sSeq_ap, h]; rfl
theorem bind_ok {α β : Type} {a : M α} {f : α → M β} {ρ ρ1 : Sl} {x : α} (h : a ρ = .ok x ρ1) : M.bind a f ρ = f x ρ1 := by
  rw [bind_ap, h]; rfl
theorem plain_1 (a : Int) : plainD (.int a) = true := rfl
theorem size3 : 3 ≤ sizeLine := by decide
theorem plain_l2 (a b : Int) : plainD (.list [.int a, .int b]) = true := by
  show (decide (2 ≤ sizeLine) && true) = true
  rw [Bool.and_true]; decide
theorem plain_l3 (a b c : Int) : plainD (.list [.int a, .int b, .int c]) = true := by
  show (decide (3 ≤ sizeLine) && true) = true
  rw [Bool.and_true]; decide
theorem dep_l2 (a b : Int) : dep (.list [.int a, .int b]) = 1 := rfl
theorem dep_l3 (a b c : Int) : dep (.list [.int a, .int b, .int c]) = 1 := rfl
end DL
namespace DL
open PySem PySem.Spec L2
theorem rgOk_s {j : Int} (h0 : 0 ≤ j) (h : j ≤ 16777216) : rgOk 0 j = true := by
  unfold rgOk
  simp only [Bool.and_eq_true, decide_eq_true_eq]
  refine ⟨⟨⟨⟨by decide, by decide⟩, by omega⟩, by omega⟩, by omega⟩
theorem rgL_mem {a b : Int} {g : PyData} (h : g ∈ rgL a b) : ∃ x : Int, g = .int x ∧ a ≤ x ∧ x < b := by
  unfold rgL at h
  obtain ⟨i, hi, rfl⟩ := List.mem_map.mp h
  have := List.mem_range.mp hi
  exact ⟨_, rfl, by omega, by omega⟩
@[simp] theorem mLstRg1_ap (m : M PyData) (ρ : Sl) : mLstRg1 m ρ = (m ρ).then fun x => M.of (match x with
  | .int j => if rgOk 0 j then some (.l (rgL 0 j)) else none
  | _ => none) := rfl
@[simp] theorem mCat_ap (a b : M C) (ρ : Sl) : mCat a b ρ = (a ρ).then fun x => M.bind b fun y => M.of (oCat x y) := rfl
theorem oCat_l {xs ys : List PyData} (h : xs.length + ys.length ≤ sizeLine) : oCat (.l xs) (.l ys) = some (.l (xs ++ ys)) := by
  show (if xs.length + ys.length ≤ sizeLine then some (C.l (xs ++ ys)) else none) = _
  rw [if_pos h]
end DL

set_option linter.all false
set_option maxRecDepth 100000
namespace DL
open PySem PySem.Spec L2
/-! ## whole numbers -/
/-- a and b leave the same over m -/
def Cg (m a b : Int) : Prop := ∃ k, a = b + k * m
namespace Cg
variable {m a b c d : Int}
theorem refl (m a : Int) : Cg m a a := ⟨0, by omega⟩
theorem symm (h : Cg m a b) : Cg m b a := by
  obtain ⟨k, e⟩ := h
  exact ⟨-k, by rw [Int.neg_mul]; omega⟩
theorem trans (h : Cg m a b) (h' : Cg m b c) : Cg m a c := by
  obtain ⟨k, e⟩ := h
  obtain ⟨l, e'⟩ := h'
  exact ⟨k + l, by rw [Int.add_mul]; omega⟩
theorem add (h : Cg m a b) (h' : Cg m c d) : Cg m (a + c) (b + d) := by
  obtain ⟨k, e⟩ := h
  obtain ⟨l, e'⟩ := h'
  exact ⟨k + l, by rw [Int.add_mul]; omega⟩
theorem mul (h : Cg m a b) (h' : Cg m c d) : Cg m (a * c) (b * d) := by
  obtain ⟨k, rfl⟩ := h
  obtain ⟨l, rfl⟩ := h'
  exact ⟨b * l + k * d + k * m * l, by grind⟩
theorem neg (h : Cg m a b) : Cg m (-a) (-b) := by
  obtain ⟨k, e⟩ := h
  exact ⟨-k, by rw [Int.neg_mul]; omega⟩
theorem sub (h : Cg m a b) (h' : Cg m c d) : Cg m (a - c) (b - d) := by
  have := h.add h'.neg
  exact this
theorem mod (m a : Int) : Cg m (a % m) a := ⟨-(a / m), by have := Int.emod_add_mul_ediv a m; rw [Int.neg_mul, Int.mul_comm (a / m)]; omega⟩
theorem eq (h : Cg m a b) : a % m = b % m := by
  obtain ⟨k, rfl⟩ := h
  exact Int.add_mul_emod_self_right b k m
theorem of_eq (h : a % m = b % m) : Cg m a b := (mod m a).symm.trans (h ▸ mod m b)
theorem self (m k : Int) : Cg m (k * m) 0 := ⟨k, by omega⟩
theorem pow (h : Cg m a b) : ∀ n : Nat, Cg m (a ^ n) (b ^ n)
  | 0 => by rw [Int.pow_zero, Int.pow_zero]; exact refl _ _
  | n + 1 => by rw [Int.pow_succ, Int.pow_succ]; exact (pow h n).mul h
theorem dvd {n : Int} (h : Cg n a b) (d : ∃ k, n = k * m) : Cg m a b := by
  obtain ⟨k, rfl⟩ := h
  obtain ⟨l, rfl⟩ := d
  exact ⟨k * l, by grind⟩
theorem small (h : Cg m a b) (h0 : 0 ≤ a) (h1 : a < m) (h2 : 0 ≤ b) (h3 : b < m) : a = b := by
  have e := h.eq
  rwa [Int.emod_eq_of_lt h0 h1, Int.emod_eq_of_lt h2 h3] at e
/-- what has an inverse may be left out -/
theorem cancel {r u : Int} (hu : Cg m (r * u) 1) (h : Cg m (a * r) (b * r)) : Cg m a b := by
  have h1 : Cg m (a * r * u) (b * r * u) := h.mul (refl m u)
  have e1 : a * r * u = a * (r * u) := Int.mul_assoc ..
  have e2 : b * r * u = b * (r * u) := Int.mul_assoc ..
  rw [e1, e2] at h1
  have h2 : Cg m (a * (r * u)) a := by have := (refl m a).mul hu; rwa [Int.mul_one] at this
  have h3 : Cg m (b * (r * u)) b := by have := (refl m b).mul hu; rwa [Int.mul_one] at this
  exact (h2.symm.trans h1).trans h3
end Cg
theorem land_mask (x k : Nat) : x &&& (2 ^ k - 1) = x % 2 ^ k := Nat.and_two_pow_sub_one_eq_mod x k
theorem toNat_mask (k : Nat) : ((2 : Int) ^ k - 1).toNat = 2 ^ k - 1 := by
  have e : ((2 ^ k : Nat) : Int) = (2 : Int) ^ k := by norm_cast
  omega
/-- the low bits, of a number of either sign -/
theorem bitAnd_mod (x : Int) (k : Nat) : Builtin.bitAnd x (2 ^ k - 1) = x % 2 ^ k := by
  have e : ((2 ^ k : Nat) : Int) = (2 : Int) ^ k := by norm_cast
  have hp := one_le_pow k
  by_cases hx : 0 ≤ x
  · rw [PyProof.Rows.bitAnd_pp hx (by omega), toNat_mask, land_mask, Int.natCast_emod, e, Int.toNat_of_nonneg hx]
  · have hn : Builtin.bitNot x = -x - 1 := by
      show -x - 1 = -x - 1
      rfl
    rw [PyProof.Rows.bitAnd_np hx (by omega), hn, toNat_mask, Nat.and_comm, land_mask]
    have h1 : (((-x - 1).toNat % 2 ^ k : Nat) : Int) = (-x - 1) % 2 ^ k := by
      rw [Int.natCast_emod, e, Int.toNat_of_nonneg (by omega)]
    rw [h1]
    have a1 := Int.emod_nonneg (-x - 1) (b := (2 : Int) ^ k) (by omega)
    have a2 := Int.emod_lt_of_pos (-x - 1) (b := (2 : Int) ^ k) (by omega)
    have b1 := Int.emod_nonneg x (b := (2 : Int) ^ k) (by omega)
    have b2 := Int.emod_lt_of_pos x (b := (2 : Int) ^ k) (by omega)
    have c1 : Cg (2 ^ k) ((-x - 1) % 2 ^ k) (-x - 1) := Cg.mod _ _
    have c2 : Cg (2 ^ k) (x % 2 ^ k) x := Cg.mod _ _
    refine Cg.small (m := 2 ^ k) ?_ (by omega) (by omega) b1 b2
    obtain ⟨u, hu⟩ := c1
    obtain ⟨v, hv⟩ := c2
    exact ⟨1 - u - v, by rw [hu, hv, Int.sub_mul, Int.sub_mul, Int.one_mul]; omega⟩
end DL
namespace DL
open PySem PySem.Spec L2
theorem bitOr_one (d : Int) : Builtin.bitOr d 1 = d + 1 - d % 2 := by
  rw [PyProof.Rows.bitOr_and]
  have := bitAnd_mod d 1
  rw [show (2 : Int) ^ 1 - 1 = 1 from rfl, show (2 : Int) ^ 1 = 2 from rfl] at this
  rw [this]
end DL

set_option linter.all false
set_option maxRecDepth 100000
namespace DL
open PySem PySem.Spec L2
/-! ### items of short rows -/
@[simp] theorem at_1_0 (a : PyData) : atI [a] 0 = some a := rfl
@[simp] theorem at_2_0 (a b : PyData) : atI [a, b] 0 = some a := rfl
@[simp] theorem at_2_1 (a b : PyData) : atI [a, b] 1 = some b := rfl
@[simp] theorem at_3_0 (a b c : PyData) : atI [a, b, c] 0 = some a := rfl
@[simp] theorem at_3_1 (a b c : PyData) : atI [a, b, c] 1 = some b := rfl
@[simp] theorem at_3_2 (a b c : PyData) : atI [a, b, c] 2 = some c := rfl
@[simp] theorem at_4_0 (a b c d : PyData) : atI [a, b, c, d] 0 = some a := rfl
@[simp] theorem at_4_1 (a b c d : PyData) : atI [a, b, c, d] 1 = some b := rfl
@[simp] theorem at_4_2 (a b c d : PyData) : atI [a, b, c, d] 2 = some c := rfl
@[simp] theorem at_4_3 (a b c d : PyData) : atI [a, b, c, d] 3 = some d := rfl
@[simp] theorem at_5_0 (a b c d e : PyData) : atI [a, b, c, d, e] 0 = some a := rfl
@[simp] theorem at_5_1 (a b c d e : PyData) : atI [a, b, c, d, e] 1 = some b := rfl
@[simp] theorem at_5_2 (a b c d e : PyData) : atI [a, b, c, d, e] 2 = some c := rfl
@[simp] theorem at_5_3 (a b c d e : PyData) : atI [a, b, c, d, e] 3 = some d := rfl
@[simp] theorem at_5_4 (a b c d e : PyData) : atI [a, b, c, d, e] 4 = some e := rfl
theorem at_0 (a : PyData) (r : List PyData) : atI (a :: r) 0 = some a := atI_nat (by decide) (by simp)
/-! ### sizes -/
theorem bits_l {i : Int} (h1 : -1000000000000000000000000000000000000000000000000000000000000000000000000000000000000000000 < i) (h2 : i < 1000000000000000000000000000000000000000000000000000000000000000000000000000000000000000000) : Builtin.Int.intBits i ≤ 300 := by
  rw [bits_le]
  have e : (2 : Nat) ^ 300 = 2037035976334486086268445688409378161051468393665936250636140449354381299763336706183397376 := by decide +kernel
  rw [e]
  omega
/-- below 10^90 -/
theorem mulOk_l {i j : Int} (h1 : -1000000000000000000000000000000000000000000000000000000000000000000000000000000000000000000 < i) (h2 : i < 1000000000000000000000000000000000000000000000000000000000000000000000000000000000000000000) (h3 : -1000000000000000000000000000000000000000000000000000000000000000000000000000000000000000000 < j) (h4 : j < 1000000000000000000000000000000000000000000000000000000000000000000000000000000000000000000) : mulOk i j = true := mulOk_of (bits_l h1 h2) (bits_l h3 h4) (by decide)
theorem divOk_l {j : Int} (h0 : 0 < j) (h : j < 1000000000000000000000000000000000000000000000000000000000000000000000000000000000000000000) : divOk j = true := divOk_b h0 (bits_l (by omega) h) (by decide)
theorem bnd {a b A B : Int} (h0 : 0 ≤ a) (h1 : a ≤ A) (h2 : 0 ≤ b) (h3 : b ≤ B) : 0 ≤ a * b ∧ a * b ≤ A * B :=
  ⟨Int.mul_nonneg h0 h2, Int.le_trans (Int.mul_le_mul_of_nonneg_right h1 h2) (Int.mul_le_mul_of_nonneg_left h3 (by omega))⟩
theorem pow_le128 {n : Nat} (h : n ≤ 128) : (2 : Int) ^ n ≤ 340282366920938463463374607431768211456 := pow_le_pow h
theorem pow_mono {a b : Int} (h0 : 0 ≤ a) (h : a ≤ b) : ∀ n : Nat, a ^ n ≤ b ^ n
  | 0 => by rw [Int.pow_zero, Int.pow_zero]; exact Int.le_refl _
  | n + 1 => by
    rw [Int.pow_succ, Int.pow_succ]
    have p : 0 ≤ a ^ n := Int.pow_nonneg h0
    have a1 := Int.mul_le_mul_of_nonneg_left h p
    have a2 := Int.mul_le_mul_of_nonneg_right (pow_mono h0 h n) (by omega : 0 ≤ b)
    omega
theorem div_b {a b A : Int} (h0 : 0 ≤ a) (h1 : a ≤ A) (h2 : 0 < b) : 0 ≤ a / b ∧ a / b ≤ A := by
  have := Int.ediv_nonneg h0 (Int.le_of_lt h2)
  have := Int.ediv_le_self b h0
  omega
theorem mod_b (a : Int) {b : Int} (h : 0 < b) : 0 ≤ a % b ∧ a % b < b := ⟨Int.emod_nonneg a (by omega), Int.emod_lt_of_pos a h⟩
theorem ok_if {α : Type} {c : Prop} [Decidable c] {a b : α} {ρ : Sl} : (if c then (Res.ok a ρ) else Res.ok b ρ) = Res.ok (if c then a else b) ρ := by split <;> rfl
@[simp high] theorem oMin_m (i j : Int) : oMin (.int i) (.int j) = some (.int (min i j)) := by
  show some (PyData.int _) = _
  congr 2
  split <;> omega
@[simp high] theorem oMax_m (i j : Int) : oMax (.int i) (.int j) = some (.int (max i j)) := by
  show some (PyData.int _) = _
  congr 2
  split <;> omega
/-! ### strings -/
theorem oEq_str (a b : Str) : oEq (.str a) (.str b) = some (a == b) := by
  show some (PyData.eqv (.str a) (.str b)) = _
  simp [PyData.eqv]
/-! ### loops that may break off or return -/
theorem sForL_ex {g : PyData → M Unit} {b : M Fl} : ∀ {xs : List PyData} {ρ : Sl} (I : Nat → Sl → Prop) (J : Fl → Sl → Prop), I 0 ρ →
    (∀ i x ρ, xs[i]? = some x → I i ρ → ∃ fl ρ', M.bind (g x) (fun _ => b) ρ = .ok fl ρ' ∧ ((fl = .nx ∨ fl = .ct) ∧ I (i + 1) ρ' ∨ fl = .bk ∧ J .nx ρ' ∨ ∃ c, fl = .rt c ∧ J (.rt c) ρ')) →
    ∃ fl ρ', sForL g b xs ρ = .ok fl ρ' ∧ (fl = .nx ∧ I xs.length ρ' ∨ J fl ρ')
  | [], ρ, I, J, h0, _ => ⟨.nx, ρ, rfl, .inl ⟨rfl, h0⟩⟩
  | x :: r, ρ, I, J, h0, hs => by
    obtain ⟨fl, ρ1, e1, h1⟩ := hs 0 x ρ rfl h0
    have e1' : (g x ρ).then (fun _ => b) = .ok fl ρ1 := e1
    have go : ∀ R, (match fl with
      | .nx => sForL g b r
      | .ct => sForL g b r
      | .bk => M.pure .nx
      | .rt c => M.pure (.rt c) : M Fl) ρ1 = R → sForL g b (x :: r) ρ = R := fun R hR => by
      show (g x ρ).then (fun _ => M.bind b fun fl => match fl with
        | .nx => sForL g b r
        | .ct => sForL g b r
        | .bk => M.pure .nx
        | .rt c => M.pure (.rt c)) = _
      cases hg : g x ρ with
      | ok u ρ0 =>
        rw [hg] at e1'
        have e3 : b ρ0 = .ok fl ρ1 := e1'
        show (b ρ0).then _ = _
        rw [e3]
        exact hR
      | err e ρ0 => rw [hg] at e1'; cases e1'
      | stuck => rw [hg] at e1'; cases e1'
    have nxt : I 1 ρ1 → ∃ fl ρ', sForL g b r ρ1 = .ok fl ρ' ∧ (fl = .nx ∧ I (x :: r).length ρ' ∨ J fl ρ') := fun h => sForL_ex (g := g) (b := b) (xs := r) (ρ := ρ1) (fun i => I (i + 1)) J h fun i y ρ' hy hi => hs (i + 1) y ρ' (by simpa using hy) hi
    rcases h1 with ⟨h2 | h2, h3⟩ | ⟨h2, h3⟩ | ⟨c, h2, h3⟩
    · subst h2
      obtain ⟨fl, ρ2, e2, h4⟩ := nxt h3
      exact ⟨fl, ρ2, go _ e2, h4⟩
    · subst h2
      obtain ⟨fl, ρ2, e2, h4⟩ := nxt h3
      exact ⟨fl, ρ2, go _ e2, h4⟩
    · subst h2
      exact ⟨.nx, ρ1, go _ rfl, .inr h3⟩
    · subst h2
      exact ⟨.rt c, ρ1, go _ rfl, .inr h3⟩
@[simp] theorem sCt_ap (ρ : Sl) : sCt ρ = .ok .ct ρ := rfl
@[simp] theorem sBk_ap (ρ : Sl) : sBk ρ = .ok .bk ρ := rfl
/-! ### lists as tuples, at each depth -/
mutual
def tupD : PyData → PyData
  | .list xs => .tuple (tupL xs)
  | .tuple xs => .tuple (tupL xs)
  | x => x
def tupL : List PyData → List PyData
  | [] => []
  | x :: r => tupD x :: tupL r
end
/-! ### == of rows -/
theorem canLay_ints : ∀ xs : List Int, PyData.canLayAll0 (xs.map .int) = true
  | [] => by simp only [List.map_nil, PyData.canLayAll0]
  | x :: r => by simp only [List.map_cons, PyData.canLayAll0, PyData.canLay0, canLay_ints r, Bool.and_self]
theorem depth_ints : ∀ xs : List Int, PyData.depthAll (xs.map .int) = 0
  | [] => by simp only [List.map_nil, PyData.depthAll]
  | x :: r => by simp only [List.map_cons, PyData.depthAll, PyData.depth, depth_ints r]; rfl
theorem shaped_l (xs : List Int) : SeqAt.shaped (.list (xs.map .int)) = true := by
  simp only [SeqAt.shaped, PyData.canLay0, PyData.depth, canLay_ints, depth_ints]; decide
theorem shaped_t (xs : List Int) : SeqAt.shaped (.tuple (xs.map .int)) = true := by
  simp only [SeqAt.shaped, PyData.canLay0, PyData.depth, canLay_ints, depth_ints]; decide
theorem shaped_nil : SeqAt.shaped (.list []) = true := shaped_l []
theorem shaped_tnil : SeqAt.shaped (.tuple []) = true := shaped_t []
theorem eqvAll_ints : ∀ xs ys : List Int, PyData.eqvAll (xs.map .int) (ys.map .int) = decide (xs = ys)
  | [], [] => by simp [PyData.eqvAll]
  | [], _ :: _ => by simp [PyData.eqvAll]
  | _ :: _, [] => by simp [PyData.eqvAll]
  | x :: xs, y :: ys => by
    simp only [List.map_cons, PyData.eqvAll, PyData.eqv, eqvAll_ints xs ys]
    by_cases h : x = y <;> by_cases h2 : xs = ys <;> simp [h, h2]
theorem oEq_l (xs ys : List Int) : oEq (.list (xs.map .int)) (.list (ys.map .int)) = some (decide (xs = ys)) := by
  unfold oEq
  rw [if_pos (by rw [shaped_l, shaped_l]; simp), PyData.eqv, eqvAll_ints]
theorem oEq_t (xs ys : List Int) : oEq (.tuple (xs.map .int)) (.tuple (ys.map .int)) = some (decide (xs = ys)) := by
  unfold oEq
  rw [if_pos (by rw [shaped_t, shaped_t]; simp), PyData.eqv, eqvAll_ints]
theorem oNe_l (xs ys : List Int) : oNe (.list (xs.map .int)) (.list (ys.map .int)) = some (!decide (xs = ys)) := by
  unfold oNe
  rw [if_pos (by rw [shaped_l, shaped_l]; simp), PyData.eqv, eqvAll_ints]
theorem oNe_t (xs ys : List Int) : oNe (.tuple (xs.map .int)) (.tuple (ys.map .int)) = some (!decide (xs = ys)) := by
  unfold oNe
  rw [if_pos (by rw [shaped_t, shaped_t]; simp), PyData.eqv, eqvAll_ints]
/-- a list against [] -/
theorem oEq_ln {xs : List PyData} (h : SeqAt.shaped (.list xs) = true) : oEq (.list xs) (.list []) = some xs.isEmpty := by
  unfold oEq
  rw [if_pos (by rw [h, shaped_nil]; simp), PyData.eqv]
  cases xs <;> simp [PyData.eqvAll]
theorem oNe_ln {xs : List PyData} (h : SeqAt.shaped (.list xs) = true) : oNe (.list xs) (.list []) = some (!xs.isEmpty) := by
  unfold oNe
  rw [if_pos (by rw [h, shaped_nil]; simp), PyData.eqv]
  cases xs <;> simp [PyData.eqvAll]
/-- whole numbers all -/
theorem ints_ex : ∀ {xs : List PyData}, (∀ x ∈ xs, ∃ i : Int, x = .int i) → ∃ ns : List Int, xs = ns.map .int
  | [], _ => ⟨[], rfl⟩
  | x :: r, h => by
    obtain ⟨i, rfl⟩ := h x List.mem_cons_self
    obtain ⟨ns, rfl⟩ := ints_ex fun y hy => h y (List.mem_cons_of_mem _ hy)
    exact ⟨i :: ns, rfl⟩
/-- a slot that holds nothing of its own -/
def NO (o : Option C) : Prop := ∀ c, o = some c → c.own = false
theorem NO_none : NO none := fun _ h => by cases h
theorem NO_d (x : PyData) : NO (some (.d x)) := fun c h => by cases h; rfl
theorem lcStep_ok {g : PyData → M Unit} {t : M Bool} {e : M PyData} {x y : PyData} {ρ ρ1 ρ2 ρ3 : Sl} (h1 : g x ρ = .ok () ρ1) (h2 : t ρ1 = .ok true ρ2) (h3 : e ρ2 = .ok y ρ3) : lcStep g t e x ρ = .ok (some y) ρ3 := by
  unfold lcStep
  rw [bind_ok h1, bind_ok h2, if_pos rfl, bind_ok h3]; rfl
theorem lcStep_no {g : PyData → M Unit} {t : M Bool} {e : M PyData} {x : PyData} {ρ ρ1 ρ2 : Sl} (h1 : g x ρ = .ok () ρ1) (h2 : t ρ1 = .ok false ρ2) : lcStep g t e x ρ = .ok none ρ2 := by
  unfold lcStep
  rw [bind_ok h1, bind_ok h2, if_neg Bool.false_ne_true]; rfl
/-- a comprehension from its turns -/
theorem mLc_ok {vs : List Nat} {mi : M (List PyData)} {g : PyData → M Unit} {t : M Bool} {e : M PyData} {ρ ρ1 ρ' : Sl} {xs acc : List PyData} (h1 : mi ρ = .ok xs ρ1) (h2 : noOwn vs ρ1 = true) (h3 : mLcL vs g t e xs [] (wipeS ρ1 vs) = .ok acc ρ') : mLc vs mi g t e ρ = .ok (.l acc) (restS vs ρ1 ρ') := by
  rw [mLc_ap, h1, then_ok, if_pos h2, h3]
theorem sFor_ok {mi : M (List PyData)} {g : PyData → M Unit} {b : M Fl} {ρ ρ1 ρ' : Sl} {xs : List PyData} {fl : Fl} (h1 : mi ρ = .ok xs ρ1) (h2 : sForL g b xs ρ1 = .ok fl ρ') : sFor mi g b ρ = .ok fl ρ' := by
  rw [sFor_ap, h1, then_ok, h2]
/-! ### lists compared where they stand -/
@[simp] theorem tCmpV_ap (f : PyData → PyData → Option Bool) (i : Nat) (m : M PyData) (ρ : Sl) : tCmpV f i m ρ = if (vlAt i ρ).isSome = true then (m ρ).then fun y ρ' => match vlAt i ρ' with
  | some xs => M.of (f (.list xs) y) ρ'
  | none => .stuck else .stuck := rfl
theorem vlAt_ap (i : Nat) (ρ : Sl) : vlAt i ρ = match ρ[i]? with
  | some (some (.l xs)) => some xs
  | some (some (.d (.list xs))) => some xs
  | _ => none := rfl
theorem eqS_n {xs : List PyData} (h : SeqAt.shaped (.list xs) = true) : eqS (.list xs) (.list []) = some xs.isEmpty := by
  unfold eqS
  rw [if_pos (by rw [h, shaped_nil]; simp), PyData.eqv]
  cases xs <;> simp [PyData.eqvAll]
theorem neS_n {xs : List PyData} (h : SeqAt.shaped (.list xs) = true) : neS (.list xs) (.list []) = some (!xs.isEmpty) := by
  unfold neS
  rw [if_pos (by rw [h, shaped_nil]; simp), PyData.eqv]
  cases xs <;> simp [PyData.eqvAll]
@[simp] theorem mRev_ap (m : M PyData) (ρ : Sl) : mRev m ρ = (m ρ).then fun x => M.of (oRev x) := rfl
@[simp] theorem oRev_l (xs : List PyData) : oRev (.list xs) = some (.l xs.reverse) := rfl
@[simp] theorem oRev_t (xs : List PyData) : oRev (.tuple xs) = some (.d (.tuple xs.reverse)) := rfl
@[simp] theorem mRep_ap (a : M C) (b : M PyData) (ρ : Sl) : mRep a b ρ = (a ρ).then fun x => M.bind b fun y => M.of (oRep x y) := rfl
theorem oRep_l {xs : List PyData} {k : Int} (h0 : -1000000 ≤ k) (h1 : k ≤ 1000) (h : xs.length * k.toNat ≤ 1000) : oRep (.l xs) (.int k) = some (.l (List.replicate k.toNat xs).flatten) := by
  show (if _ then _ else _) = _
  rw [if_pos]
  unfold repOk
  simp only [Bool.and_eq_true, decide_eq_true_eq]
  exact ⟨⟨by omega, by omega⟩, Nat.le_of_lt (sizeL_lt h)⟩
theorem oRep_t {xs : List PyData} {k : Int} (h0 : 0 < xs.length) (h1 : xs.length ≤ 1000) (h2 : 2 ≤ k) (h3 : k ≤ 1000) : oRep (.d (.tuple xs)) (.int k) = some (.d (.tuple (List.replicate k.toNat xs).flatten)) := by
  show (if _ then _ else _) = _
  rw [if_pos]
  unfold repOkT
  simp only [Bool.and_eq_true, decide_eq_true_eq]
  exact ⟨⟨⟨h0, h1⟩, h2⟩, h3⟩
theorem oCat_dl {xs ys : List PyData} (h : xs.length + ys.length ≤ sizeLine) : oCat (.d (.list xs)) (.l ys) = some (.l (xs ++ ys)) := by
  show (if xs.length + ys.length ≤ sizeLine then some (C.l (xs ++ ys)) else none) = _
  rw [if_pos h]
theorem oCat_ld {xs ys : List PyData} (h : xs.length + ys.length ≤ sizeLine) : oCat (.l xs) (.d (.list ys)) = some (.l (xs ++ ys)) := by
  show (if xs.length + ys.length ≤ sizeLine then some (C.l (xs ++ ys)) else none) = _
  rw [if_pos h]
theorem oCat_tt {xs ys : List PyData} (h : xs.length + ys.length ≤ sizeLine) : oCat (.d (.tuple xs)) (.d (.tuple ys)) = some (.d (.tuple (xs ++ ys))) := by
  show (if xs.length + ys.length ≤ sizeLine then some (C.d (.tuple (xs ++ ys))) else none) = _
  rw [if_pos h]
/-! ### comprehensions over whole numbers -/
theorem lc_filter {vs : List Nat} {g : PyData → M Unit} {t : M Bool} {e : M PyData} (p : Int → Bool) (ρ : Sl) : ∀ (xs acc : List Int), (∀ x ∈ xs, ∃ ρ', lcStep g t e (.int x) ρ = .ok (if p x = true then some (.int x) else none) ρ' ∧ wipeS ρ' vs = ρ) → acc.length + xs.length ≤ sizeLine →
    mLcL vs g t e (xs.map .int) (acc.map .int) ρ = .ok ((acc ++ xs.filter p).map .int) ρ
  | [], acc, _, _ => by rw [List.filter_nil, List.append_nil]; rfl
  | x :: r, acc, h, hl => by
    obtain ⟨ρ', e1, e2⟩ := h x List.mem_cons_self
    rw [List.length_cons] at hl
    rw [List.map_cons, mLcL_step e1 (by rw [List.length_map]; omega), e2]
    by_cases hp : p x = true
    · rw [if_pos hp, List.filter_cons_of_pos hp]
      have ih := lc_filter (vs := vs) (g := g) (t := t) (e := e) p ρ r (acc ++ [x]) (fun y hy => h y (List.mem_cons_of_mem _ hy)) (by rw [List.length_append]; simp; omega)
      rw [List.map_append] at ih
      show mLcL vs g t e (r.map .int) (acc.map .int ++ [.int x]) ρ = _
      rw [show [PyData.int x] = [x].map PyData.int from rfl, ih, List.append_assoc]; rfl
    · rw [if_neg hp, List.filter_cons_of_neg hp]
      have ih := lc_filter (vs := vs) (g := g) (t := t) (e := e) p ρ r acc (fun y hy => h y (List.mem_cons_of_mem _ hy)) (by omega)
      show mLcL vs g t e (r.map .int) (acc.map .int ++ []) ρ = _
      rw [List.append_nil, ih]
theorem lc_map {vs : List Nat} {g : PyData → M Unit} {t : M Bool} {e : M PyData} (f : Int → PyData) (ρ : Sl) : ∀ (xs : List Int) (acc : List PyData), (∀ x ∈ xs, ∃ ρ', lcStep g t e (.int x) ρ = .ok (some (f x)) ρ' ∧ wipeS ρ' vs = ρ) → acc.length + xs.length ≤ sizeLine →
    mLcL vs g t e (xs.map .int) acc ρ = .ok (acc ++ xs.map f) ρ
  | [], acc, _, _ => by rw [List.map_nil, List.map_nil, List.append_nil]; rfl
  | x :: r, acc, h, hl => by
    obtain ⟨ρ', e1, e2⟩ := h x List.mem_cons_self
    rw [List.length_cons] at hl
    rw [List.map_cons, mLcL_step e1 (by omega), e2]
    have ih := lc_map (vs := vs) (g := g) (t := t) (e := e) f ρ r (acc ++ [f x]) (fun y hy => h y (List.mem_cons_of_mem _ hy)) (by rw [List.length_append]; simp; omega)
    show mLcL vs g t e (r.map .int) (acc ++ [f x]) ρ = _
    rw [ih, List.append_assoc]; rfl
/-- the whole numbers from lo on -/
def rgI (lo : Int) (n : Nat) : List Int := (List.range n).map fun (i : Nat) => lo + (i : Int)
theorem intsL_rg (lo : Int) (n : Nat) : intsL lo n = (rgI lo n).map .int := by
  unfold intsL rgI
  rw [List.map_map]; rfl
theorem rgI_len (lo : Int) (n : Nat) : (rgI lo n).length = n := by unfold rgI; rw [List.length_map, List.length_range]
theorem rgI_mem {lo : Int} {n : Nat} {x : Int} : x ∈ rgI lo n ↔ lo ≤ x ∧ x < lo + n := by
  unfold rgI
  constructor
  · intro h
    obtain ⟨i, hi, rfl⟩ := List.mem_map.mp h
    have := List.mem_range.mp hi
    omega
  · intro h
    exact List.mem_map.mpr ⟨(x - lo).toNat, List.mem_range.mpr (by omega), by omega⟩
theorem rgI_succ (lo : Int) (n : Nat) : rgI lo (n + 1) = rgI lo n ++ [lo + n] := by
  unfold rgI
  rw [List.range_succ, List.map_append]; rfl
/-- the first one that does stands first -/
theorem filter_first (p : Int → Bool) (s : Nat) (hs : p s = true) (hn : ∀ j : Nat, j < s → p j = false) : ∀ n : Nat, s < n → ∃ r, (rgI 0 n).filter p = (s : Int) :: r
  | 0, h => absurd h (Nat.not_lt_zero _)
  | n + 1, h => by
    rw [rgI_succ, List.filter_append, Int.zero_add]
    rcases Nat.lt_or_ge s n with c | c
    · obtain ⟨r, e⟩ := filter_first p s hs hn n c
      exact ⟨r ++ [(n : Int)].filter p, by rw [e]; rfl⟩
    · have : n = s := by omega
      subst this
      have e : (rgI 0 n).filter p = [] := by
        rw [List.filter_eq_nil_iff]
        intro x hx
        have hb := rgI_mem.mp hx
        have := hn x.toNat (by omega)
        rw [Int.toNat_of_nonneg (by omega)] at this
        rw [this]; decide
      refine ⟨[], ?_⟩
      rw [e, List.nil_append, List.filter_cons_of_pos hs]; rfl
theorem least_ex {p : Nat → Prop} (h : ∃ n, p n) : ∃ n, p n ∧ ∀ j, j < n → ¬ p j := by
  obtain ⟨n, hn⟩ := h
  induction n using Nat.strongRecOn with
  | ind n ih =>
    rcases Classical.em (∃ j, j < n ∧ p j) with h | h
    · obtain ⟨j, hj, pj⟩ := h
      exact ih j hj pj
    · exact ⟨n, hn, fun j hj pj => h ⟨j, hj, pj⟩⟩
theorem boolsD_b : ∀ bs : List Bool, boolsD (bs.map .bool) = some bs
  | [] => rfl
  | b :: r => by rw [List.map_cons, boolsD, boolsD_b r]; rfl
theorem oAll_b (bs : List Bool) : oAll (.list (bs.map .bool)) = some (.bool (bs.all id)) := by
  show (boolsD _).map _ = _
  rw [boolsD_b]; rfl
theorem oAny_b (bs : List Bool) : oAny (.list (bs.map .bool)) = some (.bool (bs.any id)) := by
  show (boolsD _).map _ = _
  rw [boolsD_b]; rfl
theorem intsD_m : ∀ ns : List Int, intsD (ns.map .int) = some ns
  | [] => rfl
  | n :: r => by rw [List.map_cons, intsD, intsD_m r]; rfl
theorem oSortSet_i (ns : List Int) (h : ns.length < 64) : oSortSet (.list (ns.map .int)) = some (.l ((sortU ns).map .int)) := by
  show (match intsD (ns.map .int) with
    | some ns => if ns.length < 64 then some (C.l ((sortU ns).map .int)) else none
    | none => none) = _
  rw [intsD_m]
  show (if ns.length < 64 then some (C.l ((sortU ns).map .int)) else none) = _
  rw [if_pos h]
theorem keysD_m (f : Int → PyData) : ∀ ns : List Int, keysD (ns.map fun k => .tuple [.int k, f k]) = some ns
  | [] => rfl
  | n :: r => by rw [List.map_cons, keysD, keysD_m f r]; rfl
theorem oSortDict_i (ns : List Int) (f : Int → PyData) (h : ns.length < 64) : oSortDict (.list (ns.map fun k => .tuple [.int k, f k])) = some (.l ((sortU ns).map .int)) := by
  show (match keysD (ns.map fun k => .tuple [.int k, f k]) with
    | some ns => if ns.length < 64 then some (C.l ((sortU ns).map .int)) else none
    | none => none) = _
  rw [keysD_m]
  show (if ns.length < 64 then some (C.l ((sortU ns).map .int)) else none) = _
  rw [if_pos h]
theorem insU_m (x : Int) : ∀ (l : List Int) (z : Int), z ∈ insU x l ↔ z = x ∨ z ∈ l
  | [], z => by simp [insU]
  | y :: r, z => by
    unfold insU
    split
    · simp
    · split
      · rename_i h; subst h; simp
      · rw [List.mem_cons, insU_m x r z, List.mem_cons]
        constructor
        · rintro (h | h | h) <;> simp [h]
        · rintro (h | h | h) <;> simp [h]
theorem sortU_m : ∀ (l : List Int) (z : Int), z ∈ sortU l ↔ z ∈ l
  | [], z => by simp [sortU]
  | x :: r, z => by rw [sortU, insU_m, sortU_m r z, List.mem_cons]
theorem insU_len (x : Int) : ∀ l : List Int, (insU x l).length ≤ l.length + 1
  | [] => by simp [insU]
  | y :: r => by
    unfold insU
    split
    · simp
    · split
      · simp
      · have := insU_len x r; simp; omega
theorem sortU_len : ∀ l : List Int, (sortU l).length ≤ l.length
  | [] => by simp [sortU]
  | x :: r => by
    have := insU_len x (sortU r)
    have := sortU_len r
    rw [sortU, List.length_cons]; omega
theorem lst1_ok {a : M PyData} {x : PyData} {ρ ρ1 : Sl} (h1 : a ρ = .ok x ρ1) : mFrz (mLst [a]) ρ = .ok (.list [x]) ρ1 := by
  rw [mFrz_ap, mLst_ap, mSeq_cons, h1]; rfl
theorem lst2_ok {a b : M PyData} {x y : PyData} {ρ ρ1 ρ2 : Sl} (h1 : a ρ = .ok x ρ1) (h2 : b ρ1 = .ok y ρ2) : mFrz (mLst [a, b]) ρ = .ok (.list [x, y]) ρ2 := by
  rw [mFrz_ap, mLst_ap, mSeq_cons, h1, then_ok]
  show ((M.bind (M.bind b fun x => M.bind (mSeq []) fun xs => M.pure (x :: xs)) _ ρ1).then _).then _ = _
  rw [bind_ok (show M.bind b (fun x => M.bind (mSeq []) fun xs => M.pure (x :: xs)) ρ1 = .ok [y] ρ2 by rw [bind_ok h2]; rfl)]
  rfl
theorem call2_ok {φ : Sl → Res C} {a b : M PyData} {x y r : PyData} {ρ ρ1 ρ2 : Sl} (h1 : a ρ = .ok x ρ1) (h2 : b ρ1 = .ok y ρ2) (h3 : φ [some (.d x), some (.d y)] = .ok (.d r) [some (.d x), some (.d y)]) : mFrz (mCall φ (mSeqA [agD a, agD b])) ρ = .ok r ρ2 := by
  have e1 : agD a ρ = .ok (.d x) ρ1 := by rw [agD_ap, h1]; rfl
  have e2 : agD b ρ1 = .ok (.d y) ρ2 := by rw [agD_ap, h2]; rfl
  have e3 : mSeqA [agD a, agD b] ρ = .ok [.d x, .d y] ρ2 := by
    rw [mSeqA_cons, e1, then_ok, bind_ok (show mSeqA [agD b] ρ1 = .ok [.d y] ρ2 by rw [mSeqA_cons, e2]; rfl)]
    rfl
  rw [mFrz_ap, mCall_ap, e3, then_ok]
  simp -implicitDefEqProofs [rdA, h3]
end DL

set_option linter.all false
set_option maxRecDepth 100000
namespace DL
open PySem PySem.Spec L2
section
variable {i : Nat} {m a b c d : M PyData} {mc : M C} {ρ : Sl} {f g h : PyData → PyData → Option Bool} {kvs : List (Str × PyData)} {z : Str} {t : Bool}
@[simp] theorem mPop_ap : mPop i ρ = match lsAt i ρ with
  | some xs => (match xs[xs.length - 1]? with
    | some y => .ok y (ρ.set i (some (.l xs.dropLast)))
    | none => .stuck)
  | none => .stuck := rfl
@[simp] theorem tChain3_ap : tChain3 f g h a b c d ρ = (a ρ).then fun x => M.bind b fun y => M.bind (M.of (f x y)) fun k => if k = true then M.bind c fun z => M.bind (M.of (g y z)) fun k' => if k' = true then M.bind d fun u => M.of (h z u) else M.pure false else M.pure false := rfl
@[simp] theorem oTab_s : oTab kvs (.str z) = tabV kvs z := rfl
@[simp] theorem oInTab_s : oInTab kvs (.str z) = some (tabV kvs z).isSome := rfl
@[simp] theorem oNotInTab_s : oNotInTab kvs (.str z) = some (!(tabV kvs z).isSome) := rfl
@[simp] theorem mDIx_ap : mDIx i m ρ = if (dkAt i ρ).isSome = true then (m ρ).then fun y ρ' => match dkAt i ρ', kD y with
  | some kvs, some k => M.of (valD kvs k) ρ'
  | _, _ => .stuck else .stuck := rfl
@[simp] theorem tDIn_ap : tDIn t i m ρ = (m ρ).then fun y ρ => match dkAt i ρ, kD y with
  | some kvs, some k => .ok ((valD kvs k).isSome == t) ρ
  | _, _ => .stuck := rfl
@[simp] theorem mDIxN_ap : mDIxN mc m ρ = (mc ρ).then fun c => M.bind m fun y => match c, kD y with
  | .k kvs, some k => M.of (valD kvs k)
  | _, _ => M.stuck := rfl
@[simp] theorem mDisp_ap (ps : List (M PyData × M PyData)) : mDisp ps ρ = (mPrs ps ρ).then fun l => match kPrs l with
  | some kvs => M.pure (.k (mergeD [] kvs))
  | none => M.stuck := rfl
@[simp] theorem mPrs_nil : mPrs [] ρ = .ok [] ρ := rfl
@[simp] theorem mPrs_cons (r : List (M PyData × M PyData)) : mPrs ((a, b) :: r) ρ = (a ρ).then fun x => M.bind b fun y => M.bind (mPrs r) fun ps => M.pure ((x, y) :: ps) := rfl
@[simp] theorem kD_i (j : Int) : kD (.int j) = some (.inl j) := rfl
@[simp] theorem kD_s (j : Str) : kD (.str j) = some (.inr j) := rfl
theorem dkAt_ap : dkAt i ρ = match ρ[i]? with
  | some (some (.k kvs)) => some kvs
  | _ => none := rfl
end
theorem last_snoc {α : Type} (l : List α) (a : α) : (l ++ [a])[(l ++ [a]).length - 1]? = some a := by
  rw [List.length_append]
  show (l ++ [a])[l.length + 1 - 1]? = _
  rw [Nat.add_sub_cancel, List.getElem?_append_right (Nat.le_refl _), Nat.sub_self]; rfl
theorem pop_ok {i : Nat} {ρ : Sl} {l : List PyData} {a : PyData} (h : lsAt i ρ = some (l ++ [a])) : mPop i ρ = .ok a (ρ.set i (some (.l l))) := by
  rw [mPop_ap, h]
  show (match (l ++ [a])[(l ++ [a]).length - 1]? with
    | some y => Res.ok y (ρ.set i (some (.l (l ++ [a]).dropLast)))
    | none => .stuck) = _
  rw [last_snoc, List.dropLast_concat]
theorem lc_mapG {α : Type} (D : α → PyData) {vs : List Nat} {g : PyData → M Unit} {t : M Bool} {e : M PyData} (f : α → PyData) (ρ : Sl) : ∀ (xs : List α) (acc : List PyData), (∀ x ∈ xs, ∃ ρ', lcStep g t e (D x) ρ = .ok (some (f x)) ρ' ∧ wipeS ρ' vs = ρ) → acc.length + xs.length ≤ sizeLine →
    mLcL vs g t e (xs.map D) acc ρ = .ok (acc ++ xs.map f) ρ
  | [], acc, _, _ => by rw [List.map_nil, List.map_nil, List.append_nil]; rfl
  | x :: r, acc, h, hl => by
    obtain ⟨ρ', e1, e2⟩ := h x List.mem_cons_self
    rw [List.length_cons] at hl
    rw [List.map_cons, mLcL_step e1 (by omega), e2]
    have ih := lc_mapG D (vs := vs) (g := g) (t := t) (e := e) f ρ r (acc ++ [f x]) (fun y hy => h y (List.mem_cons_of_mem _ hy)) (by rw [List.length_append]; simp; omega)
    show mLcL vs g t e (r.map D) (acc ++ [f x]) ρ = _
    rw [ih, List.append_assoc]; rfl
/-! ### data that can be laid out, not too deep -/
def shK (n : Nat) (x : PyData) : Bool := x.canLay0 && decide (x.depth ≤ n)
theorem shK_le {n m : Nat} (h : n ≤ m) {x : PyData} (s : shK n x = true) : shK m x = true := by
  unfold shK at *
  rw [Bool.and_eq_true, decide_eq_true_eq] at *
  exact ⟨s.1, by omega⟩
theorem canLayAll_mem : ∀ {xs : List PyData} {y : PyData}, PyData.canLayAll0 xs = true → y ∈ xs → y.canLay0 = true
  | x :: r, y, h, hy => by
    rw [PyData.canLayAll0, Bool.and_eq_true] at h
    rcases List.mem_cons.mp hy with e | e
    · rw [e]; exact h.1
    · exact canLayAll_mem h.2 e
theorem canLayAll_of : ∀ {xs : List PyData}, (∀ y ∈ xs, y.canLay0 = true) → PyData.canLayAll0 xs = true
  | [], _ => by simp only [PyData.canLayAll0]
  | x :: r, h => by
    rw [PyData.canLayAll0, h x List.mem_cons_self, canLayAll_of fun y hy => h y (List.mem_cons_of_mem _ hy)]; rfl
theorem depthAll_mem : ∀ {xs : List PyData} {y : PyData}, y ∈ xs → y.depth ≤ PyData.depthAll xs
  | x :: r, y, hy => by
    rw [PyData.depthAll]
    rcases List.mem_cons.mp hy with e | e
    · rw [e]; exact Nat.le_max_left _ _
    · exact Nat.le_trans (depthAll_mem e) (Nat.le_max_right _ _)
theorem depthAll_le : ∀ {xs : List PyData} {n : Nat}, (∀ y ∈ xs, y.depth ≤ n) → PyData.depthAll xs ≤ n
  | [], n, _ => by rw [PyData.depthAll]; exact Nat.zero_le _
  | x :: r, n, h => by
    rw [PyData.depthAll]
    exact Nat.max_le.mpr ⟨h x List.mem_cons_self, depthAll_le fun y hy => h y (List.mem_cons_of_mem _ hy)⟩
theorem shK_t {n : Nat} {xs : List PyData} : shK (n + 1) (.tuple xs) = true ↔ ∀ y ∈ xs, shK n y = true := by
  unfold shK
  rw [PyData.canLay0, PyData.depth, Bool.and_eq_true, decide_eq_true_eq]
  constructor
  · rintro ⟨h1, h2⟩ y hy
    rw [Bool.and_eq_true, decide_eq_true_eq]
    have := depthAll_mem hy
    exact ⟨canLayAll_mem h1 hy, by omega⟩
  · intro h
    have h' : ∀ y ∈ xs, y.canLay0 = true ∧ y.depth ≤ n := fun y hy => by
      have := h y hy
      rwa [Bool.and_eq_true, decide_eq_true_eq] at this
    have := depthAll_le fun y hy => (h' y hy).2
    exact ⟨canLayAll_of fun y hy => (h' y hy).1, by omega⟩
theorem shK_l {n : Nat} {xs : List PyData} : shK (n + 1) (.list xs) = true ↔ ∀ y ∈ xs, shK n y = true := by
  rw [← shK_t]
  unfold shK
  rw [PyData.canLay0, PyData.depth, PyData.canLay0, PyData.depth]
theorem shaped_of {n : Nat} {x : PyData} (h : shK n x = true) (hn : n ≤ 64) : SeqAt.shaped x = true := by
  unfold shK at h
  unfold SeqAt.shaped
  rw [Bool.and_eq_true, decide_eq_true_eq] at *
  exact ⟨h.1, by omega⟩
theorem shK_i (n : Nat) (i : Int) : shK n (.int i) = true := by unfold shK; rw [PyData.canLay0, PyData.depth]; simp
theorem shK_b (n : Nat) (i : Bool) : shK n (.bool i) = true := by unfold shK; rw [PyData.canLay0, PyData.depth]; simp
end DL

set_option linter.all false
set_option maxRecDepth 100000
namespace DL
open PySem PySem.Spec L2
theorem call3_ok {φ : Sl → Res C} {a b c : M PyData} {x y z r : PyData} {ρ ρ1 ρ2 ρ3 : Sl} (h1 : a ρ = .ok x ρ1) (h2 : b ρ1 = .ok y ρ2) (h2' : c ρ2 = .ok z ρ3) (h3 : φ [some (.d x), some (.d y), some (.d z)] = .ok (.d r) [some (.d x), some (.d y), some (.d z)]) : mFrz (mCall φ (mSeqA [agD a, agD b, agD c])) ρ = .ok r ρ3 := by
  have e1 : agD a ρ = .ok (.d x) ρ1 := by rw [agD_ap, h1]; rfl
  have e2 : agD b ρ1 = .ok (.d y) ρ2 := by rw [agD_ap, h2]; rfl
  have e2' : agD c ρ2 = .ok (.d z) ρ3 := by rw [agD_ap, h2']; rfl
  have s3 : mSeqA [agD c] ρ2 = .ok [.d z] ρ3 := by rw [mSeqA_cons, e2']; rfl
  have s2 : mSeqA [agD b, agD c] ρ1 = .ok [.d y, .d z] ρ3 := by rw [mSeqA_cons, e2, then_ok, bind_ok s3]; rfl
  have e3 : mSeqA [agD a, agD b, agD c] ρ = .ok [.d x, .d y, .d z] ρ3 := by
    rw [mSeqA_cons, e1, then_ok, bind_ok s2]
    rfl
  rw [mFrz_ap, mCall_ap, e3, then_ok]
  simp -implicitDefEqProofs [rdA, h3]
theorem callC2_ok {φ : Sl → Res C} {a b : M PyData} {x y : PyData} {r : C} {ρ ρ1 ρ2 : Sl} (h1 : a ρ = .ok x ρ1) (h2 : b ρ1 = .ok y ρ2) (h3 : φ [some (.d x), some (.d y)] = .ok r [some (.d x), some (.d y)]) : mCall φ (mSeqA [agD a, agD b]) ρ = .ok r ρ2 := by
  have e1 : agD a ρ = .ok (.d x) ρ1 := by rw [agD_ap, h1]; rfl
  have e2 : agD b ρ1 = .ok (.d y) ρ2 := by rw [agD_ap, h2]; rfl
  have e3 : mSeqA [agD a, agD b] ρ = .ok [.d x, .d y] ρ2 := by
    rw [mSeqA_cons, e1, then_ok, bind_ok (show mSeqA [agD b] ρ1 = .ok [.d y] ρ2 by rw [mSeqA_cons, e2]; rfl)]
    rfl
  rw [mCall_ap, e3, then_ok]
  simp -implicitDefEqProofs [rdA, h3]
end DL

set_option linter.all false
set_option maxRecDepth 100000
namespace SM
open PySem
/-! # sums: trees, and the rows of them -/
inductive H2 where
  | plus | less | times | least | most
def H2.s : H2 → Str
  | .plus => Str.ofString "plus"
  | .less => Str.ofString "less"
  | .times => Str.ofString "times"
  | .least => Str.ofString "least"
  | .most => Str.ofString "most"
def H1 (r : Bool) : Str := if r then Str.ofString "rest" else Str.ofString "over"
inductive Sm where
  | w (k : Int)
  | n (v : Int)
  | o (h : H2) (a b : Sm)
  | d (r : Bool) (a : Sm) (c : Int)
def Sm.D : Sm → PyData
  | .w k => .tuple [.str (Str.ofString "word"), .int k]
  | .n v => .tuple [.str (Str.ofString "number"), .int v]
  | .o h a b => .tuple [.str h.s, a.D, b.D]
  | .d r a c => .tuple [.str (H1 r), a.D, .int c]
def Sm.sz : Sm → Nat
  | .w _ => 1
  | .n _ => 1
  | .o _ a b => a.sz + b.sz + 1
  | .d _ a _ => a.sz + 1
def Sm.dp : Sm → Nat
  | .w _ => 1
  | .n _ => 1
  | .o _ a b => max a.dp b.dp + 1
  | .d _ a _ => a.dp + 1
/-- as the width w asks it; words below m -/
def Sm.ok (T : Int) (m : Int) : Sm → Prop
  | .w k => 0 ≤ k ∧ k < m
  | .n v => 0 ≤ v ∧ v ≤ T
  | .o _ a b => a.ok T m ∧ b.ok T m
  | .d _ a c => a.ok T m ∧ 1 ≤ c ∧ c ≤ T
theorem Sm.sz1 (s : Sm) : 1 ≤ s.sz := by cases s <;> simp [Sm.sz]
theorem Sm.dp1 (s : Sm) : 1 ≤ s.dp := by cases s <;> simp [Sm.dp]
theorem Sm.ok_le {T m m' : Int} (h : m ≤ m') : ∀ {s : Sm}, s.ok T m → s.ok T m'
  | .w k, g => ⟨g.1, by have := g.2; omega⟩
  | .n v, g => g
  | .o _ a b, g => ⟨Sm.ok_le h g.1, Sm.ok_le h g.2⟩
  | .d _ a c, g => ⟨Sm.ok_le h g.1, g.2⟩
/-- rows -/
inductive Rw where
  | w (k : Int)
  | n (v : Int)
  | o (h : H2) (i j : Nat)
  | d (r : Bool) (i : Nat) (c : Int)
def Rw.D : Rw → PyData
  | .w k => .tuple [.str (Str.ofString "word"), .int k]
  | .n v => .tuple [.str (Str.ofString "number"), .int v]
  | .o h i j => .tuple [.str h.s, .int i, .int j]
  | .d r i c => .tuple [.str (H1 r), .int i, .int c]
/-- what a row of numbers means -/
structure Al (α : Type) where
  z : α
  w : Int → α
  n : Int → α
  o : H2 → α → α → α
  d : Bool → α → Int → α
def Sm.fold {α : Type} (A : Al α) : Sm → α
  | .w k => A.w k
  | .n v => A.n v
  | .o h a b => A.o h (a.fold A) (b.fold A)
  | .d r a c => A.d r (a.fold A) c
def Rw.on {α : Type} (A : Al α) (f : List α) : Rw → α
  | .w k => A.w k
  | .n v => A.n v
  | .o h i j => A.o h (f.getD i A.z) (f.getD j A.z)
  | .d r i c => A.d r (f.getD i A.z) c
def evs {α : Type} (A : Al α) (R : List Rw) : List α := R.foldl (fun f r => f ++ [r.on A f]) []
theorem evs_snoc {α : Type} (A : Al α) (R : List Rw) (r : Rw) : evs A (R ++ [r]) = evs A R ++ [r.on A (evs A R)] := by
  unfold evs
  rw [List.foldl_append]; rfl
theorem evs_len {α : Type} (A : Al α) : ∀ R : List Rw, (evs A R).length = R.length := by
  intro R
  unfold evs
  have : ∀ (R : List Rw) (f : List α), (R.foldl (fun f r => f ++ [r.on A f]) f).length = f.length + R.length := by
    intro R
    induction R with
    | nil => intro f; rfl
    | cons r R ih => intro f; rw [List.foldl_cons, ih, List.length_append, List.length_cons, List.length_cons]; simp only [List.length_nil]; omega
  rw [this]; simp
theorem snoc_ind {α : Type} {p : List α → Prop} (h0 : p []) (h1 : ∀ l a, p l → p (l ++ [a])) : ∀ l, p l := fun l => by
  have : ∀ n (l : List α), l.length = n → p l := by
    intro n
    induction n with
    | zero => intro l h; rw [List.length_eq_zero_iff.mp h]; exact h0
    | succ n ih =>
      intro l h
      have hne : l ≠ [] := by intro e; rw [e] at h; cases h
      rw [← List.dropLast_concat_getLast hne]
      exact h1 _ _ (ih _ (by rw [List.length_dropLast, h]; rfl))
  exact this _ l rfl
/-- earlier rows stay -/
theorem evs_pre {α : Type} (A : Al α) (R : List Rw) : ∀ S : List Rw, ∃ l, evs A (R ++ S) = evs A R ++ l := by
  refine snoc_ind ⟨[], by rw [List.append_nil, List.append_nil]⟩ ?_
  intro S r ⟨l, e⟩
  rw [← List.append_assoc, evs_snoc, e]
  exact ⟨l ++ [r.on A (evs A R ++ l)], by rw [List.append_assoc]⟩
theorem getD_pre {α : Type} {l m : List α} {i : Nat} {z : α} (h : i < l.length) : (l ++ m).getD i z = l.getD i z := by
  rw [List.getD_eq_getElem?_getD, List.getD_eq_getElem?_getD, List.getElem?_append_left h]
theorem getD_last {α : Type} {l : List α} {a z : α} : (l ++ [a]).getD l.length z = a := by
  rw [List.getD_eq_getElem?_getD, List.getElem?_append_right (Nat.le_refl _), Nat.sub_self]; rfl
/-- the rows of a tree, behind those that stand; its own one is the last -/
def Sm.rows : Sm → List Rw → List Rw
  | .w k, R => R ++ [.w k]
  | .n v, R => R ++ [.n v]
  | .o h a b, R => b.rows (a.rows R) ++ [.o h ((a.rows R).length - 1) ((b.rows (a.rows R)).length - 1)]
  | .d r a c, R => a.rows R ++ [.d r ((a.rows R).length - 1) c]
theorem rows_len : ∀ (s : Sm) (R : List Rw), (s.rows R).length = R.length + s.sz
  | .w k, R => by simp [Sm.rows, Sm.sz]
  | .n v, R => by simp [Sm.rows, Sm.sz]
  | .o h a b, R => by
    have h1 := rows_len a R
    have h2 := rows_len b (a.rows R)
    simp only [Sm.rows, Sm.sz, List.length_append, List.length_cons, List.length_nil]
    omega
  | .d r a c, R => by
    have h1 := rows_len a R
    simp only [Sm.rows, Sm.sz, List.length_append, List.length_cons, List.length_nil]
    omega
theorem rows_pre : ∀ (s : Sm) (R : List Rw), ∃ S, s.rows R = R ++ S
  | .w k, R => ⟨_, rfl⟩
  | .n v, R => ⟨_, rfl⟩
  | .o h a b, R => by
    obtain ⟨S1, e1⟩ := rows_pre a R
    obtain ⟨S2, e2⟩ := rows_pre b (a.rows R)
    refine ⟨S1 ++ (S2 ++ [.o h ((a.rows R).length - 1) ((b.rows (a.rows R)).length - 1)]), ?_⟩
    show b.rows (a.rows R) ++ [.o h ((a.rows R).length - 1) ((b.rows (a.rows R)).length - 1)] = _
    generalize [Rw.o h ((a.rows R).length - 1) ((b.rows (a.rows R)).length - 1)] = z
    rw [e2, e1, List.append_assoc, List.append_assoc]
  | .d r a c, R => by
    obtain ⟨S1, e1⟩ := rows_pre a R
    refine ⟨S1 ++ [.d r ((a.rows R).length - 1) c], ?_⟩
    show a.rows R ++ [.d r ((a.rows R).length - 1) c] = _
    generalize [Rw.d r ((a.rows R).length - 1) c] = z
    rw [e1, List.append_assoc]
/-- the last row's worth is the tree's -/
theorem rows_ev {α : Type} (A : Al α) : ∀ (s : Sm) (R : List Rw), (evs A (s.rows R)).getD ((s.rows R).length - 1) A.z = s.fold A
  | .w k, R => by
    rw [Sm.rows, evs_snoc, List.length_append, ← evs_len A R]
    exact getD_last
  | .n v, R => by
    rw [Sm.rows, evs_snoc, List.length_append, ← evs_len A R]
    exact getD_last
  | .o h a b, R => by
    have h1 := rows_ev A a R
    have h2 := rows_ev A b (a.rows R)
    obtain ⟨S2, e2⟩ := rows_pre b (a.rows R)
    have la := rows_len a R
    have pa := a.sz1
    have h3 : (evs A (b.rows (a.rows R))).getD ((a.rows R).length - 1) A.z = a.fold A := by
      rw [e2]
      obtain ⟨l, e⟩ := evs_pre A (a.rows R) S2
      rw [e, getD_pre (by rw [evs_len]; omega), h1]
    rw [Sm.rows, evs_snoc, List.length_append]
    generalize b.rows (a.rows R) = Rb at *
    generalize (a.rows R).length - 1 = x at *
    show (evs A Rb ++ [A.o h _ _]).getD (Rb.length) A.z = _
    rw [← evs_len A Rb, getD_last, h3, evs_len, h2]; rfl
  | .d r a c, R => by
    have h1 := rows_ev A a R
    rw [Sm.rows, evs_snoc, List.length_append]
    generalize a.rows R = Ra at *
    show (evs A Ra ++ [A.d r _ c]).getD (Ra.length) A.z = _
    rw [← evs_len A Ra, getD_last, evs_len, h1]; rfl
/-- rows that look back only -/
def Rw.wf (T m : Int) (n : Nat) : Rw → Prop
  | .w k => 0 ≤ k ∧ k < m
  | .n v => 0 ≤ v ∧ v ≤ T
  | .o _ i j => i < n ∧ j < n
  | .d _ i c => i < n ∧ 1 ≤ c ∧ c ≤ T
def wfR (T m : Int) (R : List Rw) : Prop := ∀ (i : Nat) (r : Rw), R[i]? = some r → r.wf T m i
theorem wfR_snoc {T m : Int} {R : List Rw} {r : Rw} (h : wfR T m R) (hr : r.wf T m R.length) : wfR T m (R ++ [r]) := fun i x e => by
  rcases Nat.lt_or_ge i R.length with c | c
  · rw [List.getElem?_append_left c] at e; exact h i x e
  · rw [List.getElem?_append_right c] at e
    cases hd : i - R.length with
    | zero =>
      rw [hd] at e
      cases e
      have : i = R.length := by omega
      subst this; exact hr
    | succ n => rw [hd] at e; simp at e
theorem wfR_pre {T m : Int} {R S : List Rw} (h : wfR T m (R ++ S)) : wfR T m R := fun i x e => h i x (by
  rw [List.getElem?_append_left (List.getElem?_eq_some_iff.mp e).1]; exact e)
/-- the trees that rows tell -/
def tA : Al Sm := ⟨.n 0, .w, .n, .o, .d⟩
theorem getD_map {α β : Type} (f : α → β) (l : List α) (i : Nat) (z : α) (z' : β) (h : i < l.length) : (l.map f).getD i z' = f (l.getD i z) := by
  rw [List.getD_eq_getElem?_getD, List.getD_eq_getElem?_getD, List.getElem?_map, List.getElem?_eq_getElem h]; rfl
theorem evs_tree {α : Type} (A : Al α) {T m : Int} : ∀ R : List Rw, wfR T m R → evs A R = (evs tA R).map (Sm.fold A) := by
  refine snoc_ind (fun _ => rfl) ?_
  intro R r ih h
  have ih := ih (wfR_pre h)
  have hr := h R.length r (by rw [List.getElem?_append_right (Nat.le_refl _), Nat.sub_self]; rfl)
  rw [evs_snoc, evs_snoc, List.map_append, ih]
  congr 1
  have l := evs_len tA R
  cases r with
  | w k => rfl
  | n v => rfl
  | o hd i j =>
    show [A.o hd _ _] = [A.o hd _ _]
    rw [getD_map (Sm.fold A) (evs tA R) i tA.z A.z (by rw [l]; exact hr.1), getD_map (Sm.fold A) (evs tA R) j tA.z A.z (by rw [l]; exact hr.2)]
  | d q i c =>
    show [A.d q _ c] = [A.d q _ c]
    rw [getD_map (Sm.fold A) (evs tA R) i tA.z A.z (by rw [l]; exact hr.1)]
theorem trees_ok {T m : Int} : ∀ R : List Rw, wfR T m R → ∀ s ∈ evs tA R, s.ok T m := by
  refine snoc_ind (fun _ s h => by cases h) ?_
  intro R r ih h s hs
  have ih := ih (wfR_pre h)
  have hr := h R.length r (by rw [List.getElem?_append_right (Nat.le_refl _), Nat.sub_self]; rfl)
  rw [evs_snoc] at hs
  have at_ : ∀ i, i < R.length → ((evs tA R).getD i tA.z).ok T m := fun i hi => by
    rw [List.getD_eq_getElem?_getD, List.getElem?_eq_getElem (by rw [evs_len]; exact hi)]
    exact ih _ (List.getElem_mem _)
  rcases List.mem_append.mp hs with c | c
  · exact ih s c
  · rw [List.mem_singleton.mp c]
    cases r with
    | w k => exact hr
    | n v => exact hr
    | o h i j => exact ⟨at_ i hr.1, at_ j hr.2⟩
    | d q i c => exact ⟨at_ i hr.1, hr.2⟩
theorem rows_wf {T m : Int} : ∀ (s : Sm) (R : List Rw), s.ok T m → wfR T m R → wfR T m (s.rows R)
  | .w k, R, h, g => wfR_snoc g h
  | .n v, R, h, g => wfR_snoc g h
  | .o h a b, R, k, g => by
    have h1 := rows_wf a R k.1 g
    have h2 := rows_wf b _ k.2 h1
    have la := rows_len a R
    have lb := rows_len b (a.rows R)
    have := a.sz1; have := b.sz1
    exact wfR_snoc h2 ⟨by omega, by omega⟩
  | .d r a c, R, k, g => by
    have h1 := rows_wf a R k.1 g
    have la := rows_len a R
    have := a.sz1
    exact wfR_snoc h1 ⟨by omega, k.2⟩
/-! ## worths -/
def op2 (M : Int) : H2 → Int → Int → Int
  | .plus, a, b => (a + b) % M
  | .less, a, b => (a - b) % M
  | .times, a, b => a * b % M
  | .least, a, b => min a b
  | .most, a, b => max a b
def opd (r : Bool) (a c : Int) : Int := if r then a % c else a / c
def vA (M : Int) (ws : List Int) : Al Int := ⟨0, fun k => ws.getD k.toNat 0, fun v => v, op2 M, opd⟩
theorem op2_b {M : Int} (hM : 0 < M) {a b : Int} (ha : 0 ≤ a ∧ a < M) (hb : 0 ≤ b ∧ b < M) : ∀ h, 0 ≤ op2 M h a b ∧ op2 M h a b < M
  | .plus => ⟨Int.emod_nonneg _ (by omega), Int.emod_lt_of_pos _ hM⟩
  | .less => ⟨Int.emod_nonneg _ (by omega), Int.emod_lt_of_pos _ hM⟩
  | .times => ⟨Int.emod_nonneg _ (by omega), Int.emod_lt_of_pos _ hM⟩
  | .least => by show 0 ≤ min a b ∧ min a b < M; omega
  | .most => by show 0 ≤ max a b ∧ max a b < M; omega
theorem opd_b {a c M : Int} (ha : 0 ≤ a ∧ a < M) (hc : 0 < c) (r : Bool) : 0 ≤ opd r a c ∧ opd r a c < M := by
  unfold opd
  cases r with
  | true =>
    have := Int.emod_nonneg a (by omega : c ≠ 0)
    have := Int.emod_add_mul_ediv a c
    have := Int.mul_nonneg (Int.le_of_lt hc) (Int.ediv_nonneg ha.1 (Int.le_of_lt hc))
    show 0 ≤ a % c ∧ a % c < M
    omega
  | false =>
    have := Int.ediv_nonneg ha.1 (Int.le_of_lt hc)
    have := Int.ediv_le_self c ha.1
    show 0 ≤ a / c ∧ a / c < M
    omega
end SM

set_option Elab.async false
set_option linter.all false
set_option maxRecDepth 100000
namespace L41
open PySem PySem.Spec L2 DL
def k_PARTS : List (Str × PyData) := [(Str.ofString "word", .int 0), (Str.ofString "number", .int 0), (Str.ofString "plus", .int 2), (Str.ofString "less", .int 2), (Str.ofString "times", .int 2), (Str.ofString "over", .int 1), (Str.ofString "rest", .int 1), (Str.ofString "least", .int 2), (Str.ofString "most", .int 2)]
noncomputable def m__law_box : M Fl := (sSeq (sSet 2 (mDat (mIf (lift2 oLt (mVar 1) (lift1 oLen (mVar 0))) (lift2 oIx (mVar 0) (mVar 1)) (M.pure (.int 0))))) (sRet (mLst [(lift2 oMul (lift1 oAbs (mVar 2)) (lift1 oInt (bD (lift2 oGe (lift1 oAbs (mVar 2)) (lift2 oPow (M.pure (.int 10)) (M.pure (.int 18))))))), (lift2 oAdd (lift2 oAdd (lift2 oMod (lift1 oInt (mVar 2)) (M.pure (.int 2305843009213693951))) (lift2 oMul (M.pure (.int 39373)) (mVar 1))) (M.pure (.int 263000))), (M.pure (.int 0))])))
noncomputable def φ__law_box : Sl → Res C := run 2 3 [0, 1] m__law_box
noncomputable def m__law_built : M Fl := (sSeq (sSet 1 (mLst [])) (sSeq (sFor (mItems (mVar 0)) (gN 2) (sIf (lift2 oIn (lift2 oIx (mVar 2) (M.pure (.int 0))) (mTup [(M.pure (.str (Str.ofString "word"))), (M.pure (.str (Str.ofString "number")))])) (sApp 1 (mTup [(mVar 2), (M.pure (.int 1)), (M.pure (.int 1))])) (sIf (lift2 oIn (lift2 oIx (mVar 2) (M.pure (.int 0))) (mTup [(M.pure (.str (Str.ofString "over"))), (M.pure (.str (Str.ofString "rest")))])) (sSeq (sAsg (mIxV 1 (lift2 oIx (mVar 2) (M.pure (.int 1)))) (gT [(gN 3), (gN 4), (gN 5)])) (sApp 1 (mTup [(mTup [(lift2 oIx (mVar 2) (M.pure (.int 0))), (mVar 3), (lift2 oIx (mVar 2) (M.pure (.int 2)))]), (lift2 oAdd (mVar 4) (M.pure (.int 1))), (lift2 oAdd (mVar 5) (M.pure (.int 1)))]))) (sSeq (sSet2 6 7 (mDat (mIxV 1 (lift2 oIx (mVar 2) (M.pure (.int 1))))) (mDat (mIxV 1 (lift2 oIx (mVar 2) (M.pure (.int 2)))))) (sApp 1 (mTup [(mTup [(lift2 oIx (mVar 2) (M.pure (.int 0))), (lift2 oIx (mVar 6) (M.pure (.int 0))), (lift2 oIx (mVar 7) (M.pure (.int 0)))]), (lift2 oAdd (lift2 oAdd (lift2 oIx (mVar 6) (M.pure (.int 1))) (lift2 oIx (mVar 7) (M.pure (.int 1)))) (M.pure (.int 1))), (lift2 oAdd (lift2 oMax (lift2 oIx (mVar 6) (M.pure (.int 2))) (lift2 oIx (mVar 7) (M.pure (.int 2)))) (M.pure (.int 1)))])))))) (sRet (mDat (mIxV 1 (lift1 oNeg (M.pure (.int 1))))))))
noncomputable def φ__law_built : Sl → Res C := run 1 8 [0] m__law_built
noncomputable def m__law_cells : M Fl := (sSeq (sSet 2 (mOrC (lift1 oListC (mFrz (mSl (mVar 0) pNo (pInt (mVar 1))))) (mLst [(M.pure (.int 0))]))) (sSeq (sFor (mEnum (mFrz (mSl (mVar 0) (pInt (mVar 1)) (pInt (M.pure (.int 63)))))) (gT [(gN 3), (gN 4)]) (sSeq (sSet 5 (mDat (lift2 oMod (lift1 oInt (mVar 3)) (mVar 1)))) (sSetIx 2 (mVar 5) (lift2 oAdd (mIxV 2 (mVar 5)) (lift2 oMul (mVar 4) (lift2 oAdd (mVar 3) (M.pure (.int 2)))))))) (sRet (mVarM 2))))
noncomputable def φ__law_cells : Sl → Res C := run 2 6 [0, 1] m__law_cells
noncomputable def m__law_take : M Fl := (sSeq (sIf (lift2 oGt (mIxV 0 (M.pure (.int 0))) (M.pure (.int 0))) (sSeq (sSet 2 (mDat (lift2 oMod (lift1 oInt (mIxV 0 (M.pure (.int 0)))) (mVar 1)))) (sSeq (sSetIx 0 (M.pure (.int 0)) (lift2 oDiv (mIxV 0 (M.pure (.int 0))) (mVar 1))) (sRet (mDat (mVar 2))))) sSkip) (sSeq (sSetIx 0 (M.pure (.int 2)) (lift2 oAdd (mIxV 0 (M.pure (.int 2))) (M.pure (.int 1)))) (sSeq (sSet 3 (mDat (lift2 oMod (lift1 oInt (lift2 oMul (lift2 oAdd (mIxV 0 (M.pure (.int 1))) (lift2 oMul (M.pure (.int 48271)) (mIxV 0 (M.pure (.int 2))))) (lift2 oAdd (M.pure (.int 39373)) (mIxV 0 (M.pure (.int 2)))))) (M.pure (.int 2147483647))))) (sSeq (sSet 4 (mDat (lift2 oAdd (lift2 oMod (lift1 oInt (mVar 3)) (M.pure (.int 40009))) (M.pure (.int 7))))) (sSeq (sSet 5 (mDat (lift2 oMod (lift1 oInt (lift2 oMul (lift2 oAdd (lift2 oAdd (mVar 3) (mIxV 0 (M.pure (.int 2)))) (lift2 oDiv (mIxV 0 (M.pure (.int 1))) (M.pure (.int 1000003)))) (mVar 4))) (M.pure (.int 2147483629))))) (sRet (mDat (lift2 oMod (lift1 oInt (lift2 oDiv (lift2 oMod (lift1 oInt (lift2 oAdd (lift2 oMul (mVar 5) (M.pure (.int 48271))) (mVar 3))) (M.pure (.int 2147483587))) (M.pure (.int 64)))) (mVar 1)))))))))
noncomputable def φ__law_take : Sl → Res C := run 2 6 [0, 1] m__law_take
noncomputable def m__law_of : M Fl := (sRet (mDat (lift2 oIx (mVar 1) (mFrz (mCall φ__law_take (mSeqA [(agV 0), (agD (lift1 oLen (mVar 1)))]))))))
noncomputable def φ__law_of : Sl → Res C := run 2 2 [0, 1] m__law_of
noncomputable def m__law_two : M Fl := (sRet (mDat (lift2 oShl (M.pure (.int 1)) (mVar 0))))
noncomputable def φ__law_two : Sl → Res C := run 1 1 [0] m__law_two
noncomputable def m__law_edges : M Fl := (sSeq (sSet 3 (mDat (lift2 oSub (mFrz (mCall φ__law_two (mSeqA [(agD (mVar 1))]))) (M.pure (.int 1))))) (sRet (mDat (lift1 oTuple (mFrz (mLc [4] (mRng1 (mVar 2)) (gN 4) mYes (mFrz (mCall φ__law_of (mSeqA [(agV 0), (agD (mFrz (mLst [(mFrz (mCall φ__law_take (mSeqA [(agV 0), (agD (lift2 oAdd (mVar 3) (M.pure (.int 1))))]))), (mFrz (mCall φ__law_take (mSeqA [(agV 0), (agD (lift2 oAdd (mVar 3) (M.pure (.int 1))))]))), (mVar 3), (M.pure (.int 0)), (lift2 oMax (M.pure (.int 0)) (lift2 oSub (mVar 3) (mFrz (mCall φ__law_take (mSeqA [(agV 0), (agD (M.pure (.int 9)))]))))), (lift2 oMin (mVar 3) (mFrz (mCall φ__law_take (mSeqA [(agV 0), (agD (M.pure (.int 99)))]))))])))])))))))))
noncomputable def φ__law_edges : Sl → Res C := run 3 5 [0, 1, 2] m__law_edges
noncomputable def m__law_same (rec : Sl → Res C) : M Fl := (sSeq (sIf (tTru (lift1 (oIsi2 .list .tuple) (mVar 1))) (sSeq (sIf (DL.tOr (lift2 oNe (lift1 (oIsi .list) (mVar 0)) (lift1 (oIsi .list) (mVar 1))) (lift2 oNe (lift1 (oIsi .tuple) (mVar 0)) (lift1 (oIsi .tuple) (mVar 1)))) (sRet (mDat (M.pure (.bool false)))) sSkip) (sRet (mDat (mAnd (bD (lift2 oEq (lift1 oLen (mVar 0)) (lift1 oLen (mVar 1)))) (lift1 oAll (mFrz (mLc [2, 3] (mZip (mVar 0) (mVar 1)) (gT [(gN 2), (gN 3)]) mYes (mFrz (mCall rec (mSeqA [(agD (mVar 2)), (agD (mVar 3))])))))))))) sSkip) (sSeq (sIf (lift2 oIsX (mVar 1) (M.pure .none)) (sRet (mDat (bD (lift2 oIsX (mVar 0) (M.pure .none))))) sSkip) (sSeq (sIf (tTru (lift1 (oIsi2 .bool .str) (mVar 1))) (sRet (mDat (mAnd (bD (lift2 oEq (lift1 (oIsi .bool) (mVar 0)) (lift1 (oIsi .bool) (mVar 1)))) (mAnd (bD (lift2 oEq (lift1 (oIsi .str) (mVar 0)) (lift1 (oIsi .str) (mVar 1)))) (bD (lift2 oEq (mVar 0) (mVar 1))))))) sSkip) (sRet (mDat (mAnd (lift1 (oIsi .int) (mVar 0)) (mAnd (mNot (lift1 (oIsi .bool) (mVar 0))) (bD (lift2 oEq (mVar 0) (mVar 1))))))))))
noncomputable def φ__law_same : Nat → Sl → Res C
  | 0 => fun _ => .stuck
  | n + 1 => run 2 4 [0, 1] (m__law_same (φ__law_same n))
noncomputable def m__law_joint : M Fl := (sSeq (sSet 4 (mDat (lift2 oSub (mFrz (mCall φ__law_two (mSeqA [(agD (mVar 0))]))) (M.pure (.int 1))))) (sSeq (sSet 5 (mDisp [((M.pure (.str (Str.ofString "plus"))), (mTup [(lift2 oAdd (lift2 oIx (mVar 2) (M.pure (.int 0))) (lift2 oIx (mVar 3) (M.pure (.int 0)))), (lift2 oAdd (lift2 oIx (mVar 2) (M.pure (.int 1))) (lift2 oIx (mVar 3) (M.pure (.int 1))))])), ((M.pure (.str (Str.ofString "less"))), (mTup [(lift2 oSub (lift2 oIx (mVar 2) (M.pure (.int 0))) (lift2 oIx (mVar 3) (M.pure (.int 1)))), (lift2 oSub (lift2 oIx (mVar 2) (M.pure (.int 1))) (lift2 oIx (mVar 3) (M.pure (.int 0))))])), ((M.pure (.str (Str.ofString "times"))), (mTup [(lift2 oMul (lift2 oIx (mVar 2) (M.pure (.int 0))) (lift2 oIx (mVar 3) (M.pure (.int 0)))), (lift2 oMul (lift2 oIx (mVar 2) (M.pure (.int 1))) (lift2 oIx (mVar 3) (M.pure (.int 1))))]))])) (sSeq (sIf (tDIn true 5 (mVar 1)) (sSeq (sAsg (mDIx 5 (mVar 1)) (gT [(gN 6), (gN 7)])) (sRet (mDat (mIf (DL.tAnd (lift2 oGe (mVar 6) (M.pure (.int 0))) (lift2 oLe (mVar 7) (mVar 4))) (mTup [(mVar 6), (mVar 7)]) (mTup [(M.pure (.int 0)), (mVar 4)]))))) sSkip) (sRet (mDat (mIf (lift2 oEq (mVar 1) (M.pure (.str (Str.ofString "least")))) (mTup [(lift2 oMin (lift2 oIx (mVar 2) (M.pure (.int 0))) (lift2 oIx (mVar 3) (M.pure (.int 0)))), (lift2 oMin (lift2 oIx (mVar 2) (M.pure (.int 1))) (lift2 oIx (mVar 3) (M.pure (.int 1))))]) (mTup [(lift2 oMax (lift2 oIx (mVar 2) (M.pure (.int 0))) (lift2 oIx (mVar 3) (M.pure (.int 0)))), (lift2 oMax (lift2 oIx (mVar 2) (M.pure (.int 1))) (lift2 oIx (mVar 3) (M.pure (.int 1))))])))))))
noncomputable def φ__law_joint : Sl → Res C := run 4 8 [0, 1, 2, 3] m__law_joint
noncomputable def m__law_spans : M Fl := (sSeq (sSet 3 (mLst [])) (sSeq (sFor (mItems (mVar 1)) (gN 4) (sIf (lift2 oIn (lift2 oIx (mVar 4) (M.pure (.int 0))) (mTup [(M.pure (.str (Str.ofString "word"))), (M.pure (.str (Str.ofString "number")))])) (sApp 3 (mIf (lift2 oEq (lift2 oIx (mVar 4) (M.pure (.int 0))) (M.pure (.str (Str.ofString "word")))) (lift2 oIx (mVar 2) (lift2 oIx (mVar 4) (M.pure (.int 1)))) (mTup [(lift2 oIx (mVar 4) (M.pure (.int 1))), (lift2 oIx (mVar 4) (M.pure (.int 1)))]))) (sIf (lift2 oIn (lift2 oIx (mVar 4) (M.pure (.int 0))) (mTup [(M.pure (.str (Str.ofString "over"))), (M.pure (.str (Str.ofString "rest")))])) (sSeq (sAsg (mTup [(mIxV 3 (lift2 oIx (mVar 4) (M.pure (.int 1)))), (lift2 oIx (mVar 4) (M.pure (.int 2)))]) (gT [(gT [(gN 5), (gN 6)]), (gN 7)])) (sIf (lift2 oEq (lift2 oIx (mVar 4) (M.pure (.int 0))) (M.pure (.str (Str.ofString "over")))) (sApp 3 (mTup [(lift2 oDiv (mVar 5) (mVar 7)), (lift2 oDiv (mVar 6) (mVar 7))])) (sApp 3 (mIf (lift2 oEq (lift2 oDiv (mVar 5) (mVar 7)) (lift2 oDiv (mVar 6) (mVar 7))) (mTup [(lift2 oMod (mVar 5) (mVar 7)), (lift2 oMod (mVar 6) (mVar 7))]) (mTup [(M.pure (.int 0)), (lift2 oSub (mVar 7) (M.pure (.int 1)))]))))) (sApp 3 (mFrz (mCall φ__law_joint (mSeqA [(agD (mVar 0)), (agD (lift2 oIx (mVar 4) (M.pure (.int 0)))), (agD (mIxV 3 (lift2 oIx (mVar 4) (M.pure (.int 1))))), (agD (mIxV 3 (lift2 oIx (mVar 4) (M.pure (.int 2)))))]))))))) (sRet (mVarM 3))))
noncomputable def φ__law_spans : Sl → Res C := run 3 8 [0, 1, 2] m__law_spans
noncomputable def m__law_divisor : M Fl := (sSeq (sSet 2 (mDat (lift2 oSub (mFrz (mCall φ__law_two (mSeqA [(agD (mVar 1))]))) (M.pure (.int 1))))) (sSeq (sSet 3 (mDat (mFrz (mCall φ__law_of (mSeqA [(agV 0), (agD (mFrz (mLst [(lift2 oAdd (M.pure (.int 1)) (mFrz (mCall φ__law_take (mSeqA [(agV 0), (agD (M.pure (.int 20)))])))), (lift2 oAdd (M.pure (.int 1)) (mFrz (mCall φ__law_take (mSeqA [(agV 0), (agD (mVar 2))])))), (lift2 oSub (mVar 2) (mFrz (mCall φ__law_take (mSeqA [(agV 0), (agD (M.pure (.int 10)))])))), (lift2 oSub (lift2 oAdd (mFrz (mCall φ__law_two (mSeqA [(agD (mFrz (mCall φ__law_take (mSeqA [(agV 0), (agD (mVar 1))]))))]))) (mFrz (mCall φ__law_take (mSeqA [(agV 0), (agD (M.pure (.int 3)))])))) (M.pure (.int 1))), (lift2 oAdd (M.pure (.int 1)) (mFrz (mCall φ__law_take (mSeqA [(agV 0), (agD (M.pure (.int 1000)))]))))])))]))))) (sRet (mDat (lift2 oMax (M.pure (.int 1)) (lift2 oMin (mVar 3) (mVar 2)))))))
noncomputable def φ__law_divisor : Sl → Res C := run 2 4 [0, 1] m__law_divisor
noncomputable def m__law_rows : M Fl := (sSeq (sSet 3 (mDat (lift2 oSub (mFrz (mCall φ__law_two (mSeqA [(agD (mVar 1))]))) (M.pure (.int 1))))) (sSeq (sSet 4 (mLst [(mTup [(M.pure (.str (Str.ofString "word"))), (M.pure (.int 0))]), (mTup [(M.pure (.str (Str.ofString "word"))), (mFrz (mCall φ__law_take (mSeqA [(agV 0), (agD (M.pure (.int 3)))])))]), (mTup [(M.pure (.str (Str.ofString "number"))), (lift2 oMin (mVar 3) (mFrz (mCall φ__law_of (mSeqA [(agV 0), (agD (mFrz (mLst [(mFrz (mCall φ__law_take (mSeqA [(agV 0), (agD (M.pure (.int 9)))]))), (mFrz (mCall φ__law_take (mSeqA [(agV 0), (agD (lift2 oAdd (mVar 3) (M.pure (.int 1))))])))])))]))))])])) (sSeq (sFor (mRng1 (lift2 oAdd (M.pure (.int 1)) (mFrz (mCall φ__law_take (mSeqA [(agV 0), (agD (mVar 2))]))))) (gN 5) (sSeq (sSet 6 (mDat (mFrz (mCall φ__law_of (mSeqA [(agV 0), (agD (mFrz (mLst [(M.pure (.str (Str.ofString "plus"))), (M.pure (.str (Str.ofString "less"))), (M.pure (.str (Str.ofString "times"))), (M.pure (.str (Str.ofString "over"))), (M.pure (.str (Str.ofString "over"))), (M.pure (.str (Str.ofString "rest"))), (M.pure (.str (Str.ofString "rest"))), (M.pure (.str (Str.ofString "least"))), (M.pure (.str (Str.ofString "most")))])))]))))) (sIf (lift2 oIn (mVar 6) (mTup [(M.pure (.str (Str.ofString "over"))), (M.pure (.str (Str.ofString "rest")))])) (sApp 4 (mTup [(mVar 6), (mFrz (mCall φ__law_take (mSeqA [(agV 0), (agD (mLenV 4))]))), (mFrz (mCall φ__law_divisor (mSeqA [(agV 0), (agD (mVar 1))])))])) (sApp 4 (mTup [(mVar 6), (mFrz (mCall φ__law_take (mSeqA [(agV 0), (agD (mLenV 4))]))), (mFrz (mCall φ__law_take (mSeqA [(agV 0), (agD (mLenV 4))])))]))))) (sRet (mVarM 4)))))
noncomputable def φ__law_rows : Sl → Res C := run 3 7 [0, 1, 2] m__law_rows
noncomputable def m__law_sum : M Fl := (sSeq (sFor (mRng1 (M.pure (.int 6))) (gN 2) (sSeq (sSet 3 (mDat (mFrz (mCall φ__law_rows (mSeqA [(agV 0), (agD (mVar 1)), (agD (M.pure (.int 7)))]))))) (sSeq (sAsg (mFrz (mCall φ__law_built (mSeqA [(agD (mVar 3))]))) (gT [(gN 4), (gN 5), (gN 6)])) (sIf (DL.tAnd (lift2 oLe (mVar 5) (M.pure (.int 100))) (lift2 oLe (mVar 6) (M.pure (.int 18)))) (sRet (mDat (mTup [(mVar 4), (mVar 3)]))) sSkip)))) (sSeq (sSet 3 (mDat (mFrz (mLst [(mTup [(M.pure (.str (Str.ofString "word"))), (M.pure (.int 0))]), (mTup [(M.pure (.str (Str.ofString "over"))), (M.pure (.int 0)), (lift2 oMin (M.pure (.int 10)) (lift2 oSub (mFrz (mCall φ__law_two (mSeqA [(agD (mVar 1))]))) (M.pure (.int 1))))])])))) (sRet (mDat (mTup [(lift2 oIx (mFrz (mCall φ__law_built (mSeqA [(agD (mVar 3))]))) (M.pure (.int 0))), (mVar 3)])))))
noncomputable def φ__law_sum : Sl → Res C := run 2 7 [0, 1] m__law_sum
noncomputable def m__law_wide : M Fl := (sRet (mCall φ__law_of (mSeqA [(agV 0), (agD (mFrz (mLst [(M.pure (.int 8)), (M.pure (.int 16)), (M.pure (.int 32)), (M.pure (.int 64)), (lift2 oAdd (M.pure (.int 1)) (mFrz (mCall φ__law_take (mSeqA [(agV 0), (agD (M.pure (.int 64)))])))), (lift2 oAdd (M.pure (.int 1)) (mFrz (mCall φ__law_take (mSeqA [(agV 0), (agD (M.pure (.int 12)))]))))])))])))
noncomputable def φ__law_wide : Sl → Res C := run 1 1 [0] m__law_wide
noncomputable def m__law_worths : M Fl := (sSeq (sSet2 3 4 (mLst []) (mDat (mFrz (mCall φ__law_two (mSeqA [(agD (mVar 0))]))))) (sSeq (sFor (mItems (mVar 1)) (gN 5) (sSeq (sIf (lift2 oIn (lift2 oIx (mVar 5) (M.pure (.int 0))) (mTup [(M.pure (.str (Str.ofString "word"))), (M.pure (.str (Str.ofString "number")))])) (sSeq (sApp 3 (mIf (lift2 oEq (lift2 oIx (mVar 5) (M.pure (.int 0))) (M.pure (.str (Str.ofString "word")))) (lift2 oIx (mVar 2) (lift2 oIx (mVar 5) (M.pure (.int 1)))) (lift2 oIx (mVar 5) (M.pure (.int 1))))) sCt) sSkip) (sSeq (sSet2 6 7 (mDat (mIxV 3 (lift2 oIx (mVar 5) (M.pure (.int 1))))) (mDat (mIf (lift2 oIn (lift2 oIx (mVar 5) (M.pure (.int 0))) (mTup [(M.pure (.str (Str.ofString "over"))), (M.pure (.str (Str.ofString "rest")))])) (lift2 oIx (mVar 5) (M.pure (.int 2))) (mIxV 3 (lift2 oIx (mVar 5) (M.pure (.int 2))))))) (sIf (lift2 oIn (lift2 oIx (mVar 5) (M.pure (.int 0))) (mTup [(M.pure (.str (Str.ofString "over"))), (M.pure (.str (Str.ofString "rest")))])) (sApp 3 (mIf (lift2 oEq (lift2 oIx (mVar 5) (M.pure (.int 0))) (M.pure (.str (Str.ofString "over")))) (lift2 oDiv (mVar 6) (mVar 7)) (lift2 oMod (mVar 6) (mVar 7)))) (sApp 3 (mDIxN (mDisp [((M.pure (.str (Str.ofString "plus"))), (lift2 oMod (lift2 oAdd (mVar 6) (mVar 7)) (mVar 4))), ((M.pure (.str (Str.ofString "less"))), (lift2 oMod (lift2 oSub (mVar 6) (mVar 7)) (mVar 4))), ((M.pure (.str (Str.ofString "times"))), (lift2 oMod (lift2 oMul (mVar 6) (mVar 7)) (mVar 4))), ((M.pure (.str (Str.ofString "least"))), (lift2 oMin (mVar 6) (mVar 7))), ((M.pure (.str (Str.ofString "most"))), (lift2 oMax (mVar 6) (mVar 7)))]) (lift2 oIx (mVar 5) (M.pure (.int 0))))))))) (sRet (mVarM 3))))
noncomputable def φ__law_worths : Sl → Res C := run 3 8 [0, 1, 2] m__law_worths
noncomputable def m_is_number : M Fl := (sRet (mDat (mAnd (lift1 (oIsi .int) (mVar 0)) (mNot (lift1 (oIsi .bool) (mVar 0))))))
noncomputable def φ_is_number : Sl → Res C := run 1 1 [0] m_is_number
noncomputable def m_is_within : M Fl := (sRet (mDat (mAnd (mFrz (mCall φ_is_number (mSeqA [(agD (mVar 0))]))) (bD (tChain oLe oLe (mVar 1) (mVar 0) (mVar 2))))))
noncomputable def φ_is_within : Sl → Res C := run 3 3 [0, 1, 2] m_is_within
noncomputable def m_top_in : M Fl := (sRet (mDat (lift2 oSub (lift2 oShl (M.pure (.int 1)) (mVar 0)) (M.pure (.int 1)))))
noncomputable def φ_top_in : Sl → Res C := run 1 1 [0] m_top_in
noncomputable def m_is_head_of : M Fl := (sSeq (sIf (DL.tOr (DL.tNot (tTru (lift1 (oIsi .tuple) (mVar 1)))) (DL.tOr (lift2 oEq (mVar 1) (mTup [])) (DL.tOr (DL.tNot (tTru (lift1 (oIsi .str) (lift2 oIx (mVar 1) (M.pure (.int 0)))))) (lift1 (oNotInTab k_PARTS) (lift2 oIx (mVar 1) (M.pure (.int 0))))))) (sRet (mDat (M.pure (.bool false)))) sSkip) (sSeq (sSet 2 (mDat (lift1 (oTab k_PARTS) (lift2 oIx (mVar 1) (M.pure (.int 0)))))) (sSeq (sIf (lift2 oEq (mVar 2) (M.pure (.int 2))) (sRet (mDat (bD (lift2 oEq (lift1 oLen (mVar 1)) (M.pure (.int 3)))))) sSkip) (sSeq (sIf (lift2 oEq (mVar 2) (M.pure (.int 1))) (sRet (mDat (mAnd (bD (lift2 oEq (lift1 oLen (mVar 1)) (M.pure (.int 3)))) (mFrz (mCall φ_is_within (mSeqA [(agD (lift2 oIx (mVar 1) (M.pure (.int 2)))), (agD (M.pure (.int 1))), (agD (mFrz (mCall φ_top_in (mSeqA [(agD (mVar 0))]))))])))))) sSkip) (sRet (mDat (mAnd (bD (lift2 oEq (lift1 oLen (mVar 1)) (M.pure (.int 2)))) (mFrz (mCall φ_is_within (mSeqA [(agD (lift2 oIx (mVar 1) (M.pure (.int 1)))), (agD (M.pure (.int 0))), (agD (mFrz (mIf (lift2 oEq (lift2 oIx (mVar 1) (M.pure (.int 0))) (M.pure (.str (Str.ofString "word")))) (mDat (lift2 oSub (M.pure (.int 10)) (M.pure (.int 1)))) (mCall φ_top_in (mSeqA [(agD (mVar 0))])))))]))))))))))
noncomputable def φ_is_head_of : Sl → Res C := run 2 3 [0, 1] m_is_head_of
noncomputable def m_is_sum_in : M Fl := (sSeq (sSet2 2 3 (mLst [(mTup [(mVar 1), (M.pure (.int 1))])]) (mDat (M.pure (.int 0)))) (sSeq (sWhile (tCmpV neS 2 (mFrz (mLst []))) (sSeq (sAsg (mPop 2) (gT [(gN 4), (gN 5)])) (sSeq (sSet 3 (mDat (lift2 oAdd (mVar 3) (M.pure (.int 1))))) (sSeq (sIf (DL.tOr (lift2 oGt (mVar 5) (M.pure (.int 18))) (DL.tOr (lift2 oGt (mVar 3) (M.pure (.int 100))) (DL.tNot (tTru (mFrz (mCall φ_is_head_of (mSeqA [(agD (mVar 0)), (agD (mVar 4))]))))))) (sRet (mDat (M.pure (.bool false)))) sSkip) (sExtC 2 (mLc [6] (mItems (mFrz (mSl (mVar 4) (pInt (M.pure (.int 1))) (pInt (lift2 oAdd (M.pure (.int 1)) (lift1 (oTab k_PARTS) (lift2 oIx (mVar 4) (M.pure (.int 0))))))))) (gN 6) mYes (mTup [(mVar 6), (lift2 oAdd (mVar 5) (M.pure (.int 1)))]))))))) (sRet (mDat (M.pure (.bool true))))))
noncomputable def φ_is_sum_in : Sl → Res C := run 2 7 [0, 1] m_is_sum_in
noncomputable def m_sure_within : M Fl := (sSeq (sIf (DL.tNot (tTru (mFrz (mCall φ_is_within (mSeqA [(agD (mVar 0)), (agD (mVar 1)), (agD (mVar 2))]))))) (sErr .unfit) sSkip) (sRet (mDat (mVar 0))))
noncomputable def φ_sure_within : Sl → Res C := run 3 3 [0, 1, 2] m_sure_within
noncomputable def m_sure_width : M Fl := (sRet (mCall φ_sure_within (mSeqA [(agD (mVar 0)), (agD (M.pure (.int 1))), (agD (M.pure (.int 64)))])))
noncomputable def φ_sure_width : Sl → Res C := run 1 1 [0] m_sure_width
noncomputable def m_is_sum : M Fl := (sRet (mCall φ_is_sum_in (mSeqA [(agD (mFrz (mCall φ_sure_width (mSeqA [(agD (mVar 0))])))), (agD (mVar 1))])))
noncomputable def φ_is_sum : Sl → Res C := run 2 2 [0, 1] m_is_sum
noncomputable def m_rows_in : M Fl := (sSeq (sSet3 1 2 3 (mLst []) (mLst [(mTup [(mVar 0), (M.pure (.bool false))])]) (mLst [])) (sSeq (sWhile (tCmpV neS 2 (mFrz (mLst []))) (sSeq (sAsg (mPop 2) (gT [(gN 4), (gN 5)])) (sSeq (sSet 6 (mDat (lift1 (oTab k_PARTS) (lift2 oIx (mVar 4) (M.pure (.int 0)))))) (sSeq (sIf (DL.tAnd (lift2 oGt (mVar 6) (M.pure (.int 0))) (DL.tNot (tTru (mVar 5)))) (sSeq (sApp 2 (mTup [(mVar 4), (M.pure (.bool true))])) (sSeq (sExtC 2 (mLc [8] (mItems (mFrz (mRev (mFrz (mSl (mVar 4) (pInt (M.pure (.int 1))) (pInt (lift2 oAdd (M.pure (.int 1)) (mVar 6)))))))) (gN 8) mYes (mTup [(mVar 8), (M.pure (.bool false))]))) sCt)) sSkip) (sSeq (sIf (lift2 oEq (mVar 6) (M.pure (.int 0))) (sApp 1 (mVar 4)) (sIf (lift2 oEq (mVar 6) (M.pure (.int 1))) (sApp 1 (mTup [(lift2 oIx (mVar 4) (M.pure (.int 0))), (mPop 3), (lift2 oIx (mVar 4) (M.pure (.int 2)))])) (sSeq (sSet 7 (mDat (mPop 3))) (sApp 1 (mTup [(lift2 oIx (mVar 4) (M.pure (.int 0))), (mPop 3), (mVar 7)]))))) (sApp 3 (lift2 oSub (mLenV 1) (M.pure (.int 1))))))))) (sRet (mVarM 1))))
noncomputable def φ_rows_in : Sl → Res C := run 1 9 [0] m_rows_in
noncomputable def m_tupled (rec : Sl → Res C) : M Fl := (sRet (mDat (mIf (tTru (lift1 (oIsi2 .list .tuple) (mVar 0))) (lift1 oTuple (mFrz (mLc [1] (mItems (mVar 0)) (gN 1) mYes (mFrz (mCall rec (mSeqA [(agD (mVar 1))])))))) (mVar 0))))
noncomputable def φ_tupled : Nat → Sl → Res C
  | 0 => fun _ => .stuck
  | n + 1 => run 1 2 [0] (m_tupled (φ_tupled n))
noncomputable def m_sure_sum : M Fl := (sSeq (sSet 2 (mDat (mFrz (mCall (φ_tupled 24) (mSeqA [(agD (mVar 1))]))))) (sSeq (sIf (DL.tNot (tTru (mFrz (mCall φ_is_sum_in (mSeqA [(agD (mVar 0)), (agD (mVar 2))]))))) (sErr .unfit) sSkip) (sRet (mDat (mVar 2)))))
noncomputable def φ_sure_sum : Sl → Res C := run 2 3 [0, 1] m_sure_sum
noncomputable def m_words_in : M Fl := (sRet (mDat (lift1 oMaxL (mFrz (mCat (mLst [(M.pure (.int 0))]) (mLc [1] (mItems (mVar 0)) (gN 1) (lift2 oEq (lift2 oIx (mVar 1) (M.pure (.int 0))) (M.pure (.str (Str.ofString "word")))) (lift2 oAdd (lift2 oIx (mVar 1) (M.pure (.int 1))) (M.pure (.int 1)))))))))
noncomputable def φ_words_in : Sl → Res C := run 1 2 [0] m_words_in
noncomputable def m_put_into : M Fl := (sSeq (sSet 3 (mDat (mFrz (mCall φ_sure_width (mSeqA [(agD (mVar 0))]))))) (sSeq (sSet2 4 5 (mDat (mFrz (mCall φ_sure_sum (mSeqA [(agD (mVar 3)), (agD (mVar 1))])))) (mDat (mFrz (mCall (φ_tupled 24) (mSeqA [(agD (mVar 2))]))))) (sSeq (sSet 6 (mDat (mFrz (mCall φ_rows_in (mSeqA [(agD (mVar 4))]))))) (sSeq (sIf (DL.tOr (DL.tNot (tTru (lift1 (oIsi .tuple) (mVar 5)))) (DL.tNot (tChain oLe oLe (mFrz (mCall φ_words_in (mSeqA [(agD (mVar 6))]))) (lift1 oLen (mVar 5)) (M.pure (.int 10))))) (sErr .unfit) sSkip) (sSeq (sSet 5 (mDat (lift1 oTuple (mFrz (mLc [9] (mItems (mVar 5)) (gN 9) mYes (mFrz (mCall φ_sure_sum (mSeqA [(agD (mVar 3)), (agD (mVar 9))])))))))) (sSeq (sSet 7 (mLst [])) (sSeq (sFor (mItems (mVar 6)) (gN 8) (sIf (lift2 oIn (lift2 oIx (mVar 8) (M.pure (.int 0))) (mTup [(M.pure (.str (Str.ofString "word"))), (M.pure (.str (Str.ofString "number")))])) (sApp 7 (mIf (lift2 oEq (lift2 oIx (mVar 8) (M.pure (.int 0))) (M.pure (.str (Str.ofString "word")))) (lift2 oIx (mVar 5) (lift2 oIx (mVar 8) (M.pure (.int 1)))) (mVar 8))) (sIf (lift2 oIn (lift2 oIx (mVar 8) (M.pure (.int 0))) (mTup [(M.pure (.str (Str.ofString "over"))), (M.pure (.str (Str.ofString "rest")))])) (sApp 7 (mTup [(lift2 oIx (mVar 8) (M.pure (.int 0))), (mIxV 7 (lift2 oIx (mVar 8) (M.pure (.int 1)))), (lift2 oIx (mVar 8) (M.pure (.int 2)))])) (sApp 7 (mTup [(lift2 oIx (mVar 8) (M.pure (.int 0))), (mIxV 7 (lift2 oIx (mVar 8) (M.pure (.int 1)))), (mIxV 7 (lift2 oIx (mVar 8) (M.pure (.int 2))))]))))) (sRet (mCall φ_sure_sum (mSeqA [(agD (mVar 3)), (agD (mIxV 7 (lift1 oNeg (M.pure (.int 1)))))]))))))))))
noncomputable def φ_put_into : Sl → Res C := run 3 10 [0, 1, 2] m_put_into
noncomputable def m_wide_most : M Fl := (sRet (mDat (mTup [(lift2 oMax (lift2 oIx (mVar 0) (M.pure (.int 0))) (lift2 oIx (mVar 1) (M.pure (.int 0)))), (lift2 oMax (lift2 oIx (mVar 0) (M.pure (.int 1))) (lift2 oIx (mVar 1) (M.pure (.int 1))))])))
noncomputable def φ_wide_most : Sl → Res C := run 2 2 [0, 1] m_wide_most
noncomputable def m_span_of : M Fl := (sSeq (sSet 4 (mDat (mFrz (mCall φ_top_in (mSeqA [(agD (mVar 0))]))))) (sSeq (sIf (lift2 oEq (mVar 1) (M.pure (.str (Str.ofString "plus")))) (sRet (mDat (mIf (lift2 oLe (lift2 oAdd (lift2 oIx (mVar 2) (M.pure (.int 1))) (lift2 oIx (mVar 3) (M.pure (.int 1)))) (mVar 4)) (mTup [(lift2 oAdd (lift2 oIx (mVar 2) (M.pure (.int 0))) (lift2 oIx (mVar 3) (M.pure (.int 0)))), (lift2 oAdd (lift2 oIx (mVar 2) (M.pure (.int 1))) (lift2 oIx (mVar 3) (M.pure (.int 1))))]) (mTup [(M.pure (.int 0)), (mVar 4)])))) sSkip) (sSeq (sIf (lift2 oEq (mVar 1) (M.pure (.str (Str.ofString "less")))) (sRet (mDat (mIf (lift2 oGe (lift2 oIx (mVar 2) (M.pure (.int 0))) (lift2 oIx (mVar 3) (M.pure (.int 1)))) (mTup [(lift2 oSub (lift2 oIx (mVar 2) (M.pure (.int 0))) (lift2 oIx (mVar 3) (M.pure (.int 1)))), (lift2 oSub (lift2 oIx (mVar 2) (M.pure (.int 1))) (lift2 oIx (mVar 3) (M.pure (.int 0))))]) (mTup [(M.pure (.int 0)), (mVar 4)])))) sSkip) (sSeq (sIf (lift2 oEq (mVar 1) (M.pure (.str (Str.ofString "times")))) (sRet (mDat (mIf (lift2 oLe (lift2 oMul (lift2 oIx (mVar 2) (M.pure (.int 1))) (lift2 oIx (mVar 3) (M.pure (.int 1)))) (mVar 4)) (mTup [(lift2 oMul (lift2 oIx (mVar 2) (M.pure (.int 0))) (lift2 oIx (mVar 3) (M.pure (.int 0)))), (lift2 oMul (lift2 oIx (mVar 2) (M.pure (.int 1))) (lift2 oIx (mVar 3) (M.pure (.int 1))))]) (mTup [(M.pure (.int 0)), (mVar 4)])))) sSkip) (sSeq (sIf (lift2 oEq (mVar 1) (M.pure (.str (Str.ofString "over")))) (sRet (mDat (mTup [(lift2 oDiv (lift2 oIx (mVar 2) (M.pure (.int 0))) (mVar 3)), (lift2 oDiv (lift2 oIx (mVar 2) (M.pure (.int 1))) (mVar 3))]))) sSkip) (sSeq (sIf (lift2 oEq (mVar 1) (M.pure (.str (Str.ofString "rest")))) (sRet (mDat (mIf (lift2 oEq (lift2 oDiv (lift2 oIx (mVar 2) (M.pure (.int 0))) (mVar 3)) (lift2 oDiv (lift2 oIx (mVar 2) (M.pure (.int 1))) (mVar 3))) (mTup [(lift2 oMod (lift2 oIx (mVar 2) (M.pure (.int 0))) (mVar 3)), (lift2 oMod (lift2 oIx (mVar 2) (M.pure (.int 1))) (mVar 3))]) (mTup [(M.pure (.int 0)), (lift2 oSub (mVar 3) (M.pure (.int 1)))])))) sSkip) (sRet (mIf (lift2 oEq (mVar 1) (M.pure (.str (Str.ofString "least")))) (mDat (mTup [(lift2 oMin (lift2 oIx (mVar 2) (M.pure (.int 0))) (lift2 oIx (mVar 3) (M.pure (.int 0)))), (lift2 oMin (lift2 oIx (mVar 2) (M.pure (.int 1))) (lift2 oIx (mVar 3) (M.pure (.int 1))))])) (mCall φ_wide_most (mSeqA [(agD (mVar 2)), (agD (mVar 3))]))))))))))
noncomputable def φ_span_of : Sl → Res C := run 4 5 [0, 1, 2, 3] m_span_of
noncomputable def m_spans_in : M Fl := (sSeq (sSet 3 (mLst [])) (sSeq (sFor (mItems (mVar 1)) (gN 4) (sIf (lift2 oIn (lift2 oIx (mVar 4) (M.pure (.int 0))) (mTup [(M.pure (.str (Str.ofString "word"))), (M.pure (.str (Str.ofString "number")))])) (sApp 3 (mIf (lift2 oEq (lift2 oIx (mVar 4) (M.pure (.int 0))) (M.pure (.str (Str.ofString "word")))) (lift2 oIx (mVar 2) (lift2 oIx (mVar 4) (M.pure (.int 1)))) (mTup [(lift2 oIx (mVar 4) (M.pure (.int 1))), (lift2 oIx (mVar 4) (M.pure (.int 1)))]))) (sSeq (sSet 5 (mDat (mIf (lift2 oIn (lift2 oIx (mVar 4) (M.pure (.int 0))) (mTup [(M.pure (.str (Str.ofString "over"))), (M.pure (.str (Str.ofString "rest")))])) (lift2 oIx (mVar 4) (M.pure (.int 2))) (mIxV 3 (lift2 oIx (mVar 4) (M.pure (.int 2))))))) (sApp 3 (mFrz (mCall φ_span_of (mSeqA [(agD (mVar 0)), (agD (lift2 oIx (mVar 4) (M.pure (.int 0)))), (agD (mIxV 3 (lift2 oIx (mVar 4) (M.pure (.int 1))))), (agD (mVar 5))]))))))) (sRet (mVarM 3))))
noncomputable def φ_spans_in : Sl → Res C := run 3 6 [0, 1, 2] m_spans_in
noncomputable def m_is_span : M Fl := (sSeq (sIf (DL.tOr (DL.tNot (tTru (lift1 (oIsi .tuple) (mVar 1)))) (DL.tOr (lift2 oNe (lift1 oLen (mVar 1)) (M.pure (.int 2))) (DL.tNot (tTru (lift1 oAll (mFrz (mLc [2] (mItems (mVar 1)) (gN 2) mYes (mFrz (mCall φ_is_number (mSeqA [(agD (mVar 2))])))))))))) (sRet (mDat (M.pure (.bool false)))) sSkip) (sRet (mDat (bD (tChain3 oLe oLe oLe (M.pure (.int 0)) (lift2 oIx (mVar 1) (M.pure (.int 0))) (lift2 oIx (mVar 1) (M.pure (.int 1))) (mFrz (mCall φ_top_in (mSeqA [(agD (mVar 0))]))))))))
noncomputable def φ_is_span : Sl → Res C := run 2 3 [0, 1] m_is_span
noncomputable def m_sure_spans : M Fl := (sSeq (sSet 3 (mDat (mFrz (mCall (φ_tupled 24) (mSeqA [(agD (mVar 2))]))))) (sSeq (sIf (DL.tOr (DL.tNot (tTru (lift1 (oIsi .tuple) (mVar 3)))) (DL.tNot (tChain oLe oLe (mVar 1) (lift1 oLen (mVar 3)) (M.pure (.int 10))))) (sErr .unfit) sSkip) (sSeq (sIf (DL.tNot (tTru (lift1 oAll (mFrz (mLc [4] (mItems (mVar 3)) (gN 4) mYes (mFrz (mCall φ_is_span (mSeqA [(agD (mVar 0)), (agD (mVar 4))])))))))) (sErr .unfit) sSkip) (sRet (mDat (mVar 3))))))
noncomputable def φ_sure_spans : Sl → Res C := run 3 5 [0, 1, 2] m_sure_spans
noncomputable def m_sum_span : M Fl := (sSeq (sSet 3 (mDat (mFrz (mCall φ_sure_width (mSeqA [(agD (mVar 0))]))))) (sSeq (sSet 4 (mDat (mFrz (mCall φ_rows_in (mSeqA [(agD (mFrz (mCall φ_sure_sum (mSeqA [(agD (mVar 3)), (agD (mVar 1))]))))]))))) (sRet (mDat (lift2 oIx (mFrz (mCall φ_spans_in (mSeqA [(agD (mVar 3)), (agD (mVar 4)), (agD (mFrz (mCall φ_sure_spans (mSeqA [(agD (mVar 3)), (agD (mFrz (mCall φ_words_in (mSeqA [(agD (mVar 4))])))), (agD (mVar 2))]))))]))) (lift1 oNeg (M.pure (.int 1))))))))
noncomputable def φ_sum_span : Sl → Res C := run 3 5 [0, 1, 2] m_sum_span
noncomputable def m_sure_words : M Fl := (sSeq (sSet 3 (mDat (mFrz (mCall (φ_tupled 24) (mSeqA [(agD (mVar 2))]))))) (sSeq (sIf (DL.tOr (DL.tNot (tTru (lift1 (oIsi .tuple) (mVar 3)))) (DL.tNot (tChain oLe oLe (mVar 1) (lift1 oLen (mVar 3)) (M.pure (.int 10))))) (sErr .unfit) sSkip) (sSeq (sIf (DL.tNot (tTru (lift1 oAll (mFrz (mLc [4] (mItems (mVar 3)) (gN 4) mYes (mFrz (mCall φ_is_within (mSeqA [(agD (mVar 4)), (agD (M.pure (.int 0))), (agD (mFrz (mCall φ_top_in (mSeqA [(agD (mVar 0))]))))])))))))) (sErr .unfit) sSkip) (sRet (mDat (mVar 3))))))
noncomputable def φ_sure_words : Sl → Res C := run 3 5 [0, 1, 2] m_sure_words
noncomputable def m_joined : M Fl := (sSeq (sSet 4 (mDat (mFrz (mCall φ_top_in (mSeqA [(agD (mVar 0))]))))) (sSeq (sIf (lift2 oEq (mVar 1) (M.pure (.str (Str.ofString "plus")))) (sRet (mDat (lift2 oAnd (lift2 oAdd (mVar 2) (mVar 3)) (mVar 4)))) sSkip) (sSeq (sIf (lift2 oEq (mVar 1) (M.pure (.str (Str.ofString "less")))) (sRet (mDat (lift2 oAnd (lift2 oSub (mVar 2) (mVar 3)) (mVar 4)))) sSkip) (sSeq (sIf (lift2 oEq (mVar 1) (M.pure (.str (Str.ofString "times")))) (sRet (mDat (lift2 oAnd (lift2 oMul (mVar 2) (mVar 3)) (mVar 4)))) sSkip) (sSeq (sIf (lift2 oIn (mVar 1) (mTup [(M.pure (.str (Str.ofString "over"))), (M.pure (.str (Str.ofString "rest")))])) (sRet (mDat (mIf (lift2 oEq (mVar 1) (M.pure (.str (Str.ofString "over")))) (lift2 oDiv (mVar 2) (mVar 3)) (lift2 oMod (mVar 2) (mVar 3))))) sSkip) (sRet (mDat (mIf (lift2 oEq (mVar 1) (M.pure (.str (Str.ofString "least")))) (lift2 oMin (mVar 2) (mVar 3)) (lift2 oMax (mVar 2) (mVar 3))))))))))
noncomputable def φ_joined : Sl → Res C := run 4 5 [0, 1, 2, 3] m_joined
noncomputable def m_values_in : M Fl := (sSeq (sSet 3 (mLst [])) (sSeq (sFor (mItems (mVar 1)) (gN 4) (sIf (lift2 oIn (lift2 oIx (mVar 4) (M.pure (.int 0))) (mTup [(M.pure (.str (Str.ofString "word"))), (M.pure (.str (Str.ofString "number")))])) (sApp 3 (mIf (lift2 oEq (lift2 oIx (mVar 4) (M.pure (.int 0))) (M.pure (.str (Str.ofString "word")))) (lift2 oIx (mVar 2) (lift2 oIx (mVar 4) (M.pure (.int 1)))) (lift2 oIx (mVar 4) (M.pure (.int 1))))) (sApp 3 (mFrz (mCall φ_joined (mSeqA [(agD (mVar 0)), (agD (lift2 oIx (mVar 4) (M.pure (.int 0)))), (agD (mIxV 3 (lift2 oIx (mVar 4) (M.pure (.int 1))))), (agD (mIf (lift2 oIn (lift2 oIx (mVar 4) (M.pure (.int 0))) (mTup [(M.pure (.str (Str.ofString "over"))), (M.pure (.str (Str.ofString "rest")))])) (lift2 oIx (mVar 4) (M.pure (.int 2))) (mIxV 3 (lift2 oIx (mVar 4) (M.pure (.int 2))))))])))))) (sRet (mVarM 3))))
noncomputable def φ_values_in : Sl → Res C := run 3 5 [0, 1, 2] m_values_in
noncomputable def m_sum_value : M Fl := (sSeq (sSet 3 (mDat (mFrz (mCall φ_sure_width (mSeqA [(agD (mVar 0))]))))) (sSeq (sSet 4 (mDat (mFrz (mCall φ_rows_in (mSeqA [(agD (mFrz (mCall φ_sure_sum (mSeqA [(agD (mVar 3)), (agD (mVar 1))]))))]))))) (sRet (mDat (lift2 oIx (mFrz (mCall φ_values_in (mSeqA [(agD (mVar 3)), (agD (mVar 4)), (agD (mFrz (mCall φ_sure_words (mSeqA [(agD (mVar 3)), (agD (mFrz (mCall φ_words_in (mSeqA [(agD (mVar 4))])))), (agD (mVar 2))]))))]))) (lift1 oNeg (M.pure (.int 1))))))))
noncomputable def φ_sum_value : Sl → Res C := run 3 5 [0, 1, 2] m_sum_value
noncomputable def m_words_of : M Fl := (sRet (mCall φ_words_in (mSeqA [(agD (mFrz (mCall φ_rows_in (mSeqA [(agD (mFrz (mCall φ_sure_sum (mSeqA [(agD (mFrz (mCall φ_sure_width (mSeqA [(agD (mVar 0))])))), (agD (mVar 1))]))))]))))])))
noncomputable def φ_words_of : Sl → Res C := run 2 2 [0, 1] m_words_of
structure Q where
  script_ : Option C := none
  tin_ : Option C := none
  lap_ : Option C := none
  w_ : Option C := none
  top_so_ : Option C := none
  own_ : Option C := none
  rows_so_ : Option C := none
  words_so_ : Option C := none
  many_so_ : Option C := none
  spans_so_ : Option C := none
  k_ : Option C := none
  pair_so_ : Option C := none
  wide_so_ : Option C := none
  turn_ : Option C := none
  drawn_so_ : Option C := none
  parts_so_ : Option C := none
  small_so_ : Option C := none
  sizes_so_ : Option C := none
  far_so_ : Option C := none
  a_ : Option C := none
  b_ : Option C := none
  c_ : Option C := none
  deep_so_ : Option C := none
  bads_so_ : Option C := none
  goods_so_ : Option C := none
  its_ : Option C := none
def Q.sl (s : Q) : Sl := [s.script_, s.tin_, s.lap_, s.w_, s.top_so_, s.own_, s.rows_so_, s.words_so_, s.many_so_, s.spans_so_, s.k_, s.pair_so_, s.wide_so_, s.turn_, s.drawn_so_, s.parts_so_, s.small_so_, s.sizes_so_, s.far_so_, s.a_, s.b_, s.c_, s.deep_so_, s.bads_so_, s.goods_so_, s.its_]
noncomputable def q1 : M Fl := (sSet 1 (mCall φ__law_box (mSeqA [(agD (mFrz (mCall φ__law_cells (mSeqA [(agD (mVar 0)), (agD (M.pure (.int 1)))])))), (agD (M.pure (.int 0)))])))
noncomputable def q2 : M Fl := (sSet 3 (mDat (mFrz (mCall φ__law_wide (mSeqA [(agV 1)])))))
noncomputable def q3 : M Fl := (sSet 4 (mDat (lift2 oSub (mFrz (mCall φ__law_two (mSeqA [(agD (mVar 3))]))) (M.pure (.int 1)))))
noncomputable def q4 : M Fl := (sAsg (mFrz (mCall φ__law_sum (mSeqA [(agV 1), (agD (mVar 3))]))) (gT [(gN 5), (gN 6)]))
noncomputable def q5 : M Fl := (sSet 7 (mDat (mFrz (mCall φ__law_edges (mSeqA [(agV 1), (agD (mVar 3)), (agD (lift2 oAdd (M.pure (.int 3)) (mFrz (mCall φ__law_take (mSeqA [(agV 1), (agD (M.pure (.int 8)))])))))])))))
noncomputable def q6 : M Fl := (sRet (mDat (M.pure (.bool false))))
noncomputable def q7 : M Fl := (sIf (DL.tNot (tTru (mFrz (mCall (φ__law_same 24) (mSeqA [(agD (mFrz (mLst [(mFrz (mCall φ_is_sum (mSeqA [(agD (mVar 3)), (agD (mVar 5))]))), (mFrz (mCall φ_sum_value (mSeqA [(agD (mVar 3)), (agD (mVar 5)), (agD (mVar 7))])))]))), (agD (mFrz (mLst [(M.pure (.bool true)), (lift2 oIx (mFrz (mCall φ__law_worths (mSeqA [(agD (mVar 3)), (agD (mVar 6)), (agD (mVar 7))]))) (lift1 oNeg (M.pure (.int 1))))])))]))))) q6 sSkip)
noncomputable def q8 : M Fl := (sSet 8 (mDat (mFrz (mCall φ_words_of (mSeqA [(agD (mVar 3)), (agD (mVar 5))])))))
noncomputable def q9 : M Fl := (sRet (mDat (M.pure (.bool false))))
noncomputable def q10 : M Fl := (sIf (DL.tOr (DL.tNot (tChain oLe oLe (M.pure (.int 0)) (mVar 8) (M.pure (.int 3)))) (DL.tNot (tTru (mFrz (mCall (φ__law_same 24) (mSeqA [(agD (mFrz (mCall φ_sum_value (mSeqA [(agD (mVar 3)), (agD (mVar 5)), (agD (mFrz (mSl (mVar 7) pNo (pInt (mVar 8)))))])))), (agD (mFrz (mCall φ_sum_value (mSeqA [(agD (mVar 3)), (agD (mVar 5)), (agD (mVar 7))]))))])))))) q9 sSkip)
noncomputable def q11 : M Fl := (sSet 9 (mLst []))
noncomputable def q12 : M Fl := (sSet 11 (mDat (mFrz (lift1 oSortT (mFrz (mCall φ__law_edges (mSeqA [(agV 1), (agD (mVar 3)), (agD (M.pure (.int 2)))])))))))
noncomputable def q13 : M Fl := (sApp 9 (mTup [(lift2 oIx (mVar 11) (M.pure (.int 0))), (mFrz (mCall φ__law_of (mSeqA [(agV 1), (agD (mFrz (mLst [(lift2 oIx (mVar 11) (M.pure (.int 1))), (lift2 oMin (mVar 4) (lift2 oAdd (lift2 oIx (mVar 11) (M.pure (.int 0))) (mFrz (mCall φ__law_take (mSeqA [(agV 1), (agD (M.pure (.int 50)))])))))])))])))]))
noncomputable def q14 : M Fl := (sFor (mRng1 (M.pure (.int 3))) (gN 10) (sSeq q12 q13))
noncomputable def q15 : M Fl := (sSet 12 (mDat (lift2 oIx (mFrz (mCall φ__law_spans (mSeqA [(agD (mVar 3)), (agD (mVar 6)), (agD (mVarF 9))]))) (lift1 oNeg (M.pure (.int 1))))))
noncomputable def q16 : M Fl := (sRet (mDat (M.pure (.bool false))))
noncomputable def q17 : M Fl := (sIf (DL.tNot (tTru (mFrz (mCall (φ__law_same 24) (mSeqA [(agD (mFrz (mCall φ_sum_span (mSeqA [(agD (mVar 3)), (agD (mVar 5)), (agD (lift1 oTuple (mVarF 9)))])))), (agD (mVar 12))]))))) q16 sSkip)
noncomputable def q18 : M Fl := (sSet 14 (mDat (lift1 oTuple (mFrz (mLc [19, 20] (mItems (mVarF 9)) (gT [(gN 19), (gN 20)]) mYes (mFrz (mCall φ__law_of (mSeqA [(agV 1), (agD (mFrz (mLst [(mVar 19), (mVar 20), (lift2 oAdd (mVar 19) (mFrz (mCall φ__law_take (mSeqA [(agV 1), (agD (lift2 oAdd (lift2 oSub (mVar 20) (mVar 19)) (M.pure (.int 1))))]))))])))]))))))))
noncomputable def q19 : M Fl := (sRet (mDat (M.pure (.bool false))))
noncomputable def q20 : M Fl := (sIf (DL.tNot (tChain oLe oLe (lift2 oIx (mVar 12) (M.pure (.int 0))) (lift2 oIx (mFrz (mCall φ__law_worths (mSeqA [(agD (mVar 3)), (agD (mVar 6)), (agD (mVar 14))]))) (lift1 oNeg (M.pure (.int 1)))) (lift2 oIx (mVar 12) (M.pure (.int 1))))) q19 sSkip)
noncomputable def q21 : M Fl := (sFor (mRng1 (M.pure (.int 6))) (gN 13) (sSeq q18 q20))
noncomputable def q22 : M Fl := (sSet 15 (mDat (mFrz (mLc [10] (mRng1 (M.pure (.int 3))) (gN 10) mYes (mFrz (mCall φ__law_sum (mSeqA [(agV 1), (agD (mVar 3))])))))))
noncomputable def q23 : M Fl := (sSet 16 (mDat (mTup [(M.pure (.str (Str.ofString "plus"))), (mTup [(M.pure (.str (Str.ofString "rest"))), (mTup [(M.pure (.str (Str.ofString "word"))), (M.pure (.int 0))]), (lift2 oAdd (M.pure (.int 1)) (mFrz (mCall φ__law_take (mSeqA [(agV 1), (agD (lift2 oMin (M.pure (.int 9)) (mVar 4)))]))))]), (mTup [(M.pure (.str (Str.ofString "least"))), (mTup [(M.pure (.str (Str.ofString "word"))), (M.pure (.int 1))]), (mTup [(M.pure (.str (Str.ofString "word"))), (M.pure (.int 2))])])])))
noncomputable def q24 : M Fl := (sSet 17 (mDat (mFrz (mLc [25] (mItems (mVar 15)) (gN 25) mYes (mFrz (mCall φ__law_built (mSeqA [(agD (lift2 oIx (mVar 25) (M.pure (.int 1))))])))))))
noncomputable def q25 : M Fl := (sSet 18 (mDat (mFrz (mCall φ_put_into (mSeqA [(agD (mVar 3)), (agD (mVar 16)), (agD (lift1 oTuple (mFrz (mLc [25] (mItems (mVar 15)) (gN 25) mYes (lift2 oIx (mVar 25) (M.pure (.int 0)))))))])))))
noncomputable def q26 : M Fl := (sAsg (mFrz (mLc [25] (mItems (mVar 15)) (gN 25) mYes (lift2 oIx (mFrz (mCall φ__law_worths (mSeqA [(agD (mVar 3)), (agD (lift2 oIx (mVar 25) (M.pure (.int 1)))), (agD (mVar 7))]))) (lift1 oNeg (M.pure (.int 1)))))) (gTL [(gN 19), (gN 20), (gN 21)]))
noncomputable def q27 : M Fl := (sRet (mDat (M.pure (.bool false))))
noncomputable def q28 : M Fl := (sIf (DL.tNot (tTru (mFrz (mCall (φ__law_same 24) (mSeqA [(agD (mFrz (mCall φ_sum_value (mSeqA [(agD (mVar 3)), (agD (mVar 18)), (agD (mVar 7))])))), (agD (lift2 oMod (lift2 oAdd (lift2 oMod (mVar 19) (lift2 oIx (lift2 oIx (mVar 16) (M.pure (.int 1))) (M.pure (.int 2)))) (lift2 oMin (mVar 20) (mVar 21))) (lift2 oAdd (mVar 4) (M.pure (.int 1)))))]))))) q27 sSkip)
noncomputable def q29 : M Fl := (sIf (DL.tAnd (lift2 oLt (lift1 oSum (mFrz (mLc [25] (mItems (mVar 17)) (gN 25) mYes (lift2 oIx (mVar 25) (M.pure (.int 1)))))) (M.pure (.int 95))) (lift2 oLt (lift1 oMaxL (mFrz (mLc [25] (mItems (mVar 17)) (gN 25) mYes (lift2 oIx (mVar 25) (M.pure (.int 2)))))) (M.pure (.int 16)))) (sSeq q25 (sSeq q26 q28)) sSkip)
noncomputable def q30 : M Fl := (sFor (mRng1 (M.pure (.int 4))) (gN 2) (sSeq q2 (sSeq q3 (sSeq q4 (sSeq q5 (sSeq q7 (sSeq q8 (sSeq q10 (sSeq q11 (sSeq q14 (sSeq q15 (sSeq q17 (sSeq q21 (sSeq q22 (sSeq q23 (sSeq q24 q29))))))))))))))))
noncomputable def q31 : M Fl := (sSet 22 (mDat (mTup [(M.pure (.str (Str.ofString "word"))), (M.pure (.int 0))])))
noncomputable def q32 : M Fl := (sSet 22 (mDat (mTup [(M.pure (.str (Str.ofString "over"))), (mVar 22), (M.pure (.int 1))])))
noncomputable def q33 : M Fl := (sFor (mRng1 (M.pure (.int 17))) (gN 10) q32)
noncomputable def q34 : M Fl := (sSet 12 (mDat (mTup [(M.pure (.str (Str.ofString "number"))), (M.pure (.int 0))])))
noncomputable def q35 : M Fl := (sSet 12 (mDat (mTup [(M.pure (.str (Str.ofString "plus"))), (mVar 12), (mVar 12)])))
noncomputable def q36 : M Fl := (sFor (mRng1 (M.pure (.int 6))) (gN 10) q35)
noncomputable def q37 : M Fl := (sSet 23 (mDat (mFrz (mLst [(M.pure .none), (mTup []), (mTup [(M.pure (.str (Str.ofString "word")))]), (mTup [(M.pure (.str (Str.ofString "word"))), (M.pure (.int 10))]), (mTup [(M.pure (.str (Str.ofString "word"))), (lift2 oSub (M.pure (.int 0)) (M.pure (.int 1)))]), (mTup [(M.pure (.str (Str.ofString "number"))), (M.pure (.int 256))]), (mTup [(M.pure (.str (Str.ofString "over"))), (mTup [(M.pure (.str (Str.ofString "word"))), (M.pure (.int 0))]), (M.pure (.int 0))]), (mTup [(M.pure (.str (Str.ofString "over"))), (mTup [(M.pure (.str (Str.ofString "word"))), (M.pure (.int 0))])]), (mTup [(M.pure (.str (Str.ofString "plus"))), (mTup [(M.pure (.str (Str.ofString "word"))), (M.pure (.int 0))])]), (mFrz (mLst [(M.pure (.str (Str.ofString "word"))), (M.pure (.int 0))])), (mTup [(M.pure (.str (Str.ofString "times"))), (M.pure (.int 3)), (M.pure (.int 4))])]))))
noncomputable def q38 : M Fl := (sSet 23 (mDat (mFrz (mCat (mDat (mVar 23)) (mLst [(mTup [(M.pure (.str (Str.ofString "over"))), (mVar 22), (M.pure (.int 1))]), (mTup [(M.pure (.str (Str.ofString "Plus"))), (mTup [(M.pure (.str (Str.ofString "word"))), (M.pure (.int 0))]), (mTup [(M.pure (.str (Str.ofString "word"))), (M.pure (.int 0))])]), (mTup [(M.pure (.str (Str.ofString "rest"))), (mTup [(M.pure (.str (Str.ofString "word"))), (M.pure (.int 0))]), (M.pure (.int 256))]), (mTup [(M.pure (.str (Str.ofString "word"))), (M.pure (.bool true))])])))))
noncomputable def q39 : M Fl := (sSet 23 (mDat (mFrz (mCat (mDat (mVar 23)) (mLst [(mTup [(M.pure (.str (Str.ofString "least"))), (mTup [(M.pure (.str (Str.ofString "word"))), (M.pure (.int 0))]), (mFrz (mLst [(M.pure (.str (Str.ofString "word"))), (M.pure (.int 0))]))]), (mTup [(M.pure (.str (Str.ofString "plus"))), (mVar 12), (mTup [(M.pure (.str (Str.ofString "word"))), (M.pure (.int 0))]), (M.pure (.int 1))])])))))
noncomputable def q40 : M Fl := (sSet 24 (mDat (mFrz (mLst [(mVar 22), (mTup [(M.pure (.str (Str.ofString "plus"))), (mTup [(M.pure (.str (Str.ofString "number"))), (M.pure (.int 255))]), (mTup [(M.pure (.str (Str.ofString "word"))), (M.pure (.int 9))])])]))))
noncomputable def q41 : M Fl := (sRet (mCall (φ__law_same 24) (mSeqA [(agD (mFrz (mLc [5] (mItems (mFrz (mCat (mCat (mDat (mVar 23)) (mLst [(mVar 12)])) (mDat (mVar 24))))) (gN 5) mYes (mFrz (mCall φ_is_sum (mSeqA [(agD (M.pure (.int 8))), (agD (mVar 5))])))))), (agD (mFrz (mCat (mRep (mLst [(M.pure (.bool false))]) (lift2 oAdd (lift1 oLen (mVar 23)) (M.pure (.int 1)))) (mLst [(M.pure (.bool true)), (M.pure (.bool true))]))))])))
noncomputable def m_law : M Fl := (sSeq q1 (sSeq q30 (sSeq q31 (sSeq q33 (sSeq q34 (sSeq q36 (sSeq q37 (sSeq q38 (sSeq q39 (sSeq q40 q41))))))))))
noncomputable def φ_law : Sl → Res C := run 1 26 [0] m_law
end L41

set_option linter.all false
set_option maxRecDepth 100000
set_option exponentiation.threshold 10000
namespace L41
open PySem PySem.Spec L2 DL
theorem eq_take (n : Nat) (t : List PyData) (k : Int) (T : Tin n t) (hn : n ≤ 1000000000000) (hk : 0 < k) (hk2 : Builtin.Int.intBits k ≤ 8000) :
    ∃ v t', φ__law_take [some (.l t), dI k] = .ok (.d (.int v)) [some (.l t'), dI k] ∧ 0 ≤ v ∧ v < k ∧ Tin (n + 1) t' := by
  obtain ⟨a, b, c, rfl, h1, h2, h3, h4, h5, h6⟩ := T
  have ok : okSl 2 [0, 1] [some (C.l [.int a, .int b, .int c]), dI k] = true := rfl
  by_cases ha : 0 < a
  · refine ⟨a % k, [.int (a / k), .int b, .int c], ?_, Int.emod_nonneg _ (by omega), Int.emod_lt_of_pos _ hk, ⟨a / k, b, c, rfl, Int.ediv_nonneg h1 (Int.le_of_lt hk), bits_div h1 hk h2, h3, h4, h5, by omega⟩⟩
    have hd : divOk k = true := divOk_b hk hk2 (by decide)
    rw [φ__law_take, run_ap _ _ _ _ _ ok]
    simp -implicitDefEqProofs [m__law_take, lsAt_ap, atI_3_0, ixOf_3_0, ha, hk, hd, finSl, List.range, List.range.loop]
  · have hn' : (n : Int) ≤ 1000000000000 := by omega
    have m1 : mulOk 48271 (c + 1) = true := mulOk_s (by omega) (by omega) (by omega) (by omega)
    have m2 : mulOk (b + 48271 * (c + 1)) (39373 + (c + 1)) = true := mulOk_s (by omega) (by omega) (by omega) (by omega)
    generalize ho : (b + 48271 * (c + 1)) * (39373 + (c + 1)) % 2147483647 = o
    have o1 : 0 ≤ o := by rw [← ho]; exact Int.emod_nonneg _ (by decide)
    have o2 : o < 2147483647 := by rw [← ho]; exact Int.emod_lt_of_pos _ (by decide)
    have m3 : mulOk (o + (c + 1) + b / 1000003) (o % 40009 + 7) = true := mulOk_s (by omega) (by omega) (by omega) (by omega)
    generalize ht : (o + (c + 1) + b / 1000003) * (o % 40009 + 7) % 2147483629 = u
    have u1 : 0 ≤ u := by rw [← ht]; exact Int.emod_nonneg _ (by decide)
    have u2 : u < 2147483629 := by rw [← ht]; exact Int.emod_lt_of_pos _ (by decide)
    have m4 : mulOk u 48271 = true := mulOk_s (by omega) (by omega) (by omega) (by omega)
    have d1 : divOk 1000003 = true := divOk_s (by decide) (by decide)
    have d2 : divOk 64 = true := divOk_s (by decide) (by decide)
    refine ⟨(u * 48271 + o) % 2147483587 / 64 % k, [.int a, .int b, .int (c + 1)], ?_, Int.emod_nonneg _ (by omega), Int.emod_lt_of_pos _ hk, ⟨a, b, c + 1, rfl, h1, h2, h3, h4, by omega, by omega⟩⟩
    rw [φ__law_take, run_ap _ _ _ _ _ ok]
    simp -implicitDefEqProofs [m__law_take, lsAt_ap, atI_3_0, atI_3_1, atI_3_2, ixOf_3_2, ha, hk, m1, m2, ho, m3, ht, m4, d1, d2, finSl, List.range, List.range.loop]
theorem same_row (n : Nat) (a b : PyData) (ih : ∀ x, dep x < n → plainD x = true → φ__law_same n [some (.d x), some (.d x)] = .ok (.d (.bool true)) [some (.d x), some (.d x)]) :
    ∀ (xs : List PyData) (acc : List PyData), dep.depL xs < n → plainD.plainL xs = true → acc.length + xs.length ≤ sizeLine →
      mLcL [2, 3] (gT [(gN 2), (gN 3)]) mYes (mFrz (mCall (φ__law_same n) (mSeqA [(agD (mVar 2)), (agD (mVar 3))]))) (zipL xs xs) acc [some (.d a), some (.d b), none, none] =
        .ok (acc ++ xs.map fun _ => .bool true) [some (.d a), some (.d b), none, none]
  | [], acc, _, _, _ => by simp [zipL, mLcL]
  | x :: r, acc, hd, hp, hl => by
    have hx : dep x < n := Nat.lt_of_le_of_lt (Nat.le_max_left _ _) hd
    have hr : dep.depL r < n := Nat.lt_of_le_of_lt (Nat.le_max_right _ _) hd
    have hp' : (plainD x && plainD.plainL r) = true := hp
    rw [Bool.and_eq_true] at hp'
    have e1 := ih x hx hp'.1
    have e2 := same_row n a b ih r (acc ++ [.bool true]) hr hp'.2 (by simp at hl ⊢; omega)
    have hz : acc.length < sizeLine := by simp at hl; omega
    show mLcL _ _ _ _ (.tuple [x, x] :: zipL r r) acc _ = _
    simp -implicitDefEqProofs [mLcL, e1, hz, wipeS, e2]
theorem eq_same : ∀ (n : Nat) (x : PyData), dep x < n → plainD x = true → φ__law_same n [some (.d x), some (.d x)] = .ok (.d (.bool true)) [some (.d x), some (.d x)]
  | 0, x, h, _ => absurd h (Nat.not_lt_zero _)
  | n + 1, x, h, hp => by
    have ok : okSl 2 [0, 1] [some (.d x), some (.d x)] = true := rfl
    rw [φ__law_same, run_ap _ _ _ _ _ ok]
    cases x with
    | dict xs => cases hp
    | none => simp -implicitDefEqProofs [m__law_same, finSl, List.range, List.range.loop]
    | bool b => simp -implicitDefEqProofs [m__law_same, finSl, List.range, List.range.loop]
    | int b => simp -implicitDefEqProofs [m__law_same, finSl, List.range, List.range.loop]
    | str b => simp -implicitDefEqProofs [m__law_same, finSl, List.range, List.range.loop]
    | list xs =>
      have hp' : (decide (xs.length ≤ sizeLine) && plainD.plainL xs) = true := hp
      rw [Bool.and_eq_true, decide_eq_true_eq] at hp'
      have h' : dep.depL xs + 1 < n + 1 := h
      have e := same_row n (.list xs) (.list xs) (eq_same n) xs [] (by omega) hp'.2 (by simpa using hp'.1)
      simp only [List.nil_append] at e
      simp -implicitDefEqProofs [m__law_same, noOwn, wipeS, e, oAll_map, restS, finSl, List.range, List.range.loop]
    | tuple xs =>
      have hp' : (decide (xs.length ≤ sizeLine) && plainD.plainL xs) = true := hp
      rw [Bool.and_eq_true, decide_eq_true_eq] at hp'
      have h' : dep.depL xs + 1 < n + 1 := h
      have e := same_row n (.tuple xs) (.tuple xs) (eq_same n) xs [] (by omega) hp'.2 (by simpa using hp'.1)
      simp only [List.nil_append] at e
      simp -implicitDefEqProofs [m__law_same, noOwn, wipeS, e, oAll_map, restS, finSl, List.range, List.range.loop]
theorem eq_two (k : Int) (h0 : 0 ≤ k) (h1 : k ≤ 100000000) : φ__law_two [dI k] = .ok (.d (.int (2 ^ k.toNat))) [dI k] := by
  have ok : okSl 1 [0] [dI k] = true := rfl
  have s : shlOk 1 k = true := shlOk_1 h0 h1
  rw [φ__law_two, run_ap _ _ _ _ _ ok]
  simp -implicitDefEqProofs [m__law_two, s, finSl, List.range, List.range.loop]
theorem eq_of (n : Nat) (t : List PyData) (gs : List PyData) (T : Tin n t) (hn : n ≤ 1000000000000) (hg : 0 < gs.length) (hg2 : gs.length ≤ 1000000000) :
    ∃ x t', φ__law_of [some (.l t), some (.d (.list gs))] = .ok (.d x) [some (.l t'), some (.d (.list gs))] ∧ x ∈ gs ∧ Tin (n + 1) t' := by
  obtain ⟨v, t', h1, h2, h3, h4⟩ := eq_take n t gs.length T hn (by omega) (Nat.le_trans (bits_s (i := (gs.length : Int)) (by omega) (by omega)) (by decide))
  have hv : v.toNat < gs.length := by omega
  have e : atI gs v = some (gs[v.toNat]) := atI_nat h2 hv
  have ok : okSl 2 [0, 1] [some (C.l t), some (.d (.list gs))] = true := rfl
  refine ⟨gs[v.toNat], t', ?_, List.getElem_mem _, h4⟩
  rw [φ__law_of, run_ap _ _ _ _ _ ok]
  simp -implicitDefEqProofs [m__law_of, h1, e, finSl, List.range, List.range.loop]
theorem eq_box (xs : List Int) (k : Int) (hk : 0 ≤ k) (hk2 : k ≤ 1000) (hb : ∀ z ∈ xs, Builtin.Int.intBits z ≤ 1500000) :
    ∃ t, φ__law_box [some (.d (.list (xs.map .int))), dI k] = .ok (.l t) [some (.d (.list (xs.map .int))), dI k] ∧ Tin 0 t := by
  have ok : okSl 2 [0, 1] [some (.d (.list (xs.map .int))), dI k] = true := rfl
  have p18 : powOk 10 18 = true := by decide
  have e18 : (10 : Int) ^ (18 : Int).toNat = 1000000000000000000 := by decide
  have go : ∀ z : Int, Builtin.Int.intBits z ≤ 1500000 → (mIf (lift2 oLt (mVar 1) (lift1 oLen (mVar 0))) (lift2 oIx (mVar 0) (mVar 1)) (M.pure (.int 0))) [some (.d (.list (xs.map .int))), dI k, none] = .ok (.int z) [some (.d (.list (xs.map .int))), dI k, none] →
      ∃ t, φ__law_box [some (.d (.list (xs.map .int))), dI k] = .ok (.l t) [some (.d (.list (xs.map .int))), dI k] ∧ Tin 0 t := fun z hz e => by
    have m1 : ∀ b : Bool, mulOk (if z < 0 then -z else z) (if b = true then 1 else 0) = true := fun b => mulOk_of (p := 1500000) (q := 41) (by rw [bits_abs]; exact hz) (bits_small (by split <;> omega) (by split <;> omega)) (by decide)
    have m2 : mulOk 39373 k = true := mulOk_s (by omega) (by omega) (by omega) (by omega)
    refine ⟨[.int ((if z < 0 then -z else z) * (if decide (1000000000000000000 ≤ (if z < 0 then -z else z)) = true then 1 else 0)), .int (z % 2305843009213693951 + 39373 * k + 263000), .int 0], ?_, ⟨_, _, _, rfl, ?_, ?_, ?_, ?_, by decide, by decide⟩⟩
    · rw [φ__law_box, run_ap _ _ _ _ _ ok, m__law_box]
      have e' : sSet 2 (mDat (mIf (lift2 oLt (mVar 1) (lift1 oLen (mVar 0))) (lift2 oIx (mVar 0) (mVar 1)) (M.pure (.int 0)))) [some (.d (.list (xs.map .int))), dI k, none] = .ok .nx [some (.d (.list (xs.map .int))), dI k, dI z] := by
        rw [sSet_ap, mDat_ap, e]; rfl
      show runR 2 [0, 1] _ (sSeq _ _ [some (.d (.list (xs.map .int))), dI k, none]) = _
      rw [sSeq_ap, e']
      have m1' := m1 (decide (1000000000000000000 ≤ (if z < 0 then -z else z)))
      simp only [decide_eq_true_eq] at m1'
      simp -implicitDefEqProofs [p18, e18, m1', m2, finSl, List.range, List.range.loop]
    · have h0 : 0 ≤ (if z < 0 then -z else z) := by split <;> omega
      exact Int.mul_nonneg h0 (by split <;> omega)
    · refine Nat.le_trans (bits_mul (p := 1500000) (q := 41) (by rw [bits_abs]; exact hz) (bits_small (by split <;> omega) (by split <;> omega))) (by decide)
    · have := Int.emod_nonneg z (b := 2305843009213693951) (by decide)
      omega
    · have := Int.emod_lt_of_pos z (b := 2305843009213693951) (by decide)
      omega
  by_cases hl : k < xs.length
  · have hv : k.toNat < xs.length := by omega
    refine go (xs[k.toNat]) (hb _ (List.getElem_mem _)) ?_
    have e : atI (xs.map PyData.int) k = some (.int (xs[k.toNat])) := by
      rw [atI_nat hk (by rw [List.length_map]; exact hv), List.getElem_map]
    simp -implicitDefEqProofs [hl, e]
  · refine go 0 (by decide) ?_
    simp -implicitDefEqProofs [hl]
theorem eq_cells (xs : List Int) (m : Int) (hm : 1 ≤ m) (hm2 : m ≤ 1000) (hl : xs.length ≤ 63) (hb : ∀ z ∈ xs, Builtin.Int.intBits z ≤ 1048576) :
    ∃ ys : List Int, φ__law_cells [some (.d (.list (xs.map .int))), dI m] = .ok (.l (ys.map .int)) [some (.d (.list (xs.map .int))), dI m] ∧ 0 < ys.length ∧ ys.length ≤ m ∧ ∀ z ∈ ys, Builtin.Int.intBits z ≤ 1500000 := by
  have ok : okSl 2 [0, 1] [some (.d (.list (xs.map .int))), dI m] = true := rfl
  obtain ⟨y0, hy0, hlen, hfull, hyb⟩ : ∃ y0 : List Int, (sSet 2 (mOrC (lift1 oListC (mFrz (mSl (mVar 0) pNo (pInt (mVar 1))))) (mLst [(M.pure (.int 0))]))) [some (.d (.list (xs.map .int))), dI m, none, none, none, none] = .ok .nx [some (.d (.list (xs.map .int))), dI m, some (.l (y0.map .int)), none, none, none] ∧ (0 < y0.length ∧ y0.length ≤ m) ∧ (m < xs.length → y0.length = m.toNat) ∧ ∀ z ∈ y0, Builtin.Int.intBits z ≤ 1048576 := by
    have ec : cutL (xs.map PyData.int) none (some m) = (xs.take m.toNat).map .int := by rw [cut_hi (by omega), List.map_take]
    by_cases he : xs.take m.toNat = []
    · refine ⟨[0], ?_, ⟨by decide, by show ((1 : Nat) : Int) ≤ m; omega⟩, fun h => ?_, fun z hz => ?_⟩
      · simp -implicitDefEqProofs [ec, he]
      · have h5 : (xs.take m.toNat).length = 0 := by rw [he]; rfl
        rw [List.length_take] at h5
        omega
      · have : z = 0 := by simpa using hz
        subst this
        decide
    · refine ⟨xs.take m.toNat, ?_, ⟨List.length_pos_iff.mpr he, by rw [List.length_take]; omega⟩, fun h => by rw [List.length_take]; omega, fun z hz => hb z (List.mem_of_mem_take hz)⟩
      have he' : (List.map PyData.int (xs.take m.toNat)).isEmpty = false := by
        cases h : xs.take m.toNat with
        | nil => exact absurd h he
        | cons a r => rfl
      simp -implicitDefEqProofs only [sSet_ap, mOrC_ap, lift1_ap, mFrz_ap, mSl_ap, mVar_ap, pNo_ap, pInt_ap, bind_ap, pure_ap, then_ok, of_some, oSl_l, frz_l, oListC_l, truC_l, he', ec, List.getElem?_cons_zero, List.getElem?_cons_succ, Bool.not_false, sPut_ap, List.set_cons_zero, List.set_cons_succ]
  rw [φ__law_cells, run_ap _ _ _ _ _ ok, m__law_cells]
  show ∃ ys : List Int, runR 2 [0, 1] _ (sSeq _ _ [some (.d (.list (xs.map .int))), dI m, none, none, none, none]) = _ ∧ _
  rw [sSeq_ap, hy0]
  let I : Nat → Sl → Prop := fun i ρ => ∃ (ys : List Int) (o3 o4 o5 : Option C), ρ = [some (.d (.list (xs.map .int))), dI m, some (.l (ys.map .int)), o3, o4, o5] ∧ ys.length = y0.length ∧ ∀ z ∈ ys, Builtin.Int.intBits z ≤ 1048700 + i
  have hI0 : I 0 [some (.d (.list (xs.map .int))), dI m, some (.l (y0.map .int)), none, none, none] := ⟨y0, none, none, none, rfl, rfl, fun z hz => by have := hyb z hz; omega⟩
  have stp : ∀ i x ρ, (enumL (cutL (xs.map PyData.int) (some m) (some 63)))[i]? = some x → I i ρ → ∃ ρ', M.bind (gT [(gN 3), (gN 4)] x) (fun _ => (sSeq (sSet 5 (mDat (lift2 oMod (lift1 oInt (mVar 3)) (mVar 1)))) (sSetIx 2 (mVar 5) (lift2 oAdd (mIxV 2 (mVar 5)) (lift2 oMul (mVar 4) (lift2 oAdd (mVar 3) (M.pure (.int 2)))))))) ρ = .ok .nx ρ' ∧ I (i + 1) ρ' := by
    rintro i x ρ hx ⟨ys, o3, o4, o5, rfl, hyl, hyz⟩
    obtain ⟨d, hd, rfl⟩ := enumL_at' hx
    obtain ⟨z, hz, rfl⟩ := mem_ints (List.mem_of_getElem? hd)
    have hi : i < 63 := by
      have h1 := (List.getElem?_eq_some_iff.mp hd).1
      have h2 := cut_len (xs := xs.map PyData.int) (lo := some m) (hi := some 63)
      rw [List.length_map] at h2
      omega
    have hmx : m < xs.length := by
      by_cases h : (xs.length : Int) ≤ m
      · rw [cut_len0 (by omega) (by rw [List.length_map]; exact h)] at hd
        cases hd
      · omega
    have hym : ys.length = m.toNat := by rw [hyl, hfull hmx]
    have hm0 : 0 < m := by omega
    have a1 := Int.emod_nonneg (i : Int) (b := m) (by omega)
    have a2 := Int.emod_lt_of_pos (i : Int) hm0
    have hv : ((i : Int) % m).toNat < ys.length := by omega
    have e1 := atI_ints (xs := ys) a1 hv
    have e2 : ixOf (ys.map PyData.int).length (.int ((i : Int) % m)) = some ((i : Int) % m).toNat := ixOf_nat a1 (by rw [List.length_map]; omega)
    have e2' : ixOf ys.length (.int ((i : Int) % m)) = some ((i : Int) % m).toNat := by rw [List.length_map] at e2; exact e2
    have mo : mulOk z ((i : Int) + 2) = true := mulOk_of (hb z hz) (bits_small (by omega) (by omega)) (by decide)
    refine ⟨[some (.d (.list (xs.map .int))), dI m, some (.l ((ys.set ((i : Int) % m).toNat (ys[((i : Int) % m).toNat] + z * ((i : Int) + 2))).map .int)), dI i, dI z, dI ((i : Int) % m)], ?_, _, _, _, _, rfl, by rw [List.length_set]; exact hyl, fun q hq => ?_⟩
    · simp -implicitDefEqProofs [lsAt_ap, e1, e2', mo, hm0]
    · rcases List.mem_or_eq_of_mem_set hq with h | h
      · have := hyz q h; omega
      · subst h
        have b1 := hyz _ (List.getElem_mem hv)
        have b2 := bits_mul (hb z hz) (bits_small (i := (i : Int) + 2) (by omega) (by omega))
        have b3 := bits_add (p := 1048700 + i) b1 (Nat.le_trans b2 (by omega))
        omega
  obtain ⟨ρ1, e3, ys, o3, o4, o5, rfl, hyl, hyz⟩ := sForL_inv I hI0 stp
  refine ⟨ys, ?_, by omega, by omega, fun z hz => ?_⟩
  · simp -implicitDefEqProofs [e3, finSl, List.range, List.range.loop]
  · have h1 := hyz z hz
    have h2 : (enumL (cutL (xs.map PyData.int) (some m) (some 63))).length ≤ 63 := by
      have h3 := cut_len (xs := xs.map PyData.int) (lo := some m) (hi := some 63)
      rw [List.length_map] at h3
      unfold enumL
      rw [List.length_zipWith, List.length_range, Nat.min_self]
      omega
    omega
theorem eq_takeS (n : Nat) (t : List PyData) (k : Int) (T : Tin n t) (hn : n ≤ 1000000000000) (hk : 0 < k) (hk2 : k < 10000000000000000000000000000000000000000) :
    ∃ v t', φ__law_take [some (.l t), dI k] = .ok (.d (.int v)) [some (.l t'), dI k] ∧ 0 ≤ v ∧ v < k ∧ Tin (n + 1) t' := eq_take n t k T hn hk (Nat.le_trans (bits_s (by omega) hk2) (by decide))
theorem eq_wide (n : Nat) (t : List PyData) (T : Tin n t) (hn : n ≤ 100000000000) :
    ∃ w t', φ__law_wide [some (.l t)] = .ok (.d (.int w)) [some (.l t')] ∧ 1 ≤ w ∧ w ≤ 64 ∧ Tin (n + 3) t' := by
  obtain ⟨v1, t1, e1, a1, b1, T1⟩ := eq_takeS n t 64 T (by omega) (by omega) (by omega)
  obtain ⟨v2, t2, e2, a2, b2, T2⟩ := eq_takeS _ t1 12 T1 (by omega) (by omega) (by omega)
  obtain ⟨x, t3, e3, hx, T3⟩ := eq_of _ t2 [.int 8, .int 16, .int 32, .int 64, .int (1 + v1), .int (1 + v2)] T2 (by omega) (by simp) (by simp)
  have ok : okSl 1 [0] [some (C.l t)] = true := rfl
  obtain ⟨w, rfl, hw1, hw2⟩ : ∃ w : Int, x = .int w ∧ 1 ≤ w ∧ w ≤ 64 := by
    simp only [List.mem_cons, List.not_mem_nil, or_false] at hx
    rcases hx with h | h | h | h | h | h <;> exact ⟨_, h, by omega, by omega⟩
  refine ⟨w, t3, ?_, hw1, hw2, T3⟩
  rw [φ__law_wide, run_ap _ _ _ _ _ ok]
  simp -implicitDefEqProofs [m__law_wide, e1, e2, e3, finSl, List.range, List.range.loop]
theorem eq_divisor (n : Nat) (t : List PyData) (w : Int) (T : Tin n t) (hn : n ≤ 100000000000) (h1 : 1 ≤ w) (h2 : w ≤ 64) :
    ∃ d t', φ__law_divisor [some (.l t), dI w] = .ok (.d (.int d)) [some (.l t'), dI w] ∧ 1 ≤ d ∧ d < 2 ^ w.toNat ∧ Tin (n + 7) t' := by
  have p1 : (2 : Int) ≤ 2 ^ w.toNat := two_le_pow (by omega)
  have p2 : (2 : Int) ^ w.toNat ≤ 18446744073709551616 := pow_le64 (by omega)
  obtain ⟨v1, t1, e1, a1, b1, T1⟩ := eq_takeS n t 20 T (by omega) (by omega) (by omega)
  obtain ⟨v2, t2, e2, a2, b2, T2⟩ := eq_takeS _ t1 (2 ^ w.toNat - 1) T1 (by omega) (by omega) (by omega)
  obtain ⟨v3, t3, e3, a3, b3, T3⟩ := eq_takeS _ t2 10 T2 (by omega) (by omega) (by omega)
  obtain ⟨v4, t4, e4, a4, b4, T4⟩ := eq_takeS _ t3 w T3 (by omega) (by omega) (by omega)
  obtain ⟨v5, t5, e5, a5, b5, T5⟩ := eq_takeS _ t4 3 T4 (by omega) (by omega) (by omega)
  obtain ⟨v6, t6, e6, a6, b6, T6⟩ := eq_takeS _ t5 1000 T5 (by omega) (by omega) (by omega)
  have q1 := eq_two w (by omega) (by omega)
  have q2 := eq_two v4 a4 (by omega)
  obtain ⟨x, t7, e7, hx, T7⟩ := eq_of _ t6 [.int (1 + v1), .int (1 + v2), .int (2 ^ w.toNat - 1 - v3), .int (2 ^ v4.toNat + v5 - 1), .int (1 + v6)] T6 (by omega) (by simp) (by simp)
  have ok : okSl 2 [0, 1] [some (C.l t), dI w] = true := rfl
  obtain ⟨f, rfl⟩ : ∃ w : Int, x = .int w := by
    simp only [List.mem_cons, List.not_mem_nil, or_false] at hx
    rcases hx with h | h | h | h | h <;> exact ⟨_, h⟩
  generalize hmn : min f (2 ^ w.toNat - 1) = mn
  refine ⟨max 1 mn, t7, ?_, by omega, by omega, T7⟩
  rw [φ__law_divisor, run_ap _ _ _ _ _ ok]
  simp -implicitDefEqProofs [m__law_divisor, e1, e2, e3, e4, e5, e6, e7, q1, q2, hmn, finSl, List.range, List.range.loop]
theorem eq_is_number (i : Int) : φ_is_number [dI i] = .ok (.d (.bool true)) [dI i] := by
  have ok : okSl 1 [0] [dI i] = true := rfl
  rw [φ_is_number, run_ap _ _ _ _ _ ok]
  simp -implicitDefEqProofs [m_is_number, finSl, List.range, List.range.loop]
theorem eq_is_within (i a b : Int) : φ_is_within [dI i, dI a, dI b] = .ok (.d (.bool (decide (a ≤ i) && decide (i ≤ b)))) [dI i, dI a, dI b] := by
  have ok : okSl 3 [0, 1, 2] [dI i, dI a, dI b] = true := rfl
  rw [φ_is_within, run_ap _ _ _ _ _ ok]
  by_cases h : a ≤ i <;> simp -implicitDefEqProofs [m_is_within, eq_is_number, h, finSl, List.range, List.range.loop]
theorem eq_sure_within (i a b : Int) (h1 : a ≤ i) (h2 : i ≤ b) : φ_sure_within [dI i, dI a, dI b] = .ok (.d (.int i)) [dI i, dI a, dI b] := by
  have ok : okSl 3 [0, 1, 2] [dI i, dI a, dI b] = true := rfl
  rw [φ_sure_within, run_ap _ _ _ _ _ ok]
  simp -implicitDefEqProofs [m_sure_within, eq_is_within, h1, h2, finSl, List.range, List.range.loop]
theorem eq_top_in (w : Int) (h0 : 0 ≤ w) (h1 : w ≤ 100000000) : φ_top_in [dI w] = .ok (.d (.int (2 ^ w.toNat - 1))) [dI w] := by
  have ok : okSl 1 [0] [dI w] = true := rfl
  have s : shlOk 1 w = true := shlOk_1 h0 h1
  rw [φ_top_in, run_ap _ _ _ _ _ ok]
  simp -implicitDefEqProofs [m_top_in, s, finSl, List.range, List.range.loop]
theorem eq_sure_width (w : Int) (h0 : 1 ≤ w) (h1 : w ≤ 64) : φ_sure_width [dI w] = .ok (.d (.int w)) [dI w] := by
  have ok : okSl 1 [0] [dI w] = true := rfl
  rw [φ_sure_width, run_ap _ _ _ _ _ ok]
  simp -implicitDefEqProofs [m_sure_width, eq_sure_within w 1 64 h0 h1, finSl, List.range, List.range.loop]
theorem tup_row (n : Nat) (a : PyData) (ih : ∀ x, dep x < n → plainD x = true → φ_tupled n [some (.d x)] = .ok (.d (tupD x)) [some (.d x)]) :
    ∀ (xs : List PyData) (acc : List PyData), dep.depL xs < n → plainD.plainL xs = true → acc.length + xs.length ≤ sizeLine →
      mLcL [1] (gN 1) mYes (mFrz (mCall (φ_tupled n) (mSeqA [(agD (mVar 1))]))) xs acc [some (.d a), none] = .ok (acc ++ tupL xs) [some (.d a), none]
  | [], acc, _, _, _ => by simp [mLcL, tupL]
  | x :: r, acc, hd, hp, hl => by
    have hx : dep x < n := Nat.lt_of_le_of_lt (Nat.le_max_left _ _) hd
    have hr : dep.depL r < n := Nat.lt_of_le_of_lt (Nat.le_max_right _ _) hd
    have hp' : (plainD x && plainD.plainL r) = true := hp
    rw [Bool.and_eq_true] at hp'
    have e1 := ih x hx hp'.1
    have e2 := tup_row n a ih r (acc ++ [tupD x]) hr hp'.2 (by simp at hl ⊢; omega)
    have hz : acc.length < sizeLine := by simp at hl; omega
    simp -implicitDefEqProofs [mLcL, e1, hz, wipeS, e2, tupL]
theorem eq_tupled : ∀ (n : Nat) (x : PyData), dep x < n → plainD x = true → φ_tupled n [some (.d x)] = .ok (.d (tupD x)) [some (.d x)]
  | 0, x, h, _ => absurd h (Nat.not_lt_zero _)
  | n + 1, x, h, hp => by
    rw [φ_tupled, run_ap _ _ _ _ _ (by rfl)]
    cases x with
    | dict xs => cases hp
    | none => simp -implicitDefEqProofs [m_tupled, tupD, finSl, List.range, List.range.loop]
    | bool b => simp -implicitDefEqProofs [m_tupled, tupD, finSl, List.range, List.range.loop]
    | int b => simp -implicitDefEqProofs [m_tupled, tupD, finSl, List.range, List.range.loop]
    | str b => simp -implicitDefEqProofs [m_tupled, tupD, finSl, List.range, List.range.loop]
    | list xs =>
      have hp' : (decide (xs.length ≤ sizeLine) && plainD.plainL xs) = true := hp
      rw [Bool.and_eq_true, decide_eq_true_eq] at hp'
      have h' : dep.depL xs + 1 < n + 1 := h
      have e := tup_row n (.list xs) (eq_tupled n) xs [] (by omega) hp'.2 (by simpa using hp'.1)
      simp only [List.nil_append] at e
      simp -implicitDefEqProofs [m_tupled, noOwn, wipeS, e, restS, oTuple, tupD, finSl, List.range, List.range.loop]
    | tuple xs =>
      have hp' : (decide (xs.length ≤ sizeLine) && plainD.plainL xs) = true := hp
      rw [Bool.and_eq_true, decide_eq_true_eq] at hp'
      have h' : dep.depL xs + 1 < n + 1 := h
      have e := tup_row n (.tuple xs) (eq_tupled n) xs [] (by omega) hp'.2 (by simpa using hp'.1)
      simp only [List.nil_append] at e
      simp -implicitDefEqProofs [m_tupled, noOwn, wipeS, e, restS, oTuple, tupD, finSl, List.range, List.range.loop]
end L41

set_option linter.all false
set_option maxRecDepth 100000
set_option exponentiation.threshold 10000
namespace L41
open PySem PySem.Spec L2 DL
/-! ## sums: what is one -/
open SM
def wiB (x : PyData) (a b : Int) : Bool := match x with
  | .int i => decide (a ≤ i) && decide (i ≤ b)
  | _ => false
theorem eq_within {x : PyData} (hx : shK 64 x = true) (a b : Int) : φ_is_within [some (.d x), dI a, dI b] = .ok (.d (.bool (wiB x a b))) [some (.d x), dI a, dI b] := by
  have num : ∀ (v : Bool), φ_is_number [some (.d x)] = .ok (.d (.bool v)) [some (.d x)] → v = false → wiB x a b = false → φ_is_within [some (.d x), dI a, dI b] = .ok (.d (.bool (wiB x a b))) [some (.d x), dI a, dI b] := fun v e hv hw => by
    subst hv
    rw [hw]
    (rw [φ_is_within, run_ap _ _ _ _ _ (by rfl)]; simp -implicitDefEqProofs [m_is_within, finSl, List.range, List.range.loop, e])
  cases x with
  | int i => exact eq_is_within i a b
  | none => exact num false (by (rw [φ_is_number, run_ap _ _ _ _ _ (by rfl)]; simp -implicitDefEqProofs [m_is_number, finSl, List.range, List.range.loop])) rfl rfl
  | bool c => exact num false (by (rw [φ_is_number, run_ap _ _ _ _ _ (by rfl)]; simp -implicitDefEqProofs [m_is_number, finSl, List.range, List.range.loop])) rfl rfl
  | str c => exact num false (by (rw [φ_is_number, run_ap _ _ _ _ _ (by rfl)]; simp -implicitDefEqProofs [m_is_number, finSl, List.range, List.range.loop])) rfl rfl
  | list c => exact num false (by (rw [φ_is_number, run_ap _ _ _ _ _ (by rfl)]; simp -implicitDefEqProofs [m_is_number, finSl, List.range, List.range.loop])) rfl rfl
  | tuple c => exact num false (by (rw [φ_is_number, run_ap _ _ _ _ _ (by rfl)]; simp -implicitDefEqProofs [m_is_number, finSl, List.range, List.range.loop])) rfl rfl
  | dict c => unfold shK at hx; simp [PyData.canLay0] at hx
/-- a part's head is fine; its parts -/
def headB (T : Int) : PyData → Bool
  | .tuple (.str h :: r) => (match tabV k_PARTS h with
    | some (.int 2) => r.length == 2
    | some (.int 1) => r.length == 2 && wiB (r.getD 1 .none) 1 T
    | some (.int 0) => r.length == 1 && wiB (r.getD 0 .none) 0 (if h = Str.ofString "word" then 9 else T)
    | _ => false)
  | _ => false
def kids : PyData → List PyData
  | .tuple (.str h :: r) => (match tabV k_PARTS h with
    | some (.int m) => r.take m.toNat
    | _ => [])
  | _ => []
theorem tab_cases (h : Str) : tabV k_PARTS h = none ∨ tabV k_PARTS h = some (.int 0) ∨ tabV k_PARTS h = some (.int 1) ∨ tabV k_PARTS h = some (.int 2) := by
  unfold tabV
  cases e : k_PARTS.find? (fun kv => decide (kv.1 = h)) with
  | none => exact .inl rfl
  | some q =>
    have := List.mem_of_find?_eq_some e
    simp only [k_PARTS, List.mem_cons, List.not_mem_nil, or_false] at this
    rcases this with h | h | h | h | h | h | h | h | h <;> subst h <;> simp
theorem eq_head {w : Int} (w1 : 1 ≤ w) (w2 : w ≤ 64) {x : PyData} (hx : shK 63 x = true) : φ_is_head_of [dI w, some (.d x)] = .ok (.d (.bool (headB (2 ^ w.toNat - 1) x))) [dI w, some (.d x)] := by
  have tp := eq_top_in w (by omega) (by omega)
  generalize (2 : Int) ^ w.toNat - 1 = T at *
  cases x with
  | int i => (rw [φ_is_head_of, run_ap _ _ _ _ _ (by rfl)]; simp -implicitDefEqProofs [m_is_head_of, finSl, List.range, List.range.loop, headB])
  | none => (rw [φ_is_head_of, run_ap _ _ _ _ _ (by rfl)]; simp -implicitDefEqProofs [m_is_head_of, finSl, List.range, List.range.loop, headB])
  | bool c => (rw [φ_is_head_of, run_ap _ _ _ _ _ (by rfl)]; simp -implicitDefEqProofs [m_is_head_of, finSl, List.range, List.range.loop, headB])
  | str c => (rw [φ_is_head_of, run_ap _ _ _ _ _ (by rfl)]; simp -implicitDefEqProofs [m_is_head_of, finSl, List.range, List.range.loop, headB])
  | list c => (rw [φ_is_head_of, run_ap _ _ _ _ _ (by rfl)]; simp -implicitDefEqProofs [m_is_head_of, finSl, List.range, List.range.loop, headB])
  | dict c => unfold shK at hx; simp [PyData.canLay0] at hx
  | tuple xs =>
    have hs := shaped_of hx (by decide)
    have kid := (shK_t (n := 62)).mp hx
    cases xs with
    | nil =>
      have e : oEq (.tuple []) (.tuple []) = some true := oEq_t [] []
      (rw [φ_is_head_of, run_ap _ _ _ _ _ (by rfl)]; simp -implicitDefEqProofs [m_is_head_of, finSl, List.range, List.range.loop, e, headB])
    | cons y r =>
      have e : oEq (.tuple (y :: r)) (.tuple []) = some false := by
        unfold oEq
        rw [hs, shaped_tnil]
        simp [PyData.eqv, PyData.eqvAll]
      have hy := kid y List.mem_cons_self
      cases y with
      | int i => (rw [φ_is_head_of, run_ap _ _ _ _ _ (by rfl)]; simp -implicitDefEqProofs [m_is_head_of, finSl, List.range, List.range.loop, e, at_0, headB])
      | none => (rw [φ_is_head_of, run_ap _ _ _ _ _ (by rfl)]; simp -implicitDefEqProofs [m_is_head_of, finSl, List.range, List.range.loop, e, at_0, headB])
      | bool c => (rw [φ_is_head_of, run_ap _ _ _ _ _ (by rfl)]; simp -implicitDefEqProofs [m_is_head_of, finSl, List.range, List.range.loop, e, at_0, headB])
      | list c => (rw [φ_is_head_of, run_ap _ _ _ _ _ (by rfl)]; simp -implicitDefEqProofs [m_is_head_of, finSl, List.range, List.range.loop, e, at_0, headB])
      | tuple c => (rw [φ_is_head_of, run_ap _ _ _ _ _ (by rfl)]; simp -implicitDefEqProofs [m_is_head_of, finSl, List.range, List.range.loop, e, at_0, headB])
      | dict c => unfold shK at hy; simp [PyData.canLay0] at hy
      | str h =>
        rcases tab_cases h with t | t | t | t
        · (rw [φ_is_head_of, run_ap _ _ _ _ _ (by rfl)]; simp -implicitDefEqProofs [m_is_head_of, finSl, List.range, List.range.loop, e, at_0, headB, t])
        · match r with
          | [] => (rw [φ_is_head_of, run_ap _ _ _ _ _ (by rfl)]; simp -implicitDefEqProofs [m_is_head_of, finSl, List.range, List.range.loop, e, at_0, headB, t])
          | [z] =>
            have wi := fun b => eq_within (shK_le (by decide) (kid z (by simp))) 0 b
            have ew := oEq_str h (Str.ofString "word")
            by_cases c : h = Str.ofString "word"
            · subst c
              have c' : (Str.ofString "word" == Str.ofString "word") = true := by simp
              rw [c'] at ew
              (rw [φ_is_head_of, run_ap _ _ _ _ _ (by rfl)]; simp -implicitDefEqProofs [m_is_head_of, finSl, List.range, List.range.loop, e, at_0, headB, t, ew, wi, tp])
            · have c' : (h == Str.ofString "word") = false := by simp [c]
              rw [c'] at ew
              (rw [φ_is_head_of, run_ap _ _ _ _ _ (by rfl)]; simp -implicitDefEqProofs [m_is_head_of, finSl, List.range, List.range.loop, e, at_0, headB, t, ew, wi, c, c', tp])
          | a :: b :: r' => 
            have : ¬ ((r'.length : Int) + 1 + 1 + 1 = 2) := by omega
            (rw [φ_is_head_of, run_ap _ _ _ _ _ (by rfl)]; simp -implicitDefEqProofs [m_is_head_of, finSl, List.range, List.range.loop, e, at_0, headB, t, this])
        · match r with
          | [] => (rw [φ_is_head_of, run_ap _ _ _ _ _ (by rfl)]; simp -implicitDefEqProofs [m_is_head_of, finSl, List.range, List.range.loop, e, at_0, headB, t])
          | [z] => (rw [φ_is_head_of, run_ap _ _ _ _ _ (by rfl)]; simp -implicitDefEqProofs [m_is_head_of, finSl, List.range, List.range.loop, e, at_0, headB, t])
          | [z, u] =>
            have wi := eq_within (shK_le (by decide) (kid u (by simp))) 1 T
            (rw [φ_is_head_of, run_ap _ _ _ _ _ (by rfl)]; simp -implicitDefEqProofs [m_is_head_of, finSl, List.range, List.range.loop, e, at_0, headB, t, tp, wi])
          | a :: b :: c :: r' =>
            have : ¬ ((r'.length : Int) + 1 + 1 + 1 + 1 = 3) := by omega
            (rw [φ_is_head_of, run_ap _ _ _ _ _ (by rfl)]; simp -implicitDefEqProofs [m_is_head_of, finSl, List.range, List.range.loop, e, at_0, headB, t, this])
        · have : ((r.length : Int) + 1 = 3) ↔ r.length = 2 := by omega
          by_cases c : r.length = 2
          · (rw [φ_is_head_of, run_ap _ _ _ _ _ (by rfl)]; simp -implicitDefEqProofs [m_is_head_of, finSl, List.range, List.range.loop, e, at_0, headB, t, this, c])
          · (rw [φ_is_head_of, run_ap _ _ _ _ _ (by rfl)]; simp -implicitDefEqProofs [m_is_head_of, finSl, List.range, List.range.loop, e, at_0, headB, t, this, c])
/-! ### the walk over the parts -/
theorem kids_len {T : Int} (x : PyData) (h : headB T x = true) : (kids x).length ≤ 2 := by
  unfold kids
  split
  · rename_i s r
    rcases tab_cases s with t | t | t | t <;> rw [t] <;> simp <;> omega
  · simp
theorem kids_sh {n : Nat} {x : PyData} (h : shK (n + 1) x = true) : ∀ y ∈ kids x, shK n y = true := by
  intro y hy
  unfold kids at hy
  split at hy
  · rename_i h' r
    have k := shK_t.mp h
    split at hy
    · exact k y (List.mem_cons_of_mem _ (List.mem_of_mem_take hy))
    · cases hy
  · cases hy
/-- the stack, its top first -/
def sumRun (T : Int) : Nat → List (PyData × Int) → Int → Option Bool
  | 0, _, _ => none
  | _ + 1, [], _ => some true
  | n + 1, (x, d) :: L, c => if decide (d > 18) || (decide (c + 1 > 100) || !headB T x) then some false else sumRun T n (((kids x).map fun y => (y, d + 1)).reverse ++ L) (c + 1)
def stk (L : List (PyData × Int)) : List PyData := (L.map fun p => .tuple [p.1, .int p.2]).reverse
noncomputable abbrev siT : M Bool := (tCmpV neS 2 (mFrz (mLst [])))
noncomputable abbrev siB : M Fl := (sSeq (sAsg (mPop 2) (gT [(gN 4), (gN 5)])) (sSeq (sSet 3 (mDat (lift2 oAdd (mVar 3) (M.pure (.int 1))))) (sSeq (sIf (DL.tOr (lift2 oGt (mVar 5) (M.pure (.int 18))) (DL.tOr (lift2 oGt (mVar 3) (M.pure (.int 100))) (DL.tNot (tTru (mFrz (mCall φ_is_head_of (mSeqA [(agD (mVar 0)), (agD (mVar 4))]))))))) (sRet (mDat (M.pure (.bool false)))) sSkip) (sExtC 2 (mLc [6] (mItems (mFrz (mSl (mVar 4) (pInt (M.pure (.int 1))) (pInt (lift2 oAdd (M.pure (.int 1)) (lift1 (oTab k_PARTS) (lift2 oIx (mVar 4) (M.pure (.int 0))))))))) (gN 6) mYes (mTup [(mVar 6), (lift2 oAdd (mVar 5) (M.pure (.int 1)))]))))))
abbrev siS (w : Int) (o1 : Option C) (L : List (PyData × Int)) (c : Int) (o4 o5 : Option C) : Sl := [dI w, o1, some (.l (stk L)), dI c, o4, o5, none]
theorem stk_cons (p : PyData × Int) (L : List (PyData × Int)) : stk (p :: L) = stk L ++ [.tuple [p.1, .int p.2]] := by
  unfold stk
  rw [List.map_cons, List.reverse_cons]
theorem stk_sh {n : Nat} {L : List (PyData × Int)} (h : ∀ p ∈ L, shK n p.1 = true) : shK (n + 2) (.list (stk L)) = true := by
  rw [shK_l]
  intro y hy
  unfold stk at hy
  rw [List.mem_reverse, List.mem_map] at hy
  obtain ⟨p, hp, rfl⟩ := hy
  rw [shK_t]
  intro z hz
  rcases List.mem_cons.mp hz with e | e
  · rw [e]; exact h p hp
  · rw [List.mem_singleton.mp e]; exact shK_i _ _
theorem kid_map (n : Nat) (x : PyData) (ks : List PyData) (d : Int) (hl : ks.length ≤ 2) (o0 o1 o2 o3 o4 : Option C) :
    mLcL [6] (gN 6) mYes (mTup [(mVar 6), (lift2 oAdd (mVar 5) (M.pure (.int 1)))]) ks [] [o0, o1, o2, o3, o4, dI d, none] = .ok (ks.map fun y => .tuple [y, .int (d + 1)]) [o0, o1, o2, o3, o4, dI d, none] := by
  have z0 : 0 < sizeLine := sizeL_lt (by decide)
  have z1 : 1 < sizeLine := sizeL_lt (by decide)
  match ks, hl with
  | [], _ => rfl
  | [a], _ => simp -implicitDefEqProofs [mLcL, z0, wipeS]
  | [a, b], _ => simp -implicitDefEqProofs [mLcL, z0, z1, wipeS]
theorem eq_kids {T : Int} {x : PyData} (h : headB T x = true) : ∃ (s : Str) (r : List PyData) (m : Int), x = .tuple (.str s :: r) ∧ tabV k_PARTS s = some (.int m) ∧ cutL (.str s :: r) (some 1) (some (1 + m)) = kids x := by
  unfold headB at h
  split at h
  · rename_i s r
    rcases tab_cases s with t | t | t | t
    · rw [t] at h; cases h
    · rw [t] at h
      refine ⟨s, r, 0, rfl, t, ?_⟩
      simp only [kids, t]
      match r, h with
      | [z], _ => rfl
      | [], h => cases h
      | _ :: _ :: _, h => simp at h
    · rw [t] at h
      refine ⟨s, r, 1, rfl, t, ?_⟩
      simp only [kids, t]
      match r, h with
      | [z, u], _ => rfl
      | [], h => cases h
      | [_], h => simp at h
      | _ :: _ :: _ :: _, h => simp at h
    · rw [t] at h
      refine ⟨s, r, 2, rfl, t, ?_⟩
      simp only [kids, t]
      match r, h with
      | [z, u], _ => rfl
      | [], h => cases h
      | [_], h => simp at h
      | _ :: _ :: _ :: _, h => simp at h
  · cases h
theorem si_loop {w T : Int} (w1 : 1 ≤ w) (w2 : w ≤ 64) (eT : (2 : Int) ^ w.toNat - 1 = T) (o1 : Option C) : ∀ (n : Nat) (L : List (PyData × Int)) (c : Int) (o4 o5 : Option C) (β : Bool), sumRun T n L c = some β → (∀ p ∈ L, shK 60 p.1 = true) → L.length + 2 * (100 - c).toNat ≤ 1000 → 0 ≤ c → c ≤ 100 →
    ∃ ρ, (β = true ∧ sWhileN siT siB n (siS w o1 L c o4 o5) = .ok .nx ρ ∨ β = false ∧ sWhileN siT siB n (siS w o1 L c o4 o5) = .ok (.rt (.d (.bool false))) ρ) ∧ ρ[0]? = some (dI w) ∧ ρ[1]? = some o1
  | 0, L, c, o4, o5, β, h, _, _, _, _ => by cases h
  | n + 1, [], c, o4, o5, β, h, _, _, _, _ => by
    cases h
    refine ⟨siS w o1 [] c o4 o5, .inl ⟨rfl, ?_⟩, rfl, rfl⟩
    have e : neS (.list (stk [])) (.list []) = some false := neS_n shaped_nil
    rw [sWhileN]
    simp -implicitDefEqProofs [vlAt_ap, e]
  | n + 1, (x, d) :: L, c, o4, o5, β, h, hs, hl, c0, c1 => by
    have hx : shK 60 x = true := hs (x, d) List.mem_cons_self
    have e : neS (.list (stk ((x, d) :: L))) (.list []) = some true := by
      rw [neS_n (shaped_of (stk_sh hs) (by decide)), stk_cons]
      cases stk L <;> rfl
    have hd := eq_head w1 w2 (shK_le (by decide) hx)
    have pop : mPop 2 (siS w o1 ((x, d) :: L) c o4 o5) = .ok (.tuple [x, .int d]) (siS w o1 L c o4 o5) := by
      have := pop_ok (i := 2) (ρ := siS w o1 ((x, d) :: L) c o4 o5) (l := stk L) (a := .tuple [x, .int d]) (by rw [lsAt_ap]; show some (stk ((x, d) :: L)) = _; rw [stk_cons])
      exact this
    have hT : siT (siS w o1 ((x, d) :: L) c o4 o5) = .ok true (siS w o1 ((x, d) :: L) c o4 o5) := by
      simp -implicitDefEqProofs [vlAt_ap, e]
    rw [eT] at hd
    have st1 : sAsg (mPop 2) (gT [(gN 4), (gN 5)]) (siS w o1 ((x, d) :: L) c o4 o5) = .ok .nx (siS w o1 L c (some (.d x)) (dI d)) := by
      show M.bind (mPop 2) _ _ = _
      rw [bind_ok pop]; rfl
    have st2 : sSet 3 (mDat (lift2 oAdd (mVar 3) (M.pure (.int 1)))) (siS w o1 L c (some (.d x)) (dI d)) = .ok .nx (siS w o1 L (c + 1) (some (.d x)) (dI d)) := rfl
    unfold sumRun at h
    by_cases hb : (decide (d > 18) || (decide (c + 1 > 100) || !headB T x)) = true
    · rw [if_pos hb] at h
      cases h
      refine ⟨siS w o1 L (c + 1) (some (.d x)) (dI d), .inr ⟨rfl, ?_⟩, rfl, rfl⟩
      have bad : sIf (DL.tOr (lift2 oGt (mVar 5) (M.pure (.int 18))) (DL.tOr (lift2 oGt (mVar 3) (M.pure (.int 100))) (DL.tNot (tTru (mFrz (mCall φ_is_head_of (mSeqA [(agD (mVar 0)), (agD (mVar 4))]))))))) (sRet (mDat (M.pure (.bool false)))) sSkip (siS w o1 L (c + 1) (some (.d x)) (dI d)) = .ok (.rt (.d (.bool false))) (siS w o1 L (c + 1) (some (.d x)) (dI d)) := by
        by_cases h1 : 18 < d
        · simp -implicitDefEqProofs [h1]
        · by_cases h2 : 100 < c + 1
          · simp -implicitDefEqProofs [h1, h2]
          · have h3 : headB T x = false := by simpa [h1, h2] using hb
            rw [h3] at hd
            simp -implicitDefEqProofs [h1, h2, hd]
      rw [sWhileN, bind_ok hT, if_pos rfl]
      show M.bind siB _ _ = _
      rw [bind_ok (show siB (siS w o1 ((x, d) :: L) c o4 o5) = .ok (.rt (.d (.bool false))) (siS w o1 L (c + 1) (some (.d x)) (dI d)) by
        unfold siB; rw [seq_ok st1, seq_ok st2, sSeq_ap, bad]; rfl)]
      rfl
    · rw [if_neg hb] at h
      have hb' : (decide (d > 18) || (decide (c + 1 > 100) || !headB T x)) = false := by simpa using hb
      rw [Bool.or_eq_false_iff, Bool.or_eq_false_iff, decide_eq_false_iff_not, decide_eq_false_iff_not, Bool.not_eq_false'] at hb'
      obtain ⟨h1, h2, h3⟩ := hb'
      have h1' : ¬ 18 < d := h1
      have h2' : ¬ 100 < c + 1 := h2
      rw [h3] at hd
      have good : sIf (DL.tOr (lift2 oGt (mVar 5) (M.pure (.int 18))) (DL.tOr (lift2 oGt (mVar 3) (M.pure (.int 100))) (DL.tNot (tTru (mFrz (mCall φ_is_head_of (mSeqA [(agD (mVar 0)), (agD (mVar 4))]))))))) (sRet (mDat (M.pure (.bool false)))) sSkip (siS w o1 L (c + 1) (some (.d x)) (dI d)) = .ok .nx (siS w o1 L (c + 1) (some (.d x)) (dI d)) := by
        simp -implicitDefEqProofs [h1', h2', hd]
      obtain ⟨s, r, m, rfl, t, ck⟩ := eq_kids h3
      have kl := kids_len _ h3
      have ks := kids_sh (n := 59) hx
      generalize kids (.tuple (.str s :: r)) = ks' at *
      have km := kid_map n (.tuple (.str s :: r)) ks' d kl (dI w) o1 (some (.l (stk L))) (dI (c + 1)) (some (.d (.tuple (.str s :: r))))
      have ll : (stk L).length = L.length := by unfold stk; simp
      have zl : (stk L).length + ks'.length ≤ sizeLine := Nat.le_of_lt (sizeL_lt (by rw [ll]; simp at hl; omega))
      have ee : stk L ++ (ks'.map fun y => PyData.tuple [y, .int (d + 1)]) = stk (((ks'.map fun y => (y, d + 1)).reverse ++ L)) := by
        unfold stk
        rw [List.map_append, List.reverse_append, List.map_reverse, List.reverse_reverse, List.map_map]; rfl
      have ext : sExtC 2 (mLc [6] (mItems (mFrz (mSl (mVar 4) (pInt (M.pure (.int 1))) (pInt (lift2 oAdd (M.pure (.int 1)) (lift1 (oTab k_PARTS) (lift2 oIx (mVar 4) (M.pure (.int 0))))))))) (gN 6) mYes (mTup [(mVar 6), (lift2 oAdd (mVar 5) (M.pure (.int 1)))])) (siS w o1 L (c + 1) (some (.d (.tuple (.str s :: r)))) (dI d)) = .ok .nx (siS w o1 ((ks'.map fun y => (y, d + 1)).reverse ++ L) (c + 1) (some (.d (.tuple (.str s :: r)))) (dI d)) := by
        unfold siS
        rw [← ee]
        simp -implicitDefEqProofs [at_0, t, ck, noOwn, wipeS, km, restS, lsAt_ap, toL, zl, List.range, List.range.loop]
      obtain ⟨ρ, h5, h6⟩ := si_loop w1 w2 eT o1 n ((ks'.map fun y => (y, d + 1)).reverse ++ L) (c + 1) (some (.d (.tuple (.str s :: r)))) (dI d) β h (fun p hp => by
        rcases List.mem_append.mp hp with hp | hp
        · rw [List.mem_reverse, List.mem_map] at hp
          obtain ⟨y, hy, rfl⟩ := hp
          exact shK_le (by decide) (ks y hy)
        · exact hs p (List.mem_cons_of_mem _ hp)) (by simp at hl ⊢; omega) (by omega) (by omega)
      refine ⟨ρ, ?_, h6⟩
      have go : sWhileN siT siB (n + 1) (siS w o1 ((.tuple (.str s :: r), d) :: L) c o4 o5) = sWhileN siT siB n (siS w o1 ((ks'.map fun y => (y, d + 1)).reverse ++ L) (c + 1) (some (.d (.tuple (.str s :: r)))) (dI d)) := by
        rw [sWhileN, bind_ok hT, if_pos rfl]
        show M.bind siB _ _ = _
        rw [bind_ok (show siB (siS w o1 ((.tuple (.str s :: r), d) :: L) c o4 o5) = .ok .nx _ by
          unfold siB; rw [seq_ok st1, seq_ok st2, seq_ok good, ext])]
      rw [go]
      exact h5
theorem eq_is_sum_in {w : Int} (w1 : 1 ≤ w) (w2 : w ≤ 64) {x : PyData} (hx : shK 60 x = true) {n : Nat} {β : Bool} (h : sumRun (2 ^ w.toNat - 1) n [(x, 1)] 0 = some β) : φ_is_sum_in [dI w, some (.d x)] = .ok (.d (.bool β)) [dI w, some (.d x)] := by
  obtain ⟨ρ, h1, h2, h3⟩ := si_loop w1 w2 rfl (some (.d x)) n [(x, 1)] 0 none none β h (fun p hp => by rw [List.mem_singleton.mp hp]; exact hx) (show 1 + 2 * 100 ≤ 1000 by decide) (by decide) (by decide)
  have st0 : sSet2 2 3 (mLst [(mTup [(mVar 1), (M.pure (.int 1))])]) (mDat (M.pure (.int 0))) [dI w, some (.d x), none, none, none, none, none] = .ok .nx (siS w (some (.d x)) [(x, 1)] 0 none none) := rfl
  rw [φ_is_sum_in, run_ap _ _ _ _ _ (by rfl), m_is_sum_in]
  show runR 2 [0, 1] _ (sSeq _ _ [dI w, some (.d x), none, none, none, none, none]) = _
  rw [seq_ok st0]
  have fin : finSl 2 [0, 1] [dI w, some (.d x)] ρ = [dI w, some (.d x)] := by
    simp -implicitDefEqProofs [finSl, List.range, List.range.loop, h2, h3]
  rcases h1 with ⟨rfl, e⟩ | ⟨rfl, e⟩
  · rw [sSeq_ap, sWhile_eq e]
    show Res.ok _ (finSl 2 [0, 1] [dI w, some (.d x)] ρ) = _
    rw [fin]
  · rw [sSeq_ap, sWhile_eq e]
    show Res.ok _ (finSl 2 [0, 1] [dI w, some (.d x)] ρ) = _
    rw [fin]
end L41

set_option linter.all false
set_option maxRecDepth 100000
set_option exponentiation.threshold 10000
namespace L41
open PySem PySem.Spec L2 DL
/-! ## trees as data -/
open SM
theorem tab_2 (h : H2) : tabV k_PARTS h.s = some (.int 2) := by cases h <;> rfl
theorem tab_1 (r : Bool) : tabV k_PARTS (H1 r) = some (.int 1) := by cases r <;> rfl
theorem tab_w : tabV k_PARTS (Str.ofString "word") = some (.int 0) := rfl
theorem tab_n : tabV k_PARTS (Str.ofString "number") = some (.int 0) := rfl
def chs : Sm → List Sm
  | .o _ a b => [a, b]
  | .d _ a _ => [a]
  | _ => []
theorem kids_D (s : Sm) : kids s.D = (chs s).map Sm.D := by
  cases s with
  | w k => rfl
  | n v => rfl
  | o h a b => show (match tabV k_PARTS h.s with
    | some (.int m) => [a.D, b.D].take m.toNat
    | _ => []) = _; rw [tab_2]; rfl
  | d r a c => show (match tabV k_PARTS (H1 r) with
    | some (.int m) => [a.D, .int c].take m.toNat
    | _ => []) = _; rw [tab_1]; rfl
theorem head_D {T : Int} {s : Sm} (h : s.ok T 10) : headB T s.D = true := by
  cases s with
  | w k =>
    obtain ⟨h1, h2⟩ := h
    show (true && (decide (0 ≤ k) && decide (k ≤ 9))) = true
    simp; omega
  | n v =>
    obtain ⟨h1, h2⟩ := h
    show (true && (decide (0 ≤ v) && decide (v ≤ if Str.ofString "number" = Str.ofString "word" then 9 else T))) = true
    rw [if_neg (by decide)]
    simp; omega
  | o q a b =>
    show (match tabV k_PARTS q.s with
    | some (.int 2) => [a.D, b.D].length == 2
    | some (.int 1) => [a.D, b.D].length == 2 && wiB ([a.D, b.D].getD 1 .none) 1 T
    | some (.int 0) => [a.D, b.D].length == 1 && wiB ([a.D, b.D].getD 0 .none) 0 (if q.s = Str.ofString "word" then 9 else T)
    | _ => false) = true
    rw [tab_2]; rfl
  | d r a c =>
    obtain ⟨_, h1, h2⟩ := h
    show (match tabV k_PARTS (H1 r) with
    | some (.int 2) => [a.D, PyData.int c].length == 2
    | some (.int 1) => [a.D, PyData.int c].length == 2 && wiB ([a.D, PyData.int c].getD 1 .none) 1 T
    | some (.int 0) => [a.D, PyData.int c].length == 1 && wiB ([a.D, PyData.int c].getD 0 .none) 0 (if H1 r = Str.ofString "word" then 9 else T)
    | _ => false) = true
    rw [tab_1]
    show (true && (decide (1 ≤ c) && decide (c ≤ T))) = true
    simp; omega
def ssz : List (Sm × Int) → Nat
  | [] => 0
  | p :: r => p.1.sz + ssz r
theorem ssz_app : ∀ a b, ssz (a ++ b) = ssz a + ssz b
  | [], b => by simp [ssz]
  | p :: r, b => by show p.1.sz + ssz (r ++ b) = p.1.sz + ssz r + ssz b; rw [ssz_app r b]; omega
theorem sr_ok {T : Int} : ∀ (n : Nat) (S : List (Sm × Int)) (c : Int), (∀ p ∈ S, p.1.ok T 10 ∧ p.2 + p.1.dp ≤ 19) → c + ssz S ≤ 100 → ssz S < n → sumRun T n (S.map fun p => (p.1.D, p.2)) c = some true
  | 0, S, c, _, _, h => absurd h (Nat.not_lt_zero _)
  | n + 1, [], c, _, _, _ => rfl
  | n + 1, (s, d) :: S, c, h, hc, hn => by
    obtain ⟨h1, h2⟩ := h (s, d) List.mem_cons_self
    have s1 := s.sz1; have p1 := s.dp1
    have hz : ssz ((s, d) :: S) = s.sz + ssz S := rfl
    rw [List.map_cons, sumRun]
    have hd := head_D h1
    rw [if_neg (by rw [hd]; simp; simp at h2; omega), kids_D]
    have e : ((((chs s).map Sm.D).map fun y => (y, d + 1)).reverse ++ S.map fun p => (p.1.D, p.2)) = ((((chs s).map fun y => (y, d + 1)).reverse ++ S).map fun p : Sm × Int => (p.1.D, p.2)) := by
      rw [List.map_append, List.map_reverse, List.map_map, List.map_map]; rfl
    rw [e]
    have cs : ssz (((chs s).map fun y => (y, d + 1)).reverse) + 1 = s.sz := by
      cases s <;> simp [chs, ssz, Sm.sz] <;> omega
    refine sr_ok n _ (c + 1) (fun p hp => ?_) (by rw [ssz_app]; omega) (by rw [ssz_app]; omega)
    rcases List.mem_append.mp hp with hp | hp
    · rw [List.mem_reverse, List.mem_map] at hp
      obtain ⟨y, hy, rfl⟩ := hp
      cases s with
      | w k => cases hy
      | n v => cases hy
      | o q a b =>
        simp only [Sm.dp] at h2
        rcases List.mem_cons.mp hy with e | e
        · rw [e]; exact ⟨h1.1, by show d + 1 + (a.dp : Int) ≤ 19; omega⟩
        · rw [List.mem_singleton.mp e]; exact ⟨h1.2, by show d + 1 + (b.dp : Int) ≤ 19; omega⟩
      | d r a c' =>
        simp only [Sm.dp] at h2
        rw [List.mem_singleton.mp hy]; exact ⟨h1.1, by show d + 1 + (a.dp : Int) ≤ 19; omega⟩
    · exact h p (List.mem_cons_of_mem _ hp)
/-- how deep: fit to be laid out, to be made tuples -/
theorem hs_lay (h : H2) : shK 0 (.str h.s) = true := by cases h <;> decide +kernel
theorem h1_lay (r : Bool) : shK 0 (.str (H1 r)) = true := by cases r <;> decide +kernel
theorem D_sh : ∀ s : Sm, shK s.dp s.D = true
  | .w k => shK_t.mpr fun y hy => by
    rcases List.mem_cons.mp hy with e | e
    · rw [e]; decide +kernel
    · rw [List.mem_singleton.mp e]; exact shK_i _ _
  | .n k => shK_t.mpr fun y hy => by
    rcases List.mem_cons.mp hy with e | e
    · rw [e]; decide +kernel
    · rw [List.mem_singleton.mp e]; exact shK_i _ _
  | .o h a b => shK_t.mpr fun y hy => by
    rcases List.mem_cons.mp hy with e | e
    · rw [e]; exact shK_le (Nat.zero_le _) (hs_lay h)
    · rcases List.mem_cons.mp e with e | e
      · rw [e]; exact shK_le (Nat.le_max_left _ _) (D_sh a)
      · rw [List.mem_singleton.mp e]; exact shK_le (Nat.le_max_right _ _) (D_sh b)
  | .d r a c => shK_t.mpr fun y hy => by
    rcases List.mem_cons.mp hy with e | e
    · rw [e]; exact shK_le (Nat.zero_le _) (h1_lay r)
    · rcases List.mem_cons.mp e with e | e
      · rw [e]; exact D_sh a
      · rw [List.mem_singleton.mp e]; exact shK_i _ _
theorem D_dep : ∀ s : Sm, dep s.D = s.dp
  | .w k => rfl
  | .n k => rfl
  | .o h a b => by
    show max 0 (max (dep a.D) (max (dep b.D) 0)) + 1 = _
    rw [D_dep a, D_dep b]; simp [Sm.dp]
  | .d r a c => by
    show max 0 (max (dep a.D) (max 0 0)) + 1 = _
    rw [D_dep a]; simp [Sm.dp]
theorem D_plain : ∀ s : Sm, plainD s.D = true
  | .w k => by show (decide (2 ≤ sizeLine) && true) = true; decide +kernel
  | .n k => by show (decide (2 ≤ sizeLine) && true) = true; decide +kernel
  | .o h a b => by
    show (decide (3 ≤ sizeLine) && (true && (plainD a.D && (plainD b.D && true)))) = true
    rw [D_plain a, D_plain b]; decide +kernel
  | .d r a c => by
    show (decide (3 ≤ sizeLine) && (true && (plainD a.D && (true && true)))) = true
    rw [D_plain a]; decide +kernel
theorem D_tup : ∀ s : Sm, tupD s.D = s.D
  | .w k => rfl
  | .n k => rfl
  | .o h a b => by
    show PyData.tuple [.str h.s, tupD a.D, tupD b.D] = _
    rw [D_tup a, D_tup b]; rfl
  | .d r a c => by
    show PyData.tuple [.str (H1 r), tupD a.D, .int c] = _
    rw [D_tup a]; rfl
/-- a SUM of the width -/
structure Ok (w : Int) (s : Sm) : Prop where
  w1 : 1 ≤ w
  w2 : w ≤ 64
  ok : s.ok (2 ^ w.toNat - 1) 10
  sz : s.sz ≤ 100
  dp : s.dp ≤ 18
section
variable {w : Int} {s : Sm}
theorem eq_sum_in (O : Ok w s) : φ_is_sum_in [dI w, some (.d s.D)] = .ok (.d (.bool true)) [dI w, some (.d s.D)] := by
  have := O.sz; have := O.dp
  exact eq_is_sum_in O.w1 O.w2 (shK_le (by omega) (D_sh s)) (n := 200) (sr_ok 200 [(s, 1)] 0 (fun p hp => by
    rw [List.mem_singleton.mp hp]
    exact ⟨O.ok, by show (1 : Int) + s.dp ≤ 19; omega⟩) (by show (0 : Int) + ((s.sz + 0 : Nat) : Int) ≤ 100; omega) (by show s.sz + 0 < 200; omega))
theorem eq_tup_D (h : s.dp ≤ 20) : φ_tupled 24 [some (.d s.D)] = .ok (.d s.D) [some (.d s.D)] := by
  have e := eq_tupled 24 s.D (by rw [D_dep]; omega) (D_plain s)
  rwa [D_tup] at e
theorem eq_sure_sum (O : Ok w s) : φ_sure_sum [dI w, some (.d s.D)] = .ok (.d s.D) [dI w, some (.d s.D)] := by
  have e1 := eq_tup_D (s := s) (by have := O.dp; omega)
  have e2 := eq_sum_in O
  (rw [φ_sure_sum, run_ap _ _ _ _ _ (by rfl)]; simp -implicitDefEqProofs [m_sure_sum, finSl, List.range, List.range.loop, e1, e2])
theorem eq_is_sum (O : Ok w s) : φ_is_sum [dI w, some (.d s.D)] = .ok (.d (.bool true)) [dI w, some (.d s.D)] := by
  (rw [φ_is_sum, run_ap _ _ _ _ _ (by rfl)]; simp -implicitDefEqProofs [m_is_sum, finSl, List.range, List.range.loop, eq_sure_width w O.w1 O.w2, eq_sum_in O])
end
end L41

set_option linter.all false
set_option maxRecDepth 100000
set_option exponentiation.threshold 10000
namespace L41
open PySem PySem.Spec L2 DL
/-! ## a tree's rows -/
open SM
noncomputable abbrev riT : M Bool := (tCmpV neS 2 (mFrz (mLst [])))
noncomputable abbrev riX : M Fl := (sIf (DL.tAnd (lift2 oGt (mVar 6) (M.pure (.int 0))) (DL.tNot (tTru (mVar 5)))) (sSeq (sApp 2 (mTup [(mVar 4), (M.pure (.bool true))])) (sSeq (sExtC 2 (mLc [8] (mItems (mFrz (mRev (mFrz (mSl (mVar 4) (pInt (M.pure (.int 1))) (pInt (lift2 oAdd (M.pure (.int 1)) (mVar 6)))))))) (gN 8) mYes (mTup [(mVar 8), (M.pure (.bool false))]))) sCt)) sSkip)
noncomputable abbrev riY : M Fl := (sIf (lift2 oEq (mVar 6) (M.pure (.int 0))) (sApp 1 (mVar 4)) (sIf (lift2 oEq (mVar 6) (M.pure (.int 1))) (sApp 1 (mTup [(lift2 oIx (mVar 4) (M.pure (.int 0))), (mPop 3), (lift2 oIx (mVar 4) (M.pure (.int 2)))])) (sSeq (sSet 7 (mDat (mPop 3))) (sApp 1 (mTup [(lift2 oIx (mVar 4) (M.pure (.int 0))), (mPop 3), (mVar 7)])))))
noncomputable abbrev riA : M Fl := (sAsg (mPop 2) (gT [(gN 4), (gN 5)]))
noncomputable abbrev riM : M Fl := (sSet 6 (mDat (lift1 (oTab k_PARTS) (lift2 oIx (mVar 4) (M.pure (.int 0))))))
noncomputable abbrev riZ : M Fl := (sApp 3 (lift2 oSub (mLenV 1) (M.pure (.int 1))))
noncomputable abbrev riB : M Fl := (sSeq riA (sSeq riM (sSeq riX (sSeq riY riZ))))
def nD (dn : List Nat) : List PyData := dn.map fun (i : Nat) => .int i
abbrev riS (o0 : Option C) (R : List Rw) (L : List PyData) (dn : List Nat) (o4 o5 o6 o7 : Option C) : Sl := [o0, some (.l (R.map Rw.D)), some (.l L), some (.l (nD dn)), o4, o5, o6, o7, none]
abbrev itm (s : Sm) (b : Bool) : PyData := .tuple [s.D, .bool b]
theorem nD_snoc (dn : List Nat) (i : Nat) : nD (dn ++ [i]) = nD dn ++ [.int i] := by unfold nD; rw [List.map_append]; rfl
theorem itm_sh {s : Sm} (b : Bool) (h : s.dp ≤ 60) : shK 62 (itm s b) = true := shK_t.mpr fun y hy => by
  rcases List.mem_cons.mp hy with e | e
  · rw [e]; exact shK_le (by omega) (D_sh s)
  · rw [List.mem_singleton.mp e]; exact shK_b _ _
section
variable {o0 o4 o5 o6 o7 : Option C} {R : List Rw} {L : List PyData} {dn : List Nat}
theorem ri_in (s : Sm) (b : Bool) (h : s.dp ≤ 60) (hL : ∀ p ∈ L, shK 62 p = true) : riT (riS o0 R (L ++ [itm s b]) dn o4 o5 o6 o7) = .ok true (riS o0 R (L ++ [itm s b]) dn o4 o5 o6 o7) := by
  have e : neS (.list (L ++ [itm s b])) (.list []) = some true := by
    rw [neS_n (shaped_of (n := 63) (shK_l.mpr fun y hy => by
      rcases List.mem_append.mp hy with c | c
      · exact hL y c
      · rw [List.mem_singleton.mp c]; exact itm_sh b h) (by decide))]
    cases L <;> rfl
  simp -implicitDefEqProofs [vlAt_ap, e]
theorem ri_A (s : Sm) (b : Bool) : riA (riS o0 R (L ++ [itm s b]) dn o4 o5 o6 o7) = .ok .nx (riS o0 R L dn (some (.d s.D)) (some (.d (.bool b))) o6 o7) := by
  have pop : mPop 2 (riS o0 R (L ++ [itm s b]) dn o4 o5 o6 o7) = .ok (itm s b) (riS o0 R L dn o4 o5 o6 o7) := pop_ok (by rw [lsAt_ap]; rfl)
  show M.bind (mPop 2) _ _ = _
  rw [bind_ok pop]; rfl
theorem ri_Z (r : Rw) (hl : dn.length < 1000) : riZ (riS o0 (R ++ [r]) L dn o4 o5 o6 o7) = .ok .nx (riS o0 (R ++ [r]) L (dn ++ [R.length]) o4 o5 o6 o7) := by
  have e : (((R ++ [r]).map Rw.D).length : Int) - 1 = (R.length : Int) := by simp
  have z : (nD dn).length < sizeLine := sizeL_lt (by unfold nD; simp; omega)
  unfold riS
  rw [nD_snoc]
  generalize (R ++ [r]).map Rw.D = x at *
  simp -implicitDefEqProofs [lsAt_ap, e, z]
theorem ri_go {n : Nat} {x y z : Sl} (h0 : riT x = .ok true x) (h1 : riB x = .ok .nx y ∨ riB x = .ok .ct y) : sWhileN riT riB (n + 1) x = sWhileN riT riB n y := by
  rw [sWhileN, bind_ok h0, if_pos rfl]
  rcases h1 with h1 | h1 <;> rw [bind_ok h1]
theorem ri_leaf (s : Sm) (r : Rw) (hr : r.D = s.D) (hm : chs s = []) (hb : s.dp ≤ 60) (hL : ∀ p ∈ L, shK 62 p = true) (hR : R.length < 1000) (hd : dn.length < 1000) (n : Nat) :
    sWhileN riT riB (1 + n) (riS o0 R (L ++ [itm s false]) dn o4 o5 o6 o7) = sWhileN riT riB n (riS o0 (R ++ [r]) L (dn ++ [R.length]) (some (.d s.D)) (some (.d (.bool false))) (dI 0) o7) := by
  have zr : (R.map Rw.D).length < sizeLine := sizeL_lt (by rw [List.length_map]; omega)
  have eM : riM (riS o0 R L dn (some (.d s.D)) (some (.d (.bool false))) o6 o7) = .ok .nx (riS o0 R L dn (some (.d s.D)) (some (.d (.bool false))) (dI 0) o7) := by
    cases s with
    | w k => simp -implicitDefEqProofs [Sm.D, tab_w]
    | n v => simp -implicitDefEqProofs [Sm.D, tab_n]
    | o h a b => cases hm
    | d q a c => cases hm
  have eX : riX (riS o0 R L dn (some (.d s.D)) (some (.d (.bool false))) (dI 0) o7) = .ok .nx (riS o0 R L dn (some (.d s.D)) (some (.d (.bool false))) (dI 0) o7) := by
    simp -implicitDefEqProofs []
  have eY : riY (riS o0 R L dn (some (.d s.D)) (some (.d (.bool false))) (dI 0) o7) = .ok .nx (riS o0 (R ++ [r]) L dn (some (.d s.D)) (some (.d (.bool false))) (dI 0) o7) := by
    have e : (R ++ [r]).map Rw.D = R.map Rw.D ++ [s.D] := by rw [List.map_append, ← hr]; rfl
    unfold riS
    rw [e]
    generalize R.map Rw.D = x at *
    simp -implicitDefEqProofs [lsAt_ap, zr]
  rw [Nat.add_comm]
  exact ri_go (z := []) (ri_in s false hb hL) (.inl (by unfold riB; rw [seq_ok (ri_A s false), seq_ok eM, seq_ok eX, seq_ok eY, ri_Z r hd]))
theorem ri_ex2 (h : H2) (a b : Sm) (hb : (Sm.o h a b).dp ≤ 60) (hL : ∀ p ∈ L, shK 62 p = true) (hl : L.length < 990) (n : Nat) :
    sWhileN riT riB (1 + n) (riS o0 R (L ++ [itm (.o h a b) false]) dn o4 o5 o6 o7) = sWhileN riT riB n (riS o0 R (L ++ [itm (.o h a b) true] ++ [itm b false] ++ [itm a false]) dn (some (.d (Sm.o h a b).D)) (some (.d (.bool false))) (dI 2) o7) := by
  have z0 : 0 < sizeLine := sizeL_lt (by decide)
  have z1 : 1 < sizeLine := sizeL_lt (by decide)
  have zl : L.length < sizeLine := sizeL_lt (by omega)
  have zm : L.length + 1 + 2 ≤ sizeLine := Nat.le_of_lt (sizeL_lt (by omega))
  have eM : riM (riS o0 R L dn (some (.d (Sm.o h a b).D)) (some (.d (.bool false))) o6 o7) = .ok .nx (riS o0 R L dn (some (.d (Sm.o h a b).D)) (some (.d (.bool false))) (dI 2) o7) := by
    simp -implicitDefEqProofs [Sm.D, tab_2]
  have ec : ∀ x y z : PyData, cutL [x, y, z] (some 1) (some 3) = [y, z] := fun _ _ _ => rfl
  have eX : riX (riS o0 R L dn (some (.d (Sm.o h a b).D)) (some (.d (.bool false))) (dI 2) o7) = .ok .ct (riS o0 R (L ++ [itm (.o h a b) true] ++ [itm b false] ++ [itm a false]) dn (some (.d (Sm.o h a b).D)) (some (.d (.bool false))) (dI 2) o7) := by
    simp -implicitDefEqProofs [Sm.D, ec, lsAt_ap, zl, noOwn, wipeS, mLcL, z0, z1, restS, toL, zm, List.range, List.range.loop]
  rw [Nat.add_comm]
  exact ri_go (z := []) (ri_in _ false hb hL) (.inr (by unfold riB; rw [seq_ok (ri_A _ false), seq_ok eM, sSeq_ap, eX]; rfl))
theorem ri_ex1 (q : Bool) (a : Sm) (c : Int) (hb : (Sm.d q a c).dp ≤ 60) (hL : ∀ p ∈ L, shK 62 p = true) (hl : L.length < 990) (n : Nat) :
    sWhileN riT riB (1 + n) (riS o0 R (L ++ [itm (.d q a c) false]) dn o4 o5 o6 o7) = sWhileN riT riB n (riS o0 R (L ++ [itm (.d q a c) true] ++ [itm a false]) dn (some (.d (Sm.d q a c).D)) (some (.d (.bool false))) (dI 1) o7) := by
  have z0 : 0 < sizeLine := sizeL_lt (by decide)
  have zl : L.length < sizeLine := sizeL_lt (by omega)
  have zm : L.length + 1 + 1 ≤ sizeLine := Nat.le_of_lt (sizeL_lt (by omega))
  have eM : riM (riS o0 R L dn (some (.d (Sm.d q a c).D)) (some (.d (.bool false))) o6 o7) = .ok .nx (riS o0 R L dn (some (.d (Sm.d q a c).D)) (some (.d (.bool false))) (dI 1) o7) := by
    simp -implicitDefEqProofs [Sm.D, tab_1]
  have ec : ∀ x y z : PyData, cutL [x, y, z] (some 1) (some 2) = [y] := fun _ _ _ => rfl
  have eX : riX (riS o0 R L dn (some (.d (Sm.d q a c).D)) (some (.d (.bool false))) (dI 1) o7) = .ok .ct (riS o0 R (L ++ [itm (.d q a c) true] ++ [itm a false]) dn (some (.d (Sm.d q a c).D)) (some (.d (.bool false))) (dI 1) o7) := by
    simp -implicitDefEqProofs [Sm.D, ec, lsAt_ap, zl, noOwn, wipeS, mLcL, z0, restS, toL, zm, List.range, List.range.loop]
  rw [Nat.add_comm]
  exact ri_go (z := []) (ri_in _ false hb hL) (.inr (by unfold riB; rw [seq_ok (ri_A _ false), seq_ok eM, sSeq_ap, eX]; rfl))
theorem ri_rd2 (h : H2) (a b : Sm) (i j : Nat) (hb : (Sm.o h a b).dp ≤ 60) (hL : ∀ p ∈ L, shK 62 p = true) (hR : R.length < 1000) (hd : dn.length < 1000) (n : Nat) :
    sWhileN riT riB (1 + n) (riS o0 R (L ++ [itm (.o h a b) true]) (dn ++ [i] ++ [j]) o4 o5 o6 o7) = sWhileN riT riB n (riS o0 (R ++ [.o h i j]) L (dn ++ [R.length]) (some (.d (Sm.o h a b).D)) (some (.d (.bool true))) (dI 2) (dI j)) := by
  have zr : (R.map Rw.D).length < sizeLine := sizeL_lt (by rw [List.length_map]; omega)
  have eM : riM (riS o0 R L (dn ++ [i] ++ [j]) (some (.d (Sm.o h a b).D)) (some (.d (.bool true))) o6 o7) = .ok .nx (riS o0 R L (dn ++ [i] ++ [j]) (some (.d (Sm.o h a b).D)) (some (.d (.bool true))) (dI 2) o7) := by
    simp -implicitDefEqProofs [Sm.D, tab_2]
  have eX : riX (riS o0 R L (dn ++ [i] ++ [j]) (some (.d (Sm.o h a b).D)) (some (.d (.bool true))) (dI 2) o7) = .ok .nx (riS o0 R L (dn ++ [i] ++ [j]) (some (.d (Sm.o h a b).D)) (some (.d (.bool true))) (dI 2) o7) := by
    simp -implicitDefEqProofs []
  have p1 : mPop 3 (riS o0 R L (dn ++ [i] ++ [j]) (some (.d (Sm.o h a b).D)) (some (.d (.bool true))) (dI 2) o7) = .ok (.int j) (riS o0 R L (dn ++ [i]) (some (.d (Sm.o h a b).D)) (some (.d (.bool true))) (dI 2) o7) := pop_ok (by rw [lsAt_ap]; show some (nD (dn ++ [i] ++ [j])) = _; rw [nD_snoc])
  have s1 : sSet 7 (mDat (mPop 3)) (riS o0 R L (dn ++ [i] ++ [j]) (some (.d (Sm.o h a b).D)) (some (.d (.bool true))) (dI 2) o7) = .ok .nx (riS o0 R L (dn ++ [i]) (some (.d (Sm.o h a b).D)) (some (.d (.bool true))) (dI 2) (dI j)) := by
    rw [sSet_ap, mDat_ap, p1]; rfl
  have p2 : mPop 3 (riS o0 R L (dn ++ [i]) (some (.d (Sm.o h a b).D)) (some (.d (.bool true))) (dI 2) (dI j)) = .ok (.int i) (riS o0 R L dn (some (.d (Sm.o h a b).D)) (some (.d (.bool true))) (dI 2) (dI j)) := pop_ok (by rw [lsAt_ap]; show some (nD (dn ++ [i])) = _; rw [nD_snoc])
  have eY : riY (riS o0 R L (dn ++ [i] ++ [j]) (some (.d (Sm.o h a b).D)) (some (.d (.bool true))) (dI 2) o7) = .ok .nx (riS o0 (R ++ [.o h i j]) L dn (some (.d (Sm.o h a b).D)) (some (.d (.bool true))) (dI 2) (dI j)) := by
    have c1 : ∀ X Y : M Fl, sIf (lift2 oEq (mVar 6) (M.pure (.int 0))) X Y (riS o0 R L (dn ++ [i] ++ [j]) (some (.d (Sm.o h a b).D)) (some (.d (.bool true))) (dI 2) o7) = Y (riS o0 R L (dn ++ [i] ++ [j]) (some (.d (Sm.o h a b).D)) (some (.d (.bool true))) (dI 2) o7) := fun X Y => by
      simp -implicitDefEqProofs []
    have c2 : ∀ X Y : M Fl, sIf (lift2 oEq (mVar 6) (M.pure (.int 1))) X Y (riS o0 R L (dn ++ [i] ++ [j]) (some (.d (Sm.o h a b).D)) (some (.d (.bool true))) (dI 2) o7) = Y (riS o0 R L (dn ++ [i] ++ [j]) (some (.d (Sm.o h a b).D)) (some (.d (.bool true))) (dI 2) o7) := fun X Y => by
      simp -implicitDefEqProofs []
    have e : (R ++ [Rw.o h i j]).map Rw.D = R.map Rw.D ++ [.tuple [.str h.s, .int i, .int j]] := by rw [List.map_append]; rfl
    have tp : mTup [(lift2 oIx (mVar 4) (M.pure (.int 0))), (mPop 3), (mVar 7)] (riS o0 R L (dn ++ [i]) (some (.d (Sm.o h a b).D)) (some (.d (.bool true))) (dI 2) (dI j)) = .ok (.tuple [.str h.s, .int i, .int j]) (riS o0 R L dn (some (.d (Sm.o h a b).D)) (some (.d (.bool true))) (dI 2) (dI j)) := by
      have i0 : lift2 oIx (mVar 4) (M.pure (.int 0)) (riS o0 R L (dn ++ [i]) (some (.d (Sm.o h a b).D)) (some (.d (.bool true))) (dI 2) (dI j)) = .ok (.str h.s) (riS o0 R L (dn ++ [i]) (some (.d (Sm.o h a b).D)) (some (.d (.bool true))) (dI 2) (dI j)) := by
        simp -implicitDefEqProofs [Sm.D]
      rw [mTup_ap, mSeq_cons, i0, then_ok]
      simp only [bind_ap, mSeq_cons, p2, then_ok]
      rfl
    unfold riY
    rw [c1, c2, seq_ok s1]
    unfold riS at tp ⊢
    rw [sApp_ap, sOn_ap]
    show (if (some (R.map Rw.D)).isSome = true then _ else _) = _
    rw [if_pos (show (some (R.map Rw.D)).isSome = true from rfl), bind_ok tp]
    show (if (R.map Rw.D).length < sizeLine then _ else _) = _
    rw [if_pos zr, e]; rfl
  rw [Nat.add_comm]
  exact ri_go (z := []) (ri_in _ true hb hL) (.inl (by unfold riB; rw [seq_ok (ri_A _ true), seq_ok eM, seq_ok eX, seq_ok eY, ri_Z _ hd]))
theorem ri_rd1 (q : Bool) (a : Sm) (c : Int) (i : Nat) (hb : (Sm.d q a c).dp ≤ 60) (hL : ∀ p ∈ L, shK 62 p = true) (hR : R.length < 1000) (hd : dn.length < 1000) (n : Nat) :
    sWhileN riT riB (1 + n) (riS o0 R (L ++ [itm (.d q a c) true]) (dn ++ [i]) o4 o5 o6 o7) = sWhileN riT riB n (riS o0 (R ++ [.d q i c]) L (dn ++ [R.length]) (some (.d (Sm.d q a c).D)) (some (.d (.bool true))) (dI 1) o7) := by
  have zr : (R.map Rw.D).length < sizeLine := sizeL_lt (by rw [List.length_map]; omega)
  have eM : riM (riS o0 R L (dn ++ [i]) (some (.d (Sm.d q a c).D)) (some (.d (.bool true))) o6 o7) = .ok .nx (riS o0 R L (dn ++ [i]) (some (.d (Sm.d q a c).D)) (some (.d (.bool true))) (dI 1) o7) := by
    simp -implicitDefEqProofs [Sm.D, tab_1]
  have eX : riX (riS o0 R L (dn ++ [i]) (some (.d (Sm.d q a c).D)) (some (.d (.bool true))) (dI 1) o7) = .ok .nx (riS o0 R L (dn ++ [i]) (some (.d (Sm.d q a c).D)) (some (.d (.bool true))) (dI 1) o7) := by
    simp -implicitDefEqProofs []
  have p2 : mPop 3 (riS o0 R L (dn ++ [i]) (some (.d (Sm.d q a c).D)) (some (.d (.bool true))) (dI 1) o7) = .ok (.int i) (riS o0 R L dn (some (.d (Sm.d q a c).D)) (some (.d (.bool true))) (dI 1) o7) := pop_ok (by rw [lsAt_ap]; show some (nD (dn ++ [i])) = _; rw [nD_snoc])
  have eY : riY (riS o0 R L (dn ++ [i]) (some (.d (Sm.d q a c).D)) (some (.d (.bool true))) (dI 1) o7) = .ok .nx (riS o0 (R ++ [.d q i c]) L dn (some (.d (Sm.d q a c).D)) (some (.d (.bool true))) (dI 1) o7) := by
    have c1 : ∀ X Y : M Fl, sIf (lift2 oEq (mVar 6) (M.pure (.int 0))) X Y (riS o0 R L (dn ++ [i]) (some (.d (Sm.d q a c).D)) (some (.d (.bool true))) (dI 1) o7) = Y (riS o0 R L (dn ++ [i]) (some (.d (Sm.d q a c).D)) (some (.d (.bool true))) (dI 1) o7) := fun X Y => by
      simp -implicitDefEqProofs []
    have c2 : ∀ X Y : M Fl, sIf (lift2 oEq (mVar 6) (M.pure (.int 1))) X Y (riS o0 R L (dn ++ [i]) (some (.d (Sm.d q a c).D)) (some (.d (.bool true))) (dI 1) o7) = X (riS o0 R L (dn ++ [i]) (some (.d (Sm.d q a c).D)) (some (.d (.bool true))) (dI 1) o7) := fun X Y => by
      simp -implicitDefEqProofs []
    have e : (R ++ [Rw.d q i c]).map Rw.D = R.map Rw.D ++ [.tuple [.str (H1 q), .int i, .int c]] := by rw [List.map_append]; rfl
    have tp : mTup [(lift2 oIx (mVar 4) (M.pure (.int 0))), (mPop 3), (lift2 oIx (mVar 4) (M.pure (.int 2)))] (riS o0 R L (dn ++ [i]) (some (.d (Sm.d q a c).D)) (some (.d (.bool true))) (dI 1) o7) = .ok (.tuple [.str (H1 q), .int i, .int c]) (riS o0 R L dn (some (.d (Sm.d q a c).D)) (some (.d (.bool true))) (dI 1) o7) := by
      have i0 : lift2 oIx (mVar 4) (M.pure (.int 0)) (riS o0 R L (dn ++ [i]) (some (.d (Sm.d q a c).D)) (some (.d (.bool true))) (dI 1) o7) = .ok (.str (H1 q)) (riS o0 R L (dn ++ [i]) (some (.d (Sm.d q a c).D)) (some (.d (.bool true))) (dI 1) o7) := by
        simp -implicitDefEqProofs [Sm.D]
      rw [mTup_ap, mSeq_cons, i0, then_ok]
      simp only [bind_ap, mSeq_cons, p2, then_ok]
      rfl
    unfold riY
    rw [c1, c2]
    unfold riS at tp ⊢
    rw [sApp_ap, sOn_ap]
    show (if (some (R.map Rw.D)).isSome = true then _ else _) = _
    rw [if_pos (show (some (R.map Rw.D)).isSome = true from rfl), bind_ok tp]
    show (if (R.map Rw.D).length < sizeLine then _ else _) = _
    rw [if_pos zr, e]; rfl
  rw [Nat.add_comm]
  exact ri_go (z := []) (ri_in _ true hb hL) (.inl (by unfold riB; rw [seq_ok (ri_A _ true), seq_ok eM, seq_ok eX, seq_ok eY, ri_Z _ hd]))
end
theorem ri_reach (o0 : Option C) : ∀ (s : Sm) (R : List Rw) (L : List PyData) (dn : List Nat) (o4 o5 o6 o7 : Option C), s.dp ≤ 60 → (∀ p ∈ L, shK 62 p = true) → R.length + s.sz ≤ 900 → L.length + 3 * s.dp ≤ 900 → dn.length + s.sz ≤ 900 →
    ∃ (k : Nat) (p4 p5 p6 p7 : Option C), ∀ n, sWhileN riT riB (k + n) (riS o0 R (L ++ [itm s false]) dn o4 o5 o6 o7) = sWhileN riT riB n (riS o0 (s.rows R) L (dn ++ [(s.rows R).length - 1]) p4 p5 p6 p7)
  | .w k, R, L, dn, o4, o5, o6, o7, hb, hL, hR, hl, hd => ⟨1, _, _, _, _, fun n => by
    simp only [Sm.sz] at hR hd
    have e := ri_leaf (o0 := o0) (o4 := o4) (o5 := o5) (o6 := o6) (o7 := o7) (R := R) (dn := dn) (.w k) (.w k) rfl rfl hb hL (by omega) (by omega) n
    have el : (Sm.rows (.w k) R).length - 1 = R.length := by rw [rows_len]; rfl
    rw [el]; exact e⟩
  | .n k, R, L, dn, o4, o5, o6, o7, hb, hL, hR, hl, hd => ⟨1, _, _, _, _, fun n => by
    simp only [Sm.sz] at hR hd
    have e := ri_leaf (o0 := o0) (o4 := o4) (o5 := o5) (o6 := o6) (o7 := o7) (R := R) (dn := dn) (.n k) (.n k) rfl rfl hb hL (by omega) (by omega) n
    have el : (Sm.rows (.n k) R).length - 1 = R.length := by rw [rows_len]; rfl
    rw [el]; exact e⟩
  | .o h a b, R, L, dn, o4, o5, o6, o7, hb, hL, hR, hl, hd => by
    simp only [Sm.sz] at hR hd
    simp only [Sm.dp] at hl
    have hb' := hb
    simp only [Sm.dp] at hb
    have la := rows_len a R
    have lb := rows_len b (a.rows R)
    have sa := a.sz1; have sb := b.sz1
    have sh1 : ∀ p ∈ L ++ [itm (.o h a b) true], shK 62 p = true := fun p hp => by
      rcases List.mem_append.mp hp with c | c
      · exact hL p c
      · rw [List.mem_singleton.mp c]; exact itm_sh true hb'
    have sh2 : ∀ p ∈ L ++ [itm (.o h a b) true] ++ [itm b false], shK 62 p = true := fun p hp => by
      rcases List.mem_append.mp hp with c | c
      · exact sh1 p c
      · rw [List.mem_singleton.mp c]; exact itm_sh false (by omega)
    obtain ⟨k1, a4, a5, a6, a7, h1⟩ := ri_reach o0 a R (L ++ [itm (.o h a b) true] ++ [itm b false]) dn (some (.d (Sm.o h a b).D)) (some (.d (.bool false))) (dI 2) o7 (by omega) sh2 (by omega) (by simp; omega) (by omega)
    obtain ⟨k2, b4, b5, b6, b7, h2⟩ := ri_reach o0 b (a.rows R) (L ++ [itm (.o h a b) true]) (dn ++ [(a.rows R).length - 1]) a4 a5 a6 a7 (by omega) sh1 (by omega) (by simp; omega) (by simp; omega)
    refine ⟨1 + (k1 + (k2 + 1)), some (.d (Sm.o h a b).D), some (.d (.bool true)), dI 2, dI (((b.rows (a.rows R)).length - 1 : Nat) : Int), fun n => ?_⟩
    rw [show 1 + (k1 + (k2 + 1)) + n = 1 + (k1 + (k2 + (1 + n))) by omega]
    rw [ri_ex2 h a b hb' hL (by omega), h1, h2, ri_rd2 h a b _ _ hb' hL (by omega) (by omega)]
    have el : (Sm.rows (.o h a b) R).length - 1 = (b.rows (a.rows R)).length := by
      rw [rows_len, lb, la]; simp only [Sm.sz]; omega
    rw [el]; rfl
  | .d q a c, R, L, dn, o4, o5, o6, o7, hb, hL, hR, hl, hd => by
    simp only [Sm.sz] at hR hd
    simp only [Sm.dp] at hl
    have hb' := hb
    simp only [Sm.dp] at hb
    have la := rows_len a R
    have sa := a.sz1
    have sh1 : ∀ p ∈ L ++ [itm (.d q a c) true], shK 62 p = true := fun p hp => by
      rcases List.mem_append.mp hp with c | c
      · exact hL p c
      · rw [List.mem_singleton.mp c]; exact itm_sh true hb'
    obtain ⟨k1, a4, a5, a6, a7, h1⟩ := ri_reach o0 a R (L ++ [itm (.d q a c) true]) dn (some (.d (Sm.d q a c).D)) (some (.d (.bool false))) (dI 1) o7 (by omega) sh1 (by omega) (by simp; omega) (by omega)
    refine ⟨1 + (k1 + 1), some (.d (Sm.d q a c).D), some (.d (.bool true)), dI 1, a7, fun n => ?_⟩
    rw [show 1 + (k1 + 1) + n = 1 + (k1 + (1 + n)) by omega]
    rw [ri_ex1 q a c hb' hL (by omega), h1, ri_rd1 q a c _ hb' hL (by omega) (by omega)]
    have el : (Sm.rows (.d q a c) R).length - 1 = (a.rows R).length := by
      rw [rows_len, la]; simp only [Sm.sz]; omega
    rw [el]; rfl
theorem eq_rows_in {s : Sm} (hs : s.sz ≤ 800) (hd : s.dp ≤ 60) : φ_rows_in [some (.d s.D)] = .ok (.l ((s.rows []).map Rw.D)) [some (.d s.D)] := by
  obtain ⟨k, p4, p5, p6, p7, h⟩ := ri_reach (some (.d s.D)) s [] [] [] none none none none hd (fun p hp => by cases hp) (by simp; omega) (by simp; omega) (by simp; omega)
  have h1 := h 1
  have e : neS (.list []) (.list []) = some false := neS_n shaped_nil
  have h2 : sWhileN riT riB 1 (riS (some (.d s.D)) (s.rows []) [] ([] ++ [(s.rows []).length - 1]) p4 p5 p6 p7) = .ok .nx (riS (some (.d s.D)) (s.rows []) [] ([] ++ [(s.rows []).length - 1]) p4 p5 p6 p7) := by
    rw [sWhileN]
    simp -implicitDefEqProofs [vlAt_ap, e]
  rw [h2] at h1
  have st0 : sSet3 1 2 3 (mLst []) (mLst [(mTup [(mVar 0), (M.pure (.bool false))])]) (mLst []) [some (.d s.D), none, none, none, none, none, none, none, none] = .ok .nx (riS (some (.d s.D)) [] ([] ++ [itm s false]) [] none none none none) := rfl
  rw [φ_rows_in, run_ap _ _ _ _ _ (by rfl), m_rows_in]
  show runR 1 [0] _ (sSeq _ _ [some (.d s.D), none, none, none, none, none, none, none, none]) = _
  rw [seq_ok st0, sSeq_ap, sWhile_eq h1]
  rfl
end L41

set_option linter.all false
set_option maxRecDepth 100000
set_option exponentiation.threshold 10000
namespace L41
open PySem PySem.Spec L2 DL
/-! ## texts told apart -/
@[simp] theorem se_word_word : oEq (.str (Str.ofString "word")) (.str (Str.ofString "word")) = some true := rfl
@[simp] theorem se_word_number : oEq (.str (Str.ofString "word")) (.str (Str.ofString "number")) = some false := rfl
@[simp] theorem se_word_plus : oEq (.str (Str.ofString "word")) (.str (Str.ofString "plus")) = some false := rfl
@[simp] theorem se_word_less : oEq (.str (Str.ofString "word")) (.str (Str.ofString "less")) = some false := rfl
@[simp] theorem se_word_times : oEq (.str (Str.ofString "word")) (.str (Str.ofString "times")) = some false := rfl
@[simp] theorem se_word_over : oEq (.str (Str.ofString "word")) (.str (Str.ofString "over")) = some false := rfl
@[simp] theorem se_word_rest : oEq (.str (Str.ofString "word")) (.str (Str.ofString "rest")) = some false := rfl
@[simp] theorem se_word_least : oEq (.str (Str.ofString "word")) (.str (Str.ofString "least")) = some false := rfl
@[simp] theorem se_word_most : oEq (.str (Str.ofString "word")) (.str (Str.ofString "most")) = some false := rfl
@[simp] theorem si_word_wn : oIn (.str (Str.ofString "word")) (.tuple [.str (Str.ofString "word"), .str (Str.ofString "number")]) = some true := rfl
@[simp] theorem si_word_or : oIn (.str (Str.ofString "word")) (.tuple [.str (Str.ofString "over"), .str (Str.ofString "rest")]) = some false := rfl
@[simp] theorem se_number_word : oEq (.str (Str.ofString "number")) (.str (Str.ofString "word")) = some false := rfl
@[simp] theorem se_number_number : oEq (.str (Str.ofString "number")) (.str (Str.ofString "number")) = some true := rfl
@[simp] theorem se_number_plus : oEq (.str (Str.ofString "number")) (.str (Str.ofString "plus")) = some false := rfl
@[simp] theorem se_number_less : oEq (.str (Str.ofString "number")) (.str (Str.ofString "less")) = some false := rfl
@[simp] theorem se_number_times : oEq (.str (Str.ofString "number")) (.str (Str.ofString "times")) = some false := rfl
@[simp] theorem se_number_over : oEq (.str (Str.ofString "number")) (.str (Str.ofString "over")) = some false := rfl
@[simp] theorem se_number_rest : oEq (.str (Str.ofString "number")) (.str (Str.ofString "rest")) = some false := rfl
@[simp] theorem se_number_least : oEq (.str (Str.ofString "number")) (.str (Str.ofString "least")) = some false := rfl
@[simp] theorem se_number_most : oEq (.str (Str.ofString "number")) (.str (Str.ofString "most")) = some false := rfl
@[simp] theorem si_number_wn : oIn (.str (Str.ofString "number")) (.tuple [.str (Str.ofString "word"), .str (Str.ofString "number")]) = some true := rfl
@[simp] theorem si_number_or : oIn (.str (Str.ofString "number")) (.tuple [.str (Str.ofString "over"), .str (Str.ofString "rest")]) = some false := rfl
@[simp] theorem se_plus_word : oEq (.str (Str.ofString "plus")) (.str (Str.ofString "word")) = some false := rfl
@[simp] theorem se_plus_number : oEq (.str (Str.ofString "plus")) (.str (Str.ofString "number")) = some false := rfl
@[simp] theorem se_plus_plus : oEq (.str (Str.ofString "plus")) (.str (Str.ofString "plus")) = some true := rfl
@[simp] theorem se_plus_less : oEq (.str (Str.ofString "plus")) (.str (Str.ofString "less")) = some false := rfl
@[simp] theorem se_plus_times : oEq (.str (Str.ofString "plus")) (.str (Str.ofString "times")) = some false := rfl
@[simp] theorem se_plus_over : oEq (.str (Str.ofString "plus")) (.str (Str.ofString "over")) = some false := rfl
@[simp] theorem se_plus_rest : oEq (.str (Str.ofString "plus")) (.str (Str.ofString "rest")) = some false := rfl
@[simp] theorem se_plus_least : oEq (.str (Str.ofString "plus")) (.str (Str.ofString "least")) = some false := rfl
@[simp] theorem se_plus_most : oEq (.str (Str.ofString "plus")) (.str (Str.ofString "most")) = some false := rfl
@[simp] theorem si_plus_wn : oIn (.str (Str.ofString "plus")) (.tuple [.str (Str.ofString "word"), .str (Str.ofString "number")]) = some false := rfl
@[simp] theorem si_plus_or : oIn (.str (Str.ofString "plus")) (.tuple [.str (Str.ofString "over"), .str (Str.ofString "rest")]) = some false := rfl
@[simp] theorem se_less_word : oEq (.str (Str.ofString "less")) (.str (Str.ofString "word")) = some false := rfl
@[simp] theorem se_less_number : oEq (.str (Str.ofString "less")) (.str (Str.ofString "number")) = some false := rfl
@[simp] theorem se_less_plus : oEq (.str (Str.ofString "less")) (.str (Str.ofString "plus")) = some false := rfl
@[simp] theorem se_less_less : oEq (.str (Str.ofString "less")) (.str (Str.ofString "less")) = some true := rfl
@[simp] theorem se_less_times : oEq (.str (Str.ofString "less")) (.str (Str.ofString "times")) = some false := rfl
@[simp] theorem se_less_over : oEq (.str (Str.ofString "less")) (.str (Str.ofString "over")) = some false := rfl
@[simp] theorem se_less_rest : oEq (.str (Str.ofString "less")) (.str (Str.ofString "rest")) = some false := rfl
@[simp] theorem se_less_least : oEq (.str (Str.ofString "less")) (.str (Str.ofString "least")) = some false := rfl
@[simp] theorem se_less_most : oEq (.str (Str.ofString "less")) (.str (Str.ofString "most")) = some false := rfl
@[simp] theorem si_less_wn : oIn (.str (Str.ofString "less")) (.tuple [.str (Str.ofString "word"), .str (Str.ofString "number")]) = some false := rfl
@[simp] theorem si_less_or : oIn (.str (Str.ofString "less")) (.tuple [.str (Str.ofString "over"), .str (Str.ofString "rest")]) = some false := rfl
@[simp] theorem se_times_word : oEq (.str (Str.ofString "times")) (.str (Str.ofString "word")) = some false := rfl
@[simp] theorem se_times_number : oEq (.str (Str.ofString "times")) (.str (Str.ofString "number")) = some false := rfl
@[simp] theorem se_times_plus : oEq (.str (Str.ofString "times")) (.str (Str.ofString "plus")) = some false := rfl
@[simp] theorem se_times_less : oEq (.str (Str.ofString "times")) (.str (Str.ofString "less")) = some false := rfl
@[simp] theorem se_times_times : oEq (.str (Str.ofString "times")) (.str (Str.ofString "times")) = some true := rfl
@[simp] theorem se_times_over : oEq (.str (Str.ofString "times")) (.str (Str.ofString "over")) = some false := rfl
@[simp] theorem se_times_rest : oEq (.str (Str.ofString "times")) (.str (Str.ofString "rest")) = some false := rfl
@[simp] theorem se_times_least : oEq (.str (Str.ofString "times")) (.str (Str.ofString "least")) = some false := rfl
@[simp] theorem se_times_most : oEq (.str (Str.ofString "times")) (.str (Str.ofString "most")) = some false := rfl
@[simp] theorem si_times_wn : oIn (.str (Str.ofString "times")) (.tuple [.str (Str.ofString "word"), .str (Str.ofString "number")]) = some false := rfl
@[simp] theorem si_times_or : oIn (.str (Str.ofString "times")) (.tuple [.str (Str.ofString "over"), .str (Str.ofString "rest")]) = some false := rfl
@[simp] theorem se_over_word : oEq (.str (Str.ofString "over")) (.str (Str.ofString "word")) = some false := rfl
@[simp] theorem se_over_number : oEq (.str (Str.ofString "over")) (.str (Str.ofString "number")) = some false := rfl
@[simp] theorem se_over_plus : oEq (.str (Str.ofString "over")) (.str (Str.ofString "plus")) = some false := rfl
@[simp] theorem se_over_less : oEq (.str (Str.ofString "over")) (.str (Str.ofString "less")) = some false := rfl
@[simp] theorem se_over_times : oEq (.str (Str.ofString "over")) (.str (Str.ofString "times")) = some false := rfl
@[simp] theorem se_over_over : oEq (.str (Str.ofString "over")) (.str (Str.ofString "over")) = some true := rfl
@[simp] theorem se_over_rest : oEq (.str (Str.ofString "over")) (.str (Str.ofString "rest")) = some false := rfl
@[simp] theorem se_over_least : oEq (.str (Str.ofString "over")) (.str (Str.ofString "least")) = some false := rfl
@[simp] theorem se_over_most : oEq (.str (Str.ofString "over")) (.str (Str.ofString "most")) = some false := rfl
@[simp] theorem si_over_wn : oIn (.str (Str.ofString "over")) (.tuple [.str (Str.ofString "word"), .str (Str.ofString "number")]) = some false := rfl
@[simp] theorem si_over_or : oIn (.str (Str.ofString "over")) (.tuple [.str (Str.ofString "over"), .str (Str.ofString "rest")]) = some true := rfl
@[simp] theorem se_rest_word : oEq (.str (Str.ofString "rest")) (.str (Str.ofString "word")) = some false := rfl
@[simp] theorem se_rest_number : oEq (.str (Str.ofString "rest")) (.str (Str.ofString "number")) = some false := rfl
@[simp] theorem se_rest_plus : oEq (.str (Str.ofString "rest")) (.str (Str.ofString "plus")) = some false := rfl
@[simp] theorem se_rest_less : oEq (.str (Str.ofString "rest")) (.str (Str.ofString "less")) = some false := rfl
@[simp] theorem se_rest_times : oEq (.str (Str.ofString "rest")) (.str (Str.ofString "times")) = some false := rfl
@[simp] theorem se_rest_over : oEq (.str (Str.ofString "rest")) (.str (Str.ofString "over")) = some false := rfl
@[simp] theorem se_rest_rest : oEq (.str (Str.ofString "rest")) (.str (Str.ofString "rest")) = some true := rfl
@[simp] theorem se_rest_least : oEq (.str (Str.ofString "rest")) (.str (Str.ofString "least")) = some false := rfl
@[simp] theorem se_rest_most : oEq (.str (Str.ofString "rest")) (.str (Str.ofString "most")) = some false := rfl
@[simp] theorem si_rest_wn : oIn (.str (Str.ofString "rest")) (.tuple [.str (Str.ofString "word"), .str (Str.ofString "number")]) = some false := rfl
@[simp] theorem si_rest_or : oIn (.str (Str.ofString "rest")) (.tuple [.str (Str.ofString "over"), .str (Str.ofString "rest")]) = some true := rfl
@[simp] theorem se_least_word : oEq (.str (Str.ofString "least")) (.str (Str.ofString "word")) = some false := rfl
@[simp] theorem se_least_number : oEq (.str (Str.ofString "least")) (.str (Str.ofString "number")) = some false := rfl
@[simp] theorem se_least_plus : oEq (.str (Str.ofString "least")) (.str (Str.ofString "plus")) = some false := rfl
@[simp] theorem se_least_less : oEq (.str (Str.ofString "least")) (.str (Str.ofString "less")) = some false := rfl
@[simp] theorem se_least_times : oEq (.str (Str.ofString "least")) (.str (Str.ofString "times")) = some false := rfl
@[simp] theorem se_least_over : oEq (.str (Str.ofString "least")) (.str (Str.ofString "over")) = some false := rfl
@[simp] theorem se_least_rest : oEq (.str (Str.ofString "least")) (.str (Str.ofString "rest")) = some false := rfl
@[simp] theorem se_least_least : oEq (.str (Str.ofString "least")) (.str (Str.ofString "least")) = some true := rfl
@[simp] theorem se_least_most : oEq (.str (Str.ofString "least")) (.str (Str.ofString "most")) = some false := rfl
@[simp] theorem si_least_wn : oIn (.str (Str.ofString "least")) (.tuple [.str (Str.ofString "word"), .str (Str.ofString "number")]) = some false := rfl
@[simp] theorem si_least_or : oIn (.str (Str.ofString "least")) (.tuple [.str (Str.ofString "over"), .str (Str.ofString "rest")]) = some false := rfl
@[simp] theorem se_most_word : oEq (.str (Str.ofString "most")) (.str (Str.ofString "word")) = some false := rfl
@[simp] theorem se_most_number : oEq (.str (Str.ofString "most")) (.str (Str.ofString "number")) = some false := rfl
@[simp] theorem se_most_plus : oEq (.str (Str.ofString "most")) (.str (Str.ofString "plus")) = some false := rfl
@[simp] theorem se_most_less : oEq (.str (Str.ofString "most")) (.str (Str.ofString "less")) = some false := rfl
@[simp] theorem se_most_times : oEq (.str (Str.ofString "most")) (.str (Str.ofString "times")) = some false := rfl
@[simp] theorem se_most_over : oEq (.str (Str.ofString "most")) (.str (Str.ofString "over")) = some false := rfl
@[simp] theorem se_most_rest : oEq (.str (Str.ofString "most")) (.str (Str.ofString "rest")) = some false := rfl
@[simp] theorem se_most_least : oEq (.str (Str.ofString "most")) (.str (Str.ofString "least")) = some false := rfl
@[simp] theorem se_most_most : oEq (.str (Str.ofString "most")) (.str (Str.ofString "most")) = some true := rfl
@[simp] theorem si_most_wn : oIn (.str (Str.ofString "most")) (.tuple [.str (Str.ofString "word"), .str (Str.ofString "number")]) = some false := rfl
@[simp] theorem si_most_or : oIn (.str (Str.ofString "most")) (.tuple [.str (Str.ofString "over"), .str (Str.ofString "rest")]) = some false := rfl
/-! ## what the rows give -/
open SM
/-- what words a row of rows asks -/
def wds : List Rw → List Int
  | [] => []
  | .w k :: r => (k + 1) :: wds r
  | _ :: r => wds r
def mw (R : List Rw) : Int := maxI 0 (wds R)
theorem oMaxL_i (n : Int) (r : List Int) : oMaxL (.list ((n :: r).map .int)) = some (.int (maxI n r)) := by
  show (match intsD ((n :: r).map .int) with
    | some (n :: r) => some (PyData.int (maxI n r))
    | _ => none) = _
  rw [intsD_m]
theorem wds_len : ∀ R : List Rw, (wds R).length ≤ R.length
  | [] => Nat.le_refl _
  | .w k :: r => by have := wds_len r; simp [wds]; omega
  | .n k :: r => by have := wds_len r; simp [wds]; omega
  | .o _ _ _ :: r => by have := wds_len r; simp [wds]; omega
  | .d _ _ _ :: r => by have := wds_len r; simp [wds]; omega
theorem hs_w (h : H2) : oEq (.str h.s) (.str (Str.ofString "word")) = some false := by cases h <;> rfl
theorem h1_w (r : Bool) : oEq (.str (H1 r)) (.str (Str.ofString "word")) = some false := by cases r <;> rfl
theorem hs_wn (h : H2) : oIn (.str h.s) (.tuple [.str (Str.ofString "word"), .str (Str.ofString "number")]) = some false := by cases h <;> rfl
theorem h1_wn (r : Bool) : oIn (.str (H1 r)) (.tuple [.str (Str.ofString "word"), .str (Str.ofString "number")]) = some false := by cases r <;> rfl
theorem hs_or (h : H2) : oIn (.str h.s) (.tuple [.str (Str.ofString "over"), .str (Str.ofString "rest")]) = some false := by cases h <;> rfl
theorem h1_or (r : Bool) : oIn (.str (H1 r)) (.tuple [.str (Str.ofString "over"), .str (Str.ofString "rest")]) = some true := by cases r <;> rfl
theorem words_lc (o0 : Option C) : ∀ (R : List Rw) (acc : List Int), acc.length + R.length ≤ 1000 → mLcL [1] (gN 1) (lift2 oEq (lift2 oIx (mVar 1) (M.pure (.int 0))) (M.pure (.str (Str.ofString "word")))) (lift2 oAdd (lift2 oIx (mVar 1) (M.pure (.int 1))) (M.pure (.int 1))) (R.map Rw.D) (acc.map .int) [o0, none] = .ok ((acc ++ wds R).map .int) [o0, none]
  | [], acc, _ => by simp [mLcL, wds]
  | r :: R, acc, h => by
    have z : (acc.map PyData.int).length < sizeLine := sizeL_lt (by simp at h ⊢; omega)
    have z' : acc.length < sizeLine := sizeL_lt (by simp at h; omega)
    cases r with
    | w k =>
      have ih := words_lc o0 R (acc ++ [k + 1]) (by simp at h ⊢; omega)
      rw [List.map_append] at ih
      have e : (acc ++ wds (.w k :: R)).map PyData.int = (acc ++ [k + 1] ++ wds R).map .int := by rw [List.append_assoc]; rfl
      rw [e, ← ih]
      simp -implicitDefEqProofs [mLcL, Rw.D, z', wipeS]
    | n k =>
      have ih := words_lc o0 R acc (by simp at h ⊢; omega)
      show mLcL _ _ _ _ ((Rw.n k).D :: R.map Rw.D) _ _ = _
      rw [show wds (.n k :: R) = wds R from rfl, ← ih]
      simp -implicitDefEqProofs [mLcL, Rw.D, wipeS]
    | o q i j =>
      have ih := words_lc o0 R acc (by simp at h ⊢; omega)
      show mLcL _ _ _ _ ((Rw.o q i j).D :: R.map Rw.D) _ _ = _
      rw [show wds (.o q i j :: R) = wds R from rfl, ← ih]
      simp -implicitDefEqProofs [mLcL, Rw.D, hs_w, wipeS]
    | d q i c =>
      have ih := words_lc o0 R acc (by simp at h ⊢; omega)
      show mLcL _ _ _ _ ((Rw.d q i c).D :: R.map Rw.D) _ _ = _
      rw [show wds (.d q i c :: R) = wds R from rfl, ← ih]
      simp -implicitDefEqProofs [mLcL, Rw.D, h1_w, wipeS]
theorem eq_words_in (R : List Rw) (h : R.length ≤ 900) : φ_words_in [some (.d (.list (R.map Rw.D)))] = .ok (.d (.int (mw R))) [some (.d (.list (R.map Rw.D)))] := by
  have e := words_lc (some (.d (.list (R.map Rw.D)))) R [] (by simp; omega)
  have l := wds_len R
  have m := oMaxL_i 0 (wds R)
  rw [List.map_cons] at m
  rw [List.nil_append, List.map_nil] at e
  have z : 1 + ((wds R).map PyData.int).length ≤ sizeLine := Nat.le_of_lt (sizeL_lt (by simp; omega))
  have oc := oCat_l (xs := [.int 0]) (ys := (wds R).map .int) z
  unfold mw
  generalize (wds R).map PyData.int = ws at *
  generalize R.map Rw.D = rs at *
  (rw [φ_words_in, run_ap _ _ _ _ _ (by rfl)]; simp -implicitDefEqProofs [m_words_in, finSl, List.range, List.range.loop, noOwn, wipeS, e, restS, oc, m])
theorem maxI_le {b : Int} : ∀ (r : List Int) (a : Int), a ≤ b → (∀ y ∈ r, y ≤ b) → maxI a r ≤ b
  | [], a, h, _ => h
  | y :: r, a, h, hr => maxI_le r _ (by have := hr y List.mem_cons_self; split <;> omega) fun z hz => hr z (List.mem_cons_of_mem _ hz)
theorem le_maxI : ∀ (r : List Int) (a : Int), a ≤ maxI a r ∧ ∀ y ∈ r, y ≤ maxI a r
  | [], a => ⟨Int.le_refl _, fun y h => by cases h⟩
  | y :: r, a => by
    obtain ⟨h1, h2⟩ := le_maxI r (if a < y then y else a)
    refine ⟨Int.le_trans (by split <;> omega) h1, fun z hz => ?_⟩
    rcases List.mem_cons.mp hz with e | e
    · rw [e]; exact Int.le_trans (by split <;> omega) h1
    · exact h2 z e
theorem wds_mem : ∀ {R : List Rw} {y : Int}, y ∈ wds R ↔ ∃ k, Rw.w k ∈ R ∧ y = k + 1
  | [], y => by simp [wds]
  | .w k :: r, y => by
    have ih := wds_mem (R := r) (y := y)
    simp only [wds, List.mem_cons, ih, Rw.w.injEq]
    constructor
    · rintro (h | ⟨j, h1, h2⟩)
      · exact ⟨k, .inl rfl, h⟩
      · exact ⟨j, .inr h1, h2⟩
    · rintro ⟨j, h1 | h1, h2⟩
      · subst h1; exact .inl h2
      · exact .inr ⟨j, h1, h2⟩
  | .n k :: r, y => by rw [show wds (.n k :: r) = wds r from rfl, wds_mem]; simp
  | .o _ _ _ :: r, y => by rw [show ∀ a b c, wds (.o a b c :: r) = wds r from fun _ _ _ => rfl, wds_mem]; simp
  | .d _ _ _ :: r, y => by rw [show ∀ a b c, wds (.d a b c :: r) = wds r from fun _ _ _ => rfl, wds_mem]; simp
theorem mw_b {T m : Int} {R : List Rw} (h : wfR T m R) (hm : 0 ≤ m) : 0 ≤ mw R ∧ mw R ≤ m := by
  refine ⟨(le_maxI _ _).1, maxI_le _ _ hm fun y hy => ?_⟩
  obtain ⟨k, h1, rfl⟩ := wds_mem.mp hy
  obtain ⟨i, hi, e⟩ := List.mem_iff_getElem.mp h1
  have := h i (.w k) (by rw [List.getElem?_eq_getElem hi, e])
  have := this.2
  omega
theorem lt_mw {R : List Rw} {i : Nat} {k : Int} (h : R[i]? = some (.w k)) : k < mw R := by
  have := (le_maxI (wds R) 0).2 (k + 1) (wds_mem.mpr ⟨k, List.mem_of_getElem? h, rfl⟩)
  show k < maxI 0 (wds R)
  omega
/-! ### joined -/
theorem eq_joined2 {w : Int} (w1 : 1 ≤ w) (w2 : w ≤ 64) (h : H2) {a b : Int} (ha : 0 ≤ a ∧ a < 2 ^ w.toNat) (hb : 0 ≤ b ∧ b < 2 ^ w.toNat) : φ_joined [dI w, some (.d (.str h.s)), dI a, dI b] = .ok (.d (.int (op2 (2 ^ w.toNat) h a b))) [dI w, some (.d (.str h.s)), dI a, dI b] := by
  have p := pow_le64 (n := w.toNat) (by omega)
  have tp := eq_top_in w (by omega) (by omega)
  have k1 : mulOk a b = true := mulOk_s (by omega) (by omega) (by omega) (by omega)
  have m1 := bitAnd_mod (a + b) w.toNat
  have m2 := bitAnd_mod (a - b) w.toNat
  have m3 := bitAnd_mod (a * b) w.toNat
  generalize (2 : Int) ^ w.toNat - 1 = T at *
  generalize (2 : Int) ^ w.toNat = P at *
  cases h <;> (rw [φ_joined, run_ap _ _ _ _ _ (by rfl)]; simp -implicitDefEqProofs [m_joined, finSl, List.range, List.range.loop, H2.s, tp, k1, m1, m2, m3, op2])
theorem eq_joined1 {w : Int} (w1 : 1 ≤ w) (w2 : w ≤ 64) (r : Bool) {a c : Int} (hc : 1 ≤ c ∧ c < 2 ^ w.toNat) : φ_joined [dI w, some (.d (.str (H1 r))), dI a, dI c] = .ok (.d (.int (opd r a c))) [dI w, some (.d (.str (H1 r))), dI a, dI c] := by
  have p := pow_le64 (n := w.toNat) (by omega)
  have tp := eq_top_in w (by omega) (by omega)
  have dc : divOk c = true := divOk_s (by omega) (by omega)
  have pc : 0 < c := by omega
  generalize (2 : Int) ^ w.toNat - 1 = T at *
  cases r <;> (rw [φ_joined, run_ap _ _ _ _ _ (by rfl)]; simp -implicitDefEqProofs [m_joined, finSl, List.range, List.range.loop, H1, tp, dc, pc, opd])
end L41

set_option linter.all false
set_option maxRecDepth 100000
set_option exponentiation.threshold 10000
namespace L41
open PySem PySem.Spec L2 DL
/-! ## loops over rows -/
open SM
theorem rows_loop {α : Type} (A : Al α) (St : List α → Sl → Prop) {g : PyData → M Unit} {b : M Fl} (R : List Rw) {ρ : Sl} (h0 : St [] ρ)
    (stp : ∀ (i : Nat) (r : Rw) (ρ : Sl), R[i]? = some r → St (evs A (R.take i)) ρ → ∃ fl ρ', M.bind (g r.D) (fun _ => b) ρ = .ok fl ρ' ∧ (fl = .nx ∨ fl = .ct) ∧ St (evs A (R.take i) ++ [r.on A (evs A (R.take i))]) ρ') :
    ∃ ρ', sForL g b (R.map Rw.D) ρ = .ok .nx ρ' ∧ St (evs A R) ρ' := by
  obtain ⟨fl, ρ', e, h⟩ := sForL_ex (g := g) (b := b) (xs := R.map Rw.D) (ρ := ρ) (fun i ρ => St (evs A (R.take i)) ρ) (fun _ _ => False) h0 (fun i x ρ hx hi => by
    rw [List.getElem?_map] at hx
    cases hr : R[i]? with
    | none => rw [hr] at hx; cases hx
    | some r =>
      rw [hr] at hx
      cases hx
      obtain ⟨fl, ρ', e, h1, h2⟩ := stp i r ρ hr hi
      refine ⟨fl, ρ', e, .inl ⟨h1, ?_⟩⟩
      have et : R.take (i + 1) = R.take i ++ [r] := by
        rw [List.take_add_one, hr]; rfl
      rw [et, evs_snoc]
      exact h2)
  rcases h with ⟨rfl, h⟩ | h
  · rw [List.length_map, List.take_length] at h
    exact ⟨ρ', e, h⟩
  · exact h.elim
theorem at_get {α : Type} (f : α → PyData) (l : List α) (j : Nat) (z : α) (h : j < l.length) : atI (l.map f) (j : Int) = some (f (l.getD j z)) := by
  rw [atI_nat (by omega) (by rw [List.length_map]; exact h)]
  rw [List.getElem_map, List.getD_eq_getElem?_getD]
  show some (f (l[j])) = _
  rw [List.getElem?_eq_getElem h]; rfl
theorem evs_take_len {α : Type} (A : Al α) {R : List Rw} {i : Nat} {r : Rw} (h : R[i]? = some r) : (evs A (R.take i)).length = i := by
  rw [evs_len, List.length_take]
  have := (List.getElem?_eq_some_iff.mp h).1
  omega
theorem evs_all {α : Type} (A : Al α) (p : α → Prop) {T m : Int} (hz : p A.z) (hw : ∀ k, 0 ≤ k → p (A.w k)) (hn : ∀ v, 0 ≤ v → v ≤ T → p (A.n v)) (ho : ∀ h a b, p a → p b → p (A.o h a b)) (hd : ∀ r a c, p a → 1 ≤ c → c ≤ T → p (A.d r a c)) : ∀ R : List Rw, wfR T m R → ∀ x ∈ evs A R, p x := by
  refine snoc_ind (fun _ x h => by cases h) ?_
  intro R r ih h x hx
  have ih := ih (wfR_pre h)
  have hr := h R.length r (by rw [List.getElem?_append_right (Nat.le_refl _), Nat.sub_self]; rfl)
  have at_ : ∀ i, p ((evs A R).getD i A.z) := fun i => by
    rw [List.getD_eq_getElem?_getD]
    cases e : (evs A R)[i]? with
    | none => exact hz
    | some y => exact ih y (List.mem_of_getElem? e)
  rw [evs_snoc] at hx
  rcases List.mem_append.mp hx with c | c
  · exact ih x c
  · rw [List.mem_singleton.mp c]
    cases r with
    | w k => exact hw k hr.1
    | n v => exact hn v hr.1 hr.2
    | o q i j => exact ho q _ _ (at_ i) (at_ j)
    | d q i c => exact hd q _ _ (at_ i) hr.2.1 hr.2.2
theorem getD_all {α : Type} {p : α → Prop} {l : List α} {z : α} (h : ∀ x ∈ l, p x) (hz : p z) (i : Nat) : p (l.getD i z) := by
  rw [List.getD_eq_getElem?_getD]
  cases e : l[i]? with
  | none => exact hz
  | some y => exact h y (List.mem_of_getElem? e)
theorem wfR_take {T m : Int} {R : List Rw} (h : wfR T m R) (i : Nat) : wfR T m (R.take i) := by
  rw [← List.take_append_drop i R] at h
  exact wfR_pre h
theorem rows_last {α : Type} (A : Al α) (s : Sm) : ∃ l, evs A (s.rows []) = l ++ [s.fold A] := by
  have e := rows_ev A s []
  have l := rows_len s []
  have s1 := s.sz1
  have le := evs_len A (s.rows [])
  have hne : evs A (s.rows []) ≠ [] := by intro h; rw [h] at le; simp at le; rw [← le] at l; simp at l; omega
  refine ⟨(evs A (s.rows [])).dropLast, ?_⟩
  rw [← e, ← le, List.getD_eq_getElem?_getD, ← List.getLast?_eq_getElem?, List.getLast?_eq_getLast hne]
  exact (List.dropLast_concat_getLast hne).symm
/-! ### values -/
section
variable {w : Int} {ws : List Int} {R : List Rw} {m : Int}
theorem worth_b (w1 : 1 ≤ w) (hws : ∀ x ∈ ws, 0 ≤ x ∧ x < 2 ^ w.toNat) (h : wfR (2 ^ w.toNat - 1) m R) : ∀ x ∈ evs (vA (2 ^ w.toNat) ws) R, 0 ≤ x ∧ x < 2 ^ w.toNat := by
  have p := one_le_pow w.toNat
  refine evs_all _ (fun x => 0 ≤ x ∧ x < 2 ^ w.toNat) (by show (0 : Int) ≤ 0 ∧ (0 : Int) < _; omega) (fun k _ => getD_all hws (by omega) _) (fun v h1 h2 => by show 0 ≤ v ∧ v < _; omega) (fun h a b ha hb => op2_b (by omega) ha hb h) (fun r a c ha h1 h2 => opd_b ha (by omega) r) R h
theorem eq_values_in (w1 : 1 ≤ w) (w2 : w ≤ 64) (hws : ∀ x ∈ ws, 0 ≤ x ∧ x < 2 ^ w.toNat) (h : wfR (2 ^ w.toNat - 1) m R) (hm : mw R ≤ ws.length) (hl : R.length ≤ 900) : φ_values_in [dI w, some (.d (.list (R.map Rw.D))), some (.d (.tuple (ws.map .int)))] = .ok (.l ((evs (vA (2 ^ w.toNat) ws) R).map .int)) [dI w, some (.d (.list (R.map Rw.D))), some (.d (.tuple (ws.map .int)))] := by
  let St : List Int → Sl → Prop := fun fs ρ => ∃ o4, ρ = [dI w, some (.d (.list (R.map Rw.D))), some (.d (.tuple (ws.map .int))), some (.l (fs.map .int)), o4]
  obtain ⟨ρ', e, o4, rfl⟩ := rows_loop (vA (2 ^ w.toNat) ws) St (g := gN 4) (b := (sIf (lift2 oIn (lift2 oIx (mVar 4) (M.pure (.int 0))) (mTup [(M.pure (.str (Str.ofString "word"))), (M.pure (.str (Str.ofString "number")))])) (sApp 3 (mIf (lift2 oEq (lift2 oIx (mVar 4) (M.pure (.int 0))) (M.pure (.str (Str.ofString "word")))) (lift2 oIx (mVar 2) (lift2 oIx (mVar 4) (M.pure (.int 1)))) (lift2 oIx (mVar 4) (M.pure (.int 1))))) (sApp 3 (mFrz (mCall φ_joined (mSeqA [(agD (mVar 0)), (agD (lift2 oIx (mVar 4) (M.pure (.int 0)))), (agD (mIxV 3 (lift2 oIx (mVar 4) (M.pure (.int 1))))), (agD (mIf (lift2 oIn (lift2 oIx (mVar 4) (M.pure (.int 0))) (mTup [(M.pure (.str (Str.ofString "over"))), (M.pure (.str (Str.ofString "rest")))])) (lift2 oIx (mVar 4) (M.pure (.int 2))) (mIxV 3 (lift2 oIx (mVar 4) (M.pure (.int 2))))))])))))) R (ρ := [dI w, some (.d (.list (R.map Rw.D))), some (.d (.tuple (ws.map .int))), some (.l []), none]) ⟨none, rfl⟩ (fun i r ρ hr ⟨o4, eρ⟩ => by
    subst eρ
    have hi := (List.getElem?_eq_some_iff.mp hr).1
    have fl := evs_take_len (vA (2 ^ w.toNat) ws) hr
    have wf := h i r hr
    have fb := worth_b w1 hws (wfR_take h i)
    have p0 : (0 : Int) ≤ 0 ∧ (0 : Int) < 2 ^ w.toNat := by have := one_le_pow w.toNat; omega
    generalize hf : evs (vA (2 ^ w.toNat) ws) (R.take i) = fs at *
    have z : fs.length < sizeLine := sizeL_lt (by omega)
    have e0 : gN 4 r.D [dI w, some (.d (.list (R.map Rw.D))), some (.d (.tuple (ws.map .int))), some (.l (fs.map .int)), o4] = .ok () [dI w, some (.d (.list (R.map Rw.D))), some (.d (.tuple (ws.map .int))), some (.l (fs.map .int)), some (.d r.D)] := rfl
    refine ⟨.nx, [dI w, some (.d (.list (R.map Rw.D))), some (.d (.tuple (ws.map .int))), some (.l ((fs ++ [r.on (vA (2 ^ w.toNat) ws) fs]).map .int)), some (.d r.D)], ?_, .inl rfl, _, rfl⟩
    rw [bind_ok e0, List.map_append]
    generalize R.map Rw.D = rs at *
    cases r with
    | w k =>
      have k1 := lt_mw hr
      have a := at_get PyData.int ws k.toNat 0 (by have := wf.1; omega)
      rw [Int.toNat_of_nonneg wf.1] at a
      rw [show (Rw.w k).on (vA (2 ^ w.toNat) ws) fs = ws.getD k.toNat 0 from rfl]
      generalize ws.getD k.toNat 0 = v at *
      generalize ws.map PyData.int = wl at *
      simp -implicitDefEqProofs [Rw.D, a, lsAt_ap, z]
    | n v =>
      rw [show (Rw.n v).on (vA (2 ^ w.toNat) ws) fs = v from rfl]
      simp -implicitDefEqProofs [Rw.D, lsAt_ap, z]
    | o q a b =>
      have a1 := at_get PyData.int fs a 0 (by have := wf.1; omega)
      have a2 := at_get PyData.int fs b 0 (by have := wf.2; omega)
      have b1 := getD_all fb p0 a
      have b2 := getD_all fb p0 b
      have j := eq_joined2 w1 w2 q b1 b2
      rw [show (Rw.o q a b).on (vA (2 ^ w.toNat) ws) fs = op2 (2 ^ w.toNat) q (fs.getD a 0) (fs.getD b 0) from rfl]
      generalize op2 (2 ^ w.toNat) q (fs.getD a 0) (fs.getD b 0) = v at *
      generalize fs.getD a 0 = x at *
      generalize fs.getD b 0 = y at *
      have z' : (fs.map PyData.int).length < sizeLine := by rw [List.length_map]; exact z
      generalize fs.map PyData.int = fl at *
      simp -implicitDefEqProofs [Rw.D, hs_wn, hs_or, a1, a2, j, lsAt_ap, z']
    | d q a c =>
      have a1 := at_get PyData.int fs a 0 (by have := wf.1; omega)
      have j := eq_joined1 w1 w2 q (a := fs.getD a 0) (c := c) (by have := wf.2; omega)
      rw [show (Rw.d q a c).on (vA (2 ^ w.toNat) ws) fs = opd q (fs.getD a 0) c from rfl]
      generalize opd q (fs.getD a 0) c = v at *
      generalize fs.getD a 0 = x at *
      have z' : (fs.map PyData.int).length < sizeLine := by rw [List.length_map]; exact z
      generalize fs.map PyData.int = fl at *
      simp -implicitDefEqProofs [Rw.D, h1_wn, h1_or, a1, j, lsAt_ap, z'])
  rw [φ_values_in, run_ap _ _ _ _ _ (by rfl), m_values_in]
  have st0 : sSet 3 (mLst []) [dI w, some (.d (.list (R.map Rw.D))), some (.d (.tuple (ws.map .int))), none, none] = .ok .nx [dI w, some (.d (.list (R.map Rw.D))), some (.d (.tuple (ws.map .int))), some (.l []), none] := rfl
  have hi : mItems (mVar 1) [dI w, some (.d (.list (R.map Rw.D))), some (.d (.tuple (ws.map .int))), some (.l []), none] = .ok (R.map Rw.D) [dI w, some (.d (.list (R.map Rw.D))), some (.d (.tuple (ws.map .int))), some (.l []), none] := rfl
  show runR 3 [0, 1, 2] _ (sSeq _ _ [dI w, some (.d (.list (R.map Rw.D))), some (.d (.tuple (ws.map .int))), none, none]) = _
  rw [seq_ok st0, seq_ok (sFor_ok hi e)]
  rfl
end
end L41

set_option linter.all false
set_option maxRecDepth 100000
set_option exponentiation.threshold 10000
namespace L41
open PySem PySem.Spec L2 DL
/-! ## worths of sums -/
open SM
theorem plain_ints : ∀ ws : List Int, plainD.plainL (ws.map .int) = true
  | [] => rfl
  | x :: r => by show (true && plainD.plainL (r.map .int)) = true; rw [plain_ints r]; rfl
theorem dep_ints : ∀ ws : List Int, dep.depL (ws.map .int) = 0
  | [] => rfl
  | x :: r => by show max 0 (dep.depL (r.map .int)) = 0; rw [dep_ints r]; rfl
theorem tup_ints : ∀ ws : List Int, tupL (ws.map .int) = ws.map .int
  | [] => rfl
  | x :: r => by show PyData.int x :: tupL (r.map .int) = _; rw [tup_ints r]; rfl
theorem eq_tup_ints (ws : List Int) (h : ws.length ≤ 1000) : φ_tupled 24 [some (.d (.tuple (ws.map .int)))] = .ok (.d (.tuple (ws.map .int))) [some (.d (.tuple (ws.map .int)))] := by
  have z : (ws.map PyData.int).length ≤ sizeLine := Nat.le_of_lt (sizeL_lt (by simp; omega))
  have e := eq_tupled 24 (.tuple (ws.map .int)) (by show dep.depL (ws.map .int) + 1 < 24; rw [dep_ints]; decide) (by show (decide ((ws.map PyData.int).length ≤ sizeLine) && plainD.plainL (ws.map .int)) = true; rw [plain_ints, Bool.and_true]; exact decide_eq_true z)
  have et : tupD (.tuple (ws.map .int)) = .tuple (ws.map .int) := by show PyData.tuple (tupL (ws.map .int)) = _; rw [tup_ints]
  rwa [et] at e
theorem all_true {α : Type} : ∀ l : List α, (l.map fun _ => true).all id = true
  | [] => rfl
  | _ :: r => by rw [List.map_cons, List.all_cons, all_true r]; rfl
theorem oAll_true {α : Type} (l : List α) : oAll (.list (l.map fun _ => PyData.bool true)) = some (.bool true) := by
  have e := oAll_b (l.map fun _ => true)
  rw [all_true, List.map_map] at e
  exact e
section
variable {w : Int} {ws : List Int} {s : Sm}
theorem eq_sure_words (w1 : 1 ≤ w) (w2 : w ≤ 64) (hws : ∀ x ∈ ws, 0 ≤ x ∧ x < 2 ^ w.toNat) (many : Int) (h1 : many ≤ ws.length) (h2 : ws.length ≤ 10) : φ_sure_words [dI w, dI many, some (.d (.tuple (ws.map .int)))] = .ok (.d (.tuple (ws.map .int))) [dI w, dI many, some (.d (.tuple (ws.map .int)))] := by
  have tp := eq_top_in w (by omega) (by omega)
  have tu := eq_tup_ints ws (by omega)
  have e3 := lc_map (vs := [4]) (g := gN 4) (t := mYes) (e := mFrz (mCall φ_is_within (mSeqA [(agD (mVar 4)), (agD (M.pure (.int 0))), (agD (mFrz (mCall φ_top_in (mSeqA [(agD (mVar 0))]))))]))) (fun _ => .bool true) [dI w, dI many, some (.d (.tuple (ws.map .int))), some (.d (.tuple (ws.map .int))), none] ws [] (fun n hn => by
    have b := hws n hn
    have v := eq_is_within n 0 (2 ^ w.toNat - 1)
    have t1 : (decide (0 ≤ n) && decide (n ≤ 2 ^ w.toNat - 1)) = true := by rw [Bool.and_eq_true, decide_eq_true_eq, decide_eq_true_eq]; omega
    rw [t1] at v
    refine ⟨[dI w, dI many, some (.d (.tuple (ws.map .int))), some (.d (.tuple (ws.map .int))), dI n], lcStep_ok (g := gN 4) (show gN 4 (.int n) _ = .ok () [dI w, dI many, some (.d (.tuple (ws.map .int))), some (.d (.tuple (ws.map .int))), dI n] from rfl) rfl ?_, rfl⟩
    simp -implicitDefEqProofs [v, tp]) (Nat.le_of_lt (sizeL_lt (by simp; omega)))
  rw [List.nil_append] at e3
  have al := oAll_true ws
  have l1 : (((ws.map PyData.int).length : Nat) : Int) = ws.length := by simp
  have h2' : (ws.length : Int) ≤ 10 := by omega
  generalize (ws.map fun _ => PyData.bool true) = bs at *
  generalize ws.map PyData.int = wl at *
  (rw [φ_sure_words, run_ap _ _ _ _ _ (by rfl)]; simp -implicitDefEqProofs [m_sure_words, finSl, List.range, List.range.loop, tu, l1, h1, h2', noOwn, wipeS, e3, restS, al])
theorem fold_w {M : Int} (hM : 1 ≤ M) (w1 : 1 ≤ w) (eM : M = 2 ^ w.toNat) (hws : ∀ x ∈ ws, 0 ≤ x ∧ x < 2 ^ w.toNat) {m : Int} : ∀ {s : Sm}, s.ok (2 ^ w.toNat - 1) m → 0 ≤ s.fold (vA M ws) ∧ s.fold (vA M ws) < M
  | .w k, _ => by subst eM; exact getD_all hws (by omega) _
  | .n v, h => by subst eM; exact ⟨h.1, by have := h.2; show v < _; omega⟩
  | .o q a b, h => op2_b (by omega) (fold_w hM w1 eM hws h.1) (fold_w hM w1 eM hws h.2) q
  | .d q a c, h => opd_b (fold_w hM w1 eM hws h.1) (by have := h.2.1; omega) q
theorem eq_sum_value (O : Ok w s) (hws : ∀ x ∈ ws, 0 ≤ x ∧ x < 2 ^ w.toNat) (h1 : mw (s.rows []) ≤ ws.length) (h2 : ws.length ≤ 10) : φ_sum_value [dI w, some (.d s.D), some (.d (.tuple (ws.map .int)))] = .ok (.d (.int (s.fold (vA (2 ^ w.toNat) ws)))) [dI w, some (.d s.D), some (.d (.tuple (ws.map .int)))] := by
  have e1 := eq_sure_sum O
  have e2 := eq_rows_in (s := s) (by have := O.sz; omega) (by have := O.dp; omega)
  have lr := rows_len s []
  have lr' : (s.rows []).length ≤ 900 := by rw [lr]; have := O.sz; simp; omega
  have e3 := eq_words_in (s.rows []) lr'
  have e4 := eq_sure_words O.w1 O.w2 hws (mw (s.rows [])) h1 h2
  have wf := rows_wf s [] O.ok (fun i r h => by simp at h)
  have e5 := eq_values_in O.w1 O.w2 hws wf h1 lr'
  obtain ⟨l, el⟩ := rows_last (vA (2 ^ w.toNat) ws) s
  rw [el] at e5
  have la := DL.atI_last l (s.fold (vA (2 ^ w.toNat) ws))
  generalize (l ++ [s.fold (vA (2 ^ w.toNat) ws)]).map PyData.int = vl at *
  generalize s.fold (vA (2 ^ w.toNat) ws) = v at *
  generalize (s.rows []).map Rw.D = rl at *
  generalize ws.map PyData.int = wl at *
  (rw [φ_sum_value, run_ap _ _ _ _ _ (by rfl)]; simp -implicitDefEqProofs [m_sum_value, finSl, List.range, List.range.loop, eq_sure_width w O.w1 O.w2, e1, e2, e3, e4, e5, la])
theorem eq_words_of (O : Ok w s) : φ_words_of [dI w, some (.d s.D)] = .ok (.d (.int (mw (s.rows [])))) [dI w, some (.d s.D)] := by
  have e1 := eq_sure_sum O
  have e2 := eq_rows_in (s := s) (by have := O.sz; omega) (by have := O.dp; omega)
  have lr := rows_len s []
  have lr' : (s.rows []).length ≤ 900 := by rw [lr]; have := O.sz; simp; omega
  have e3 := eq_words_in (s.rows []) lr'
  generalize (s.rows []).map Rw.D = rl at *
  (rw [φ_words_of, run_ap _ _ _ _ _ (by rfl)]; simp -implicitDefEqProofs [m_words_of, finSl, List.range, List.range.loop, eq_sure_width w O.w1 O.w2, e1, e2, e3])
end
end L41

set_option linter.all false
set_option maxRecDepth 100000
set_option exponentiation.threshold 10000
namespace L41
open PySem PySem.Spec L2 DL
/-! ## spans -/
open SM
def pD (p : Int × Int) : PyData := .tuple [.int p.1, .int p.2]
def span2 (T : Int) : H2 → Int × Int → Int × Int → Int × Int
  | .plus, a, b => if a.2 + b.2 ≤ T then (a.1 + b.1, a.2 + b.2) else (0, T)
  | .less, a, b => if b.2 ≤ a.1 then (a.1 - b.2, a.2 - b.1) else (0, T)
  | .times, a, b => if a.2 * b.2 ≤ T then (a.1 * b.1, a.2 * b.2) else (0, T)
  | .least, a, b => (min a.1 b.1, min a.2 b.2)
  | .most, a, b => (max a.1 b.1, max a.2 b.2)
def span1 (r : Bool) (a : Int × Int) (c : Int) : Int × Int := if r then (if a.1 / c = a.2 / c then (a.1 % c, a.2 % c) else (0, c - 1)) else (a.1 / c, a.2 / c)
def sA (T : Int) (sp : List (Int × Int)) : Al (Int × Int) := ⟨(0, 0), fun k => sp.getD k.toNat (0, 0), fun v => (v, v), span2 T, span1⟩
def isSp (T : Int) (p : Int × Int) : Prop := 0 ≤ p.1 ∧ p.1 ≤ p.2 ∧ p.2 ≤ T
theorem span2_ok {T : Int} {a b : Int × Int} (ha : isSp T a) (hb : isSp T b) (h : H2) : isSp T (span2 T h a b) := by
  obtain ⟨a1, a2, a3⟩ := ha
  obtain ⟨b1, b2, b3⟩ := hb
  have h' := bnd a1 a2 b1 b2
  have z : isSp T (0, T) := ⟨Int.le_refl _, by show 0 ≤ T; omega, Int.le_refl _⟩
  cases h with
  | plus =>
    show isSp T (if a.2 + b.2 ≤ T then (a.1 + b.1, a.2 + b.2) else (0, T))
    split
    · show 0 ≤ a.1 + b.1 ∧ a.1 + b.1 ≤ a.2 + b.2 ∧ a.2 + b.2 ≤ T
      omega
    · exact z
  | less =>
    show isSp T (if b.2 ≤ a.1 then (a.1 - b.2, a.2 - b.1) else (0, T))
    split
    · show 0 ≤ a.1 - b.2 ∧ a.1 - b.2 ≤ a.2 - b.1 ∧ a.2 - b.1 ≤ T
      omega
    · exact z
  | times =>
    show isSp T (if a.2 * b.2 ≤ T then (a.1 * b.1, a.2 * b.2) else (0, T))
    split
    · show 0 ≤ a.1 * b.1 ∧ a.1 * b.1 ≤ a.2 * b.2 ∧ a.2 * b.2 ≤ T
      omega
    · exact z
  | least =>
    show 0 ≤ min a.1 b.1 ∧ min a.1 b.1 ≤ min a.2 b.2 ∧ min a.2 b.2 ≤ T
    omega
  | most =>
    show 0 ≤ max a.1 b.1 ∧ max a.1 b.1 ≤ max a.2 b.2 ∧ max a.2 b.2 ≤ T
    omega
theorem span1_ok {T c : Int} {a : Int × Int} (ha : isSp T a) (hc : 1 ≤ c) (hc2 : c ≤ T) : ∀ r, isSp T (span1 r a c)
  | false => by
    obtain ⟨a1, a2, a3⟩ := ha
    have d1 := div_b a1 a2 (by omega : 0 < c)
    have d2 := div_b (by omega : 0 ≤ a.2) a3 (by omega : 0 < c)
    have d3 := Int.ediv_le_ediv (by omega : 0 < c) a2
    show 0 ≤ a.1 / c ∧ a.1 / c ≤ a.2 / c ∧ a.2 / c ≤ T
    omega
  | true => by
    obtain ⟨a1, a2, a3⟩ := ha
    have m1 := mod_b a.1 (by omega : 0 < c)
    have m2 := mod_b a.2 (by omega : 0 < c)
    have e1 := Int.emod_add_mul_ediv a.1 c
    have e2 := Int.emod_add_mul_ediv a.2 c
    show isSp T (if a.1 / c = a.2 / c then (a.1 % c, a.2 % c) else (0, c - 1))
    split
    · rename_i h
      rw [h] at e1
      show 0 ≤ a.1 % c ∧ a.1 % c ≤ a.2 % c ∧ a.2 % c ≤ T
      omega
    · show (0 : Int) ≤ 0 ∧ 0 ≤ c - 1 ∧ c - 1 ≤ T
      omega
/-- a value within its span -/
def inSp (x : Int) (p : Int × Int) : Prop := p.1 ≤ x ∧ x ≤ p.2
theorem in2 {M T : Int} (hT : T = M - 1) {a b : Int × Int} {x y : Int} (ha : isSp T a) (hb : isSp T b) (hx : inSp x a) (hy : inSp y b) (h : H2) : inSp (op2 M h x y) (span2 T h a b) := by
  obtain ⟨a1, a2, a3⟩ := ha
  obtain ⟨b1, b2, b3⟩ := hb
  obtain ⟨x1, x2⟩ := hx
  obtain ⟨y1, y2⟩ := hy
  have h1 := bnd a1 x1 b1 y1
  have h2 := bnd (by omega : 0 ≤ x) x2 (by omega : 0 ≤ y) y2
  have z : ∀ v : Int, inSp (v % M) (0, T) := fun v => by
    have := mod_b v (by omega : 0 < M)
    show 0 ≤ v % M ∧ v % M ≤ T
    omega
  have md : ∀ v : Int, 0 ≤ v → v ≤ T → v % M = v := fun v h0 h1 => Int.emod_eq_of_lt h0 (by omega)
  cases h with
  | plus =>
    show inSp ((x + y) % M) (if a.2 + b.2 ≤ T then (a.1 + b.1, a.2 + b.2) else (0, T))
    split
    · rw [md _ (by omega) (by omega)]
      show a.1 + b.1 ≤ x + y ∧ x + y ≤ a.2 + b.2
      omega
    · exact z _
  | less =>
    show inSp ((x - y) % M) (if b.2 ≤ a.1 then (a.1 - b.2, a.2 - b.1) else (0, T))
    split
    · rw [md _ (by omega) (by omega)]
      show a.1 - b.2 ≤ x - y ∧ x - y ≤ a.2 - b.1
      omega
    · exact z _
  | times =>
    show inSp (x * y % M) (if a.2 * b.2 ≤ T then (a.1 * b.1, a.2 * b.2) else (0, T))
    split
    · rw [md _ (by omega) (by omega)]
      show a.1 * b.1 ≤ x * y ∧ x * y ≤ a.2 * b.2
      omega
    · exact z _
  | least =>
    show min a.1 b.1 ≤ min x y ∧ min x y ≤ min a.2 b.2
    omega
  | most =>
    show max a.1 b.1 ≤ max x y ∧ max x y ≤ max a.2 b.2
    omega
theorem in1 {T c : Int} {a : Int × Int} {x : Int} (ha : isSp T a) (hc : 1 ≤ c) (hx : inSp x a) : ∀ r, inSp (opd r x c) (span1 r a c)
  | false => by
    obtain ⟨x1, x2⟩ := hx
    exact ⟨Int.ediv_le_ediv (by omega) x1, Int.ediv_le_ediv (by omega) x2⟩
  | true => by
    obtain ⟨a1, a2, a3⟩ := ha; obtain ⟨x1, x2⟩ := hx
    have l1 := Int.ediv_le_ediv (by omega : 0 < c) x1
    have l2 := Int.ediv_le_ediv (by omega : 0 < c) x2
    have e0 := Int.emod_add_mul_ediv x c
    have e1 := Int.emod_add_mul_ediv a.1 c
    have e2 := Int.emod_add_mul_ediv a.2 c
    have m := mod_b x (by omega : 0 < c)
    show inSp (x % c) (if a.1 / c = a.2 / c then (a.1 % c, a.2 % c) else (0, c - 1))
    split
    · rename_i h
      have hx : x / c = a.1 / c := by omega
      rw [← h] at e2
      rw [hx] at e0
      show a.1 % c ≤ x % c ∧ x % c ≤ a.2 % c
      omega
    · show (0 : Int) ≤ x % c ∧ x % c ≤ c - 1
      omega
theorem getD_in {ws : List Int} {sp : List (Int × Int)} (h : ∀ i, i < ws.length → inSp (ws.getD i 0) (sp.getD i (0, 0))) (hl : ws.length = sp.length) (i : Nat) : inSp (ws.getD i 0) (sp.getD i (0, 0)) := by
  rcases Nat.lt_or_ge i ws.length with c | c
  · exact h i c
  · rw [List.getD_eq_getElem?_getD, List.getD_eq_getElem?_getD, List.getElem?_eq_none c, List.getElem?_eq_none (by omega)]
    exact ⟨Int.le_refl _, Int.le_refl _⟩
theorem fold_sp {T m : Int} (hT : 0 ≤ T) {sp : List (Int × Int)} (hs : ∀ p ∈ sp, isSp T p) : ∀ {s : Sm}, s.ok T m → isSp T (s.fold (sA T sp))
  | .w k, _ => getD_all hs (⟨Int.le_refl _, Int.le_refl _, hT⟩) _
  | .n v, h => ⟨h.1, Int.le_refl _, h.2⟩
  | .o q a b, h => span2_ok (fold_sp hT hs h.1) (fold_sp hT hs h.2) q
  | .d q a c, h => span1_ok (fold_sp hT hs h.1) h.2.1 h.2.2 q
/-- a SUM's value lies within its span -/
theorem fold_in {M T m : Int} (hT : T = M - 1) (h0 : 0 ≤ T) {ws : List Int} {sp : List (Int × Int)} (hs : ∀ p ∈ sp, isSp T p) (hl : ws.length = sp.length) (h : ∀ i, i < ws.length → inSp (ws.getD i 0) (sp.getD i (0, 0))) : ∀ {s : Sm}, s.ok T m → inSp (s.fold (vA M ws)) (s.fold (sA T sp))
  | .w k, _ => getD_in h hl _
  | .n v, _ => ⟨Int.le_refl _, Int.le_refl _⟩
  | .o q a b, g => in2 hT (fold_sp h0 hs g.1) (fold_sp h0 hs g.2) (fold_in hT h0 hs hl h g.1) (fold_in hT h0 hs hl h g.2) q
  | .d q a c, g => in1 (fold_sp h0 hs g.1) g.2.1 (fold_in hT h0 hs hl h g.1) q
/-! ### the program's -/
section
variable {w : Int} {sp : List (Int × Int)} {R : List Rw} {m : Int} {s : Sm}
theorem eq_wide_most (a b : Int × Int) : φ_wide_most [some (.d (pD a)), some (.d (pD b))] = .ok (.d (pD (max a.1 b.1, max a.2 b.2))) [some (.d (pD a)), some (.d (pD b))] := by
  (rw [φ_wide_most, run_ap _ _ _ _ _ (by rfl)]; simp -implicitDefEqProofs [m_wide_most, finSl, List.range, List.range.loop, pD])
theorem eq_span2 (w1 : 1 ≤ w) (w2 : w ≤ 64) (h : H2) {a b : Int × Int} (ha : isSp (2 ^ w.toNat - 1) a) (hb : isSp (2 ^ w.toNat - 1) b) : φ_span_of [dI w, some (.d (.str h.s)), some (.d (pD a)), some (.d (pD b))] = .ok (.d (pD (span2 (2 ^ w.toNat - 1) h a b))) [dI w, some (.d (.str h.s)), some (.d (pD a)), some (.d (pD b))] := by
  have p := pow_le64 (n := w.toNat) (by omega)
  have tp := eq_top_in w (by omega) (by omega)
  have wm := eq_wide_most a b
  obtain ⟨a1, a2⟩ := a
  obtain ⟨b1, b2⟩ := b
  obtain ⟨ha1, ha2, ha3⟩ := ha
  obtain ⟨hb1, hb2, hb3⟩ := hb
  simp only at ha1 ha2 ha3 hb1 hb2 hb3
  have k1 : mulOk a1 b1 = true := mulOk_s (by omega) (by omega) (by omega) (by omega)
  have k2 : mulOk a2 b2 = true := mulOk_s (by omega) (by omega) (by omega) (by omega)
  generalize (2 : Int) ^ w.toNat - 1 = T at *
  cases h with
  | plus =>
    generalize hX : a2 + b2 = X at *
    by_cases c : X ≤ T <;> (rw [φ_span_of, run_ap _ _ _ _ _ (by rfl)]; simp -implicitDefEqProofs [m_span_of, finSl, List.range, List.range.loop, H2.s, tp, span2, pD, hX, c])
  | less => by_cases c : b2 ≤ a1 <;> (rw [φ_span_of, run_ap _ _ _ _ _ (by rfl)]; simp -implicitDefEqProofs [m_span_of, finSl, List.range, List.range.loop, H2.s, tp, span2, pD, c])
  | times =>
    generalize hX : a2 * b2 = X at *
    by_cases c : X ≤ T <;> (rw [φ_span_of, run_ap _ _ _ _ _ (by rfl)]; simp -implicitDefEqProofs [m_span_of, finSl, List.range, List.range.loop, H2.s, tp, span2, pD, k1, k2, hX, c])
  | least => (rw [φ_span_of, run_ap _ _ _ _ _ (by rfl)]; simp -implicitDefEqProofs [m_span_of, finSl, List.range, List.range.loop, H2.s, tp, span2, pD])
  | most => (rw [φ_span_of, run_ap _ _ _ _ _ (by rfl)]; simp -implicitDefEqProofs [m_span_of, finSl, List.range, List.range.loop, H2.s, tp, span2, wm])
theorem eq_span1 (w1 : 1 ≤ w) (w2 : w ≤ 64) (r : Bool) {a : Int × Int} {c : Int} (hc : 1 ≤ c ∧ c ≤ 2 ^ w.toNat - 1) : φ_span_of [dI w, some (.d (.str (H1 r))), some (.d (pD a)), dI c] = .ok (.d (pD (span1 r a c))) [dI w, some (.d (.str (H1 r))), some (.d (pD a)), dI c] := by
  have p := pow_le64 (n := w.toNat) (by omega)
  have tp := eq_top_in w (by omega) (by omega)
  obtain ⟨a1, a2⟩ := a
  have dc : divOk c = true := divOk_s (by omega) (by omega)
  have pc : 0 < c := by omega
  generalize (2 : Int) ^ w.toNat - 1 = T at *
  cases r with
  | false => (rw [φ_span_of, run_ap _ _ _ _ _ (by rfl)]; simp -implicitDefEqProofs [m_span_of, finSl, List.range, List.range.loop, H1, tp, span1, pD, dc])
  | true =>
    generalize hX : a1 / c = X at *
    generalize hY : a2 / c = Y at *
    by_cases e : X = Y <;> (rw [φ_span_of, run_ap _ _ _ _ _ (by rfl)]; simp -implicitDefEqProofs [m_span_of, finSl, List.range, List.range.loop, H1, tp, span1, pD, dc, pc, hX, hY, e])
theorem span_b (w1 : 1 ≤ w) (hs : ∀ p ∈ sp, isSp (2 ^ w.toNat - 1) p) (h : wfR (2 ^ w.toNat - 1) m R) : ∀ x ∈ evs (sA (2 ^ w.toNat - 1) sp) R, isSp (2 ^ w.toNat - 1) x := by
  have p := one_le_pow w.toNat
  have z : isSp (2 ^ w.toNat - 1) (0, 0) := ⟨Int.le_refl _, Int.le_refl _, by show 0 ≤ _; omega⟩
  exact evs_all _ (isSp (2 ^ w.toNat - 1)) z (fun k _ => getD_all hs z _) (fun v h1 h2 => ⟨h1, Int.le_refl _, h2⟩) (fun h a b ha hb => span2_ok ha hb h) (fun r a c ha h1 h2 => span1_ok ha h1 h2 r) R h
theorem eq_spans_in (w1 : 1 ≤ w) (w2 : w ≤ 64) (hs : ∀ p ∈ sp, isSp (2 ^ w.toNat - 1) p) (h : wfR (2 ^ w.toNat - 1) m R) (hm : mw R ≤ sp.length) (hl : R.length ≤ 900) : φ_spans_in [dI w, some (.d (.list (R.map Rw.D))), some (.d (.tuple (sp.map pD)))] = .ok (.l ((evs (sA (2 ^ w.toNat - 1) sp) R).map pD)) [dI w, some (.d (.list (R.map Rw.D))), some (.d (.tuple (sp.map pD)))] := by
  let St : List (Int × Int) → Sl → Prop := fun fs ρ => ∃ o4 o5, ρ = [dI w, some (.d (.list (R.map Rw.D))), some (.d (.tuple (sp.map pD))), some (.l (fs.map pD)), o4, o5]
  obtain ⟨ρ', e, o4, o5, rfl⟩ := rows_loop (sA (2 ^ w.toNat - 1) sp) St (g := gN 4) (b := (sIf (lift2 oIn (lift2 oIx (mVar 4) (M.pure (.int 0))) (mTup [(M.pure (.str (Str.ofString "word"))), (M.pure (.str (Str.ofString "number")))])) (sApp 3 (mIf (lift2 oEq (lift2 oIx (mVar 4) (M.pure (.int 0))) (M.pure (.str (Str.ofString "word")))) (lift2 oIx (mVar 2) (lift2 oIx (mVar 4) (M.pure (.int 1)))) (mTup [(lift2 oIx (mVar 4) (M.pure (.int 1))), (lift2 oIx (mVar 4) (M.pure (.int 1)))]))) (sSeq (sSet 5 (mDat (mIf (lift2 oIn (lift2 oIx (mVar 4) (M.pure (.int 0))) (mTup [(M.pure (.str (Str.ofString "over"))), (M.pure (.str (Str.ofString "rest")))])) (lift2 oIx (mVar 4) (M.pure (.int 2))) (mIxV 3 (lift2 oIx (mVar 4) (M.pure (.int 2))))))) (sApp 3 (mFrz (mCall φ_span_of (mSeqA [(agD (mVar 0)), (agD (lift2 oIx (mVar 4) (M.pure (.int 0)))), (agD (mIxV 3 (lift2 oIx (mVar 4) (M.pure (.int 1))))), (agD (mVar 5))]))))))) R (ρ := [dI w, some (.d (.list (R.map Rw.D))), some (.d (.tuple (sp.map pD))), some (.l []), none, none]) ⟨none, none, rfl⟩ (fun i r ρ hr ⟨o4, o5, eρ⟩ => by
    subst eρ
    have hi := (List.getElem?_eq_some_iff.mp hr).1
    have fl := evs_take_len (sA (2 ^ w.toNat - 1) sp) hr
    have wf := h i r hr
    have fb := span_b w1 hs (wfR_take h i)
    have p0 : isSp (2 ^ w.toNat - 1) (0, 0) := ⟨Int.le_refl _, Int.le_refl _, by show 0 ≤ _; have := one_le_pow w.toNat; omega⟩
    generalize hf : evs (sA (2 ^ w.toNat - 1) sp) (R.take i) = fs at *
    have z' : (fs.map pD).length < sizeLine := sizeL_lt (by rw [List.length_map]; omega)
    have e0 : gN 4 r.D [dI w, some (.d (.list (R.map Rw.D))), some (.d (.tuple (sp.map pD))), some (.l (fs.map pD)), o4, o5] = .ok () [dI w, some (.d (.list (R.map Rw.D))), some (.d (.tuple (sp.map pD))), some (.l (fs.map pD)), some (.d r.D), o5] := rfl
    have fin : (∃ o5', ∀ (v : Int × Int), v = r.on (sA (2 ^ w.toNat - 1) sp) fs → (M.bind (gN 4 r.D) (fun _ => (sIf (lift2 oIn (lift2 oIx (mVar 4) (M.pure (.int 0))) (mTup [(M.pure (.str (Str.ofString "word"))), (M.pure (.str (Str.ofString "number")))])) (sApp 3 (mIf (lift2 oEq (lift2 oIx (mVar 4) (M.pure (.int 0))) (M.pure (.str (Str.ofString "word")))) (lift2 oIx (mVar 2) (lift2 oIx (mVar 4) (M.pure (.int 1)))) (mTup [(lift2 oIx (mVar 4) (M.pure (.int 1))), (lift2 oIx (mVar 4) (M.pure (.int 1)))]))) (sSeq (sSet 5 (mDat (mIf (lift2 oIn (lift2 oIx (mVar 4) (M.pure (.int 0))) (mTup [(M.pure (.str (Str.ofString "over"))), (M.pure (.str (Str.ofString "rest")))])) (lift2 oIx (mVar 4) (M.pure (.int 2))) (mIxV 3 (lift2 oIx (mVar 4) (M.pure (.int 2))))))) (sApp 3 (mFrz (mCall φ_span_of (mSeqA [(agD (mVar 0)), (agD (lift2 oIx (mVar 4) (M.pure (.int 0)))), (agD (mIxV 3 (lift2 oIx (mVar 4) (M.pure (.int 1))))), (agD (mVar 5))]))))))) [dI w, some (.d (.list (R.map Rw.D))), some (.d (.tuple (sp.map pD))), some (.l (fs.map pD)), o4, o5] = .ok .nx [dI w, some (.d (.list (R.map Rw.D))), some (.d (.tuple (sp.map pD))), some (.l (fs.map pD ++ [pD v])), some (.d r.D), o5'])) := by
      rw [bind_ok e0]
      generalize R.map Rw.D = rs at *
      cases r with
      | w k =>
        refine ⟨o5, fun v ev => ?_⟩
        have k1 := lt_mw hr
        have a := at_get pD sp k.toNat (0, 0) (by have := wf.1; omega)
        rw [Int.toNat_of_nonneg wf.1, show sp.getD k.toNat (0, 0) = v from ev.symm] at a
        generalize fs.map pD = fl at *
        generalize sp.map pD = wl at *
        simp -implicitDefEqProofs [Rw.D, a, lsAt_ap, z']
      | n u =>
        refine ⟨o5, fun v ev => ?_⟩
        have ev' : pD v = .tuple [.int u, .int u] := by rw [ev]; rfl
        rw [ev']
        generalize fs.map pD = fl at *
        simp -implicitDefEqProofs [Rw.D, lsAt_ap, z']
      | o q a b =>
        refine ⟨some (.d (pD (fs.getD b (0, 0)))), fun v ev => ?_⟩
        have a1 := at_get pD fs a (0, 0) (by have := wf.1; omega)
        have a2 := at_get pD fs b (0, 0) (by have := wf.2; omega)
        have j := eq_span2 w1 w2 q (getD_all fb p0 a) (getD_all fb p0 b)
        rw [show span2 (2 ^ w.toNat - 1) q (fs.getD a (0, 0)) (fs.getD b (0, 0)) = v from ev.symm] at j
        generalize pD v = vd at *
        generalize pD (fs.getD a (0, 0)) = x at *
        generalize pD (fs.getD b (0, 0)) = y at *
        generalize fs.map pD = fl at *
        simp -implicitDefEqProofs [Rw.D, hs_wn, hs_or, a1, a2, j, lsAt_ap, z']
      | d q a c =>
        refine ⟨dI c, fun v ev => ?_⟩
        have a1 := at_get pD fs a (0, 0) (by have := wf.1; omega)
        have j := eq_span1 w1 w2 q (a := fs.getD a (0, 0)) (c := c) (by have := wf.2; omega)
        rw [show span1 q (fs.getD a (0, 0)) c = v from ev.symm] at j
        generalize pD v = vd at *
        generalize pD (fs.getD a (0, 0)) = x at *
        generalize fs.map pD = fl at *
        simp -implicitDefEqProofs [Rw.D, h1_wn, h1_or, a1, j, lsAt_ap, z']
    obtain ⟨o5', f⟩ := fin
    exact ⟨.nx, _, f _ rfl, .inl rfl, some (.d r.D), o5', by rw [List.map_append]; rfl⟩)
  rw [φ_spans_in, run_ap _ _ _ _ _ (by rfl), m_spans_in]
  have st0 : sSet 3 (mLst []) [dI w, some (.d (.list (R.map Rw.D))), some (.d (.tuple (sp.map pD))), none, none, none] = .ok .nx [dI w, some (.d (.list (R.map Rw.D))), some (.d (.tuple (sp.map pD))), some (.l []), none, none] := rfl
  have hi : mItems (mVar 1) [dI w, some (.d (.list (R.map Rw.D))), some (.d (.tuple (sp.map pD))), some (.l []), none, none] = .ok (R.map Rw.D) [dI w, some (.d (.list (R.map Rw.D))), some (.d (.tuple (sp.map pD))), some (.l []), none, none] := rfl
  show runR 3 [0, 1, 2] _ (sSeq _ _ [dI w, some (.d (.list (R.map Rw.D))), some (.d (.tuple (sp.map pD))), none, none, none]) = _
  rw [seq_ok st0, seq_ok (sFor_ok hi e)]
  rfl
end
end L41

set_option linter.all false
set_option maxRecDepth 100000
set_option exponentiation.threshold 10000
namespace L41
open PySem PySem.Spec L2 DL
/-! ## spans of sums; sums put into sums -/
open SM
theorem pD_plain : ∀ sp : List (Int × Int), plainD.plainL (sp.map pD) = true
  | [] => rfl
  | x :: r => by
    have z : decide (2 ≤ sizeLine) = true := by decide +kernel
    show ((decide (2 ≤ sizeLine) && true) && plainD.plainL (r.map pD)) = true
    rw [pD_plain r, z]; rfl
theorem pD_dep : ∀ sp : List (Int × Int), dep.depL (sp.map pD) ≤ 1
  | [] => Nat.zero_le _
  | x :: r => Nat.max_le.mpr ⟨Nat.le_refl _, pD_dep r⟩
theorem pD_tup : ∀ sp : List (Int × Int), tupL (sp.map pD) = sp.map pD
  | [] => rfl
  | x :: r => by show pD x :: tupL (r.map pD) = _; rw [pD_tup r]; rfl
theorem Ds_plain : ∀ g : List Sm, plainD.plainL (g.map Sm.D) = true
  | [] => rfl
  | x :: r => by
    show (plainD x.D && plainD.plainL (r.map Sm.D)) = true
    rw [Ds_plain r, D_plain]; rfl
theorem Ds_dep {n : Nat} : ∀ g : List Sm, (∀ x ∈ g, x.dp ≤ n) → dep.depL (g.map Sm.D) ≤ n
  | [], _ => Nat.zero_le _
  | x :: r, h => Nat.max_le.mpr ⟨by rw [D_dep]; exact h x List.mem_cons_self, Ds_dep r fun y hy => h y (List.mem_cons_of_mem _ hy)⟩
theorem Ds_tup : ∀ g : List Sm, tupL (g.map Sm.D) = g.map Sm.D
  | [] => rfl
  | x :: r => by show tupD x.D :: tupL (r.map Sm.D) = _; rw [Ds_tup r, D_tup]; rfl
theorem eq_tup_row {α : Type} (D : α → PyData) (l : List α) (hp : plainD.plainL (l.map D) = true) (hd : dep.depL (l.map D) ≤ 20) (ht : tupL (l.map D) = l.map D) (h : l.length ≤ 1000) : φ_tupled 24 [some (.d (.tuple (l.map D)))] = .ok (.d (.tuple (l.map D))) [some (.d (.tuple (l.map D)))] := by
  have z : (l.map D).length ≤ sizeLine := Nat.le_of_lt (sizeL_lt (by simp; omega))
  have e := eq_tupled 24 (.tuple (l.map D)) (by show dep.depL (l.map D) + 1 < 24; omega) (by show (decide ((l.map D).length ≤ sizeLine) && plainD.plainL (l.map D)) = true; rw [hp, Bool.and_true]; exact decide_eq_true z)
  have et : tupD (.tuple (l.map D)) = .tuple (l.map D) := by show PyData.tuple (tupL (l.map D)) = _; rw [ht]
  rwa [et] at e
section
variable {w : Int} {sp : List (Int × Int)} {s : Sm}
theorem eq_is_span (w1 : 1 ≤ w) (w2 : w ≤ 64) {p : Int × Int} (hp : isSp (2 ^ w.toNat - 1) p) : φ_is_span [dI w, some (.d (pD p))] = .ok (.d (.bool true)) [dI w, some (.d (pD p))] := by
  have tp := eq_top_in w (by omega) (by omega)
  obtain ⟨a, b⟩ := p
  obtain ⟨h1, h2, h3⟩ := hp
  simp only at h1 h2 h3
  generalize (2 : Int) ^ w.toNat - 1 = T at *
  have z0 : 0 < sizeLine := sizeL_lt (by decide)
  have z1 : 1 < sizeLine := sizeL_lt (by decide)
  have al : oAll (.list [.bool true, .bool true]) = some (.bool true) := rfl
  (rw [φ_is_span, run_ap _ _ _ _ _ (by rfl)]; simp -implicitDefEqProofs [m_is_span, finSl, List.range, List.range.loop, pD, eq_is_number, noOwn, wipeS, mLcL, z0, z1, restS, al, h1, h2, h3, tp])
theorem eq_sure_spans (w1 : 1 ≤ w) (w2 : w ≤ 64) (hs : ∀ p ∈ sp, isSp (2 ^ w.toNat - 1) p) (many : Int) (h1 : many ≤ sp.length) (h2 : sp.length ≤ 10) : φ_sure_spans [dI w, dI many, some (.d (.tuple (sp.map pD)))] = .ok (.d (.tuple (sp.map pD))) [dI w, dI many, some (.d (.tuple (sp.map pD)))] := by
  have tu := eq_tup_row pD sp (pD_plain sp) (by have := pD_dep sp; omega) (pD_tup sp) (by omega)
  have e3 := lc_mapG pD (vs := [4]) (g := gN 4) (t := mYes) (e := mFrz (mCall φ_is_span (mSeqA [(agD (mVar 0)), (agD (mVar 4))]))) (fun _ => .bool true) [dI w, dI many, some (.d (.tuple (sp.map pD))), some (.d (.tuple (sp.map pD))), none] sp [] (fun n hn => by
    have v := eq_is_span w1 w2 (hs n hn)
    refine ⟨[dI w, dI many, some (.d (.tuple (sp.map pD))), some (.d (.tuple (sp.map pD))), some (.d (pD n))], lcStep_ok (g := gN 4) (show gN 4 (pD n) _ = .ok () [dI w, dI many, some (.d (.tuple (sp.map pD))), some (.d (.tuple (sp.map pD))), some (.d (pD n))] from rfl) rfl ?_, rfl⟩
    generalize pD n = x at *
    simp -implicitDefEqProofs [v]) (Nat.le_of_lt (sizeL_lt (by simp; omega)))
  rw [List.nil_append] at e3
  have al := oAll_true sp
  have l1 : (((sp.map pD).length : Nat) : Int) = sp.length := by simp
  have h2' : (sp.length : Int) ≤ 10 := by omega
  generalize (sp.map fun _ => PyData.bool true) = bs at *
  generalize sp.map pD = wl at *
  (rw [φ_sure_spans, run_ap _ _ _ _ _ (by rfl)]; simp -implicitDefEqProofs [m_sure_spans, finSl, List.range, List.range.loop, tu, l1, h1, h2', noOwn, wipeS, e3, restS, al])
theorem last_D {α : Type} (D : α → PyData) (l : List α) (a : α) : atI ((l ++ [a]).map D) (-1) = some (D a) := by
  rw [List.map_append]
  exact L2.atI_last _ _
theorem eq_sum_span (O : Ok w s) (hs : ∀ p ∈ sp, isSp (2 ^ w.toNat - 1) p) (h1 : mw (s.rows []) ≤ sp.length) (h2 : sp.length ≤ 10) : φ_sum_span [dI w, some (.d s.D), some (.d (.tuple (sp.map pD)))] = .ok (.d (pD (s.fold (sA (2 ^ w.toNat - 1) sp)))) [dI w, some (.d s.D), some (.d (.tuple (sp.map pD)))] := by
  have e1 := eq_sure_sum O
  have e2 := eq_rows_in (s := s) (by have := O.sz; omega) (by have := O.dp; omega)
  have lr := rows_len s []
  have lr' : (s.rows []).length ≤ 900 := by rw [lr]; have := O.sz; simp; omega
  have e3 := eq_words_in (s.rows []) lr'
  have e4 := eq_sure_spans O.w1 O.w2 hs (mw (s.rows [])) h1 h2
  have wf := rows_wf s [] O.ok (fun i r h => by simp at h)
  have e5 := eq_spans_in O.w1 O.w2 hs wf h1 lr'
  obtain ⟨l, el⟩ := rows_last (sA (2 ^ w.toNat - 1) sp) s
  rw [el] at e5
  have la := last_D pD l (s.fold (sA (2 ^ w.toNat - 1) sp))
  generalize (l ++ [s.fold (sA (2 ^ w.toNat - 1) sp)]).map pD = vl at *
  generalize pD (s.fold (sA (2 ^ w.toNat - 1) sp)) = v at *
  generalize (s.rows []).map Rw.D = rl at *
  generalize sp.map pD = wl at *
  (rw [φ_sum_span, run_ap _ _ _ _ _ (by rfl)]; simp -implicitDefEqProofs [m_sum_span, finSl, List.range, List.range.loop, eq_sure_width w O.w1 O.w2, e1, e2, e3, e4, e5, la])
/-! ### put into -/
def pA (g : List Sm) : Al Sm := ⟨.n 0, fun k => g.getD k.toNat (.n 0), .n, .o, .d⟩
theorem fold_put {α : Type} (A : Al α) (g : List Sm) (B : Al α) (hw : ∀ k, B.w k = (g.getD k.toNat (.n 0)).fold A) (hn : B.n = A.n) (ho : B.o = A.o) (hd : B.d = A.d) : ∀ s : Sm, (s.fold (pA g)).fold A = s.fold B
  | .w k => (hw k).symm
  | .n v => by show A.n v = B.n v; rw [hn]
  | .o h a b => by
    show A.o h ((a.fold (pA g)).fold A) ((b.fold (pA g)).fold A) = B.o h (a.fold B) (b.fold B)
    rw [fold_put A g B hw hn ho hd a, fold_put A g B hw hn ho hd b, ho]
  | .d r a c => by
    show A.d r ((a.fold (pA g)).fold A) c = B.d r (a.fold B) c
    rw [fold_put A g B hw hn ho hd a, hd]
theorem eq_put_into {g : List Sm} (O : Ok w s) (hg : ∀ x ∈ g, Ok w x) (h1 : mw (s.rows []) ≤ g.length) (h2 : g.length ≤ 10) (O2 : Ok w (s.fold (pA g))) : φ_put_into [dI w, some (.d s.D), some (.d (.tuple (g.map Sm.D)))] = .ok (.d (s.fold (pA g)).D) [dI w, some (.d s.D), some (.d (.tuple (g.map Sm.D)))] := by
  have e1 := eq_sure_sum O
  have e2 := eq_rows_in (s := s) (by have := O.sz; omega) (by have := O.dp; omega)
  have lr := rows_len s []
  have lr' : (s.rows []).length ≤ 900 := by rw [lr]; have := O.sz; simp; omega
  have e3 := eq_words_in (s.rows []) lr'
  have tu := eq_tup_row Sm.D g (Ds_plain g) (by have := Ds_dep (n := 18) g (fun x hx => (hg x hx).dp); omega) (Ds_tup g) (by omega)
  have wf := rows_wf s [] O.ok (fun i r h => by simp at h)
  have e7 := eq_sure_sum O2
  have l1 : (((g.map Sm.D).length : Nat) : Int) = g.length := by simp
  have h2' : (g.length : Int) ≤ 10 := by omega
  have sw := eq_sure_width w O.w1 O.w2
  let R := s.rows []
  let gc : Option C := some (.d (.tuple (g.map Sm.D)))
  let rc' : Option C := some (.d (.list (R.map Rw.D)))
  have e4 := lc_mapG Sm.D (vs := [9]) (g := gN 9) (t := mYes) (e := mFrz (mCall φ_sure_sum (mSeqA [(agD (mVar 3)), (agD (mVar 9))]))) Sm.D [dI w, some (.d s.D), gc, dI w, some (.d s.D), gc, rc', none, none, none] g [] (fun n hn => by
    have v := eq_sure_sum (hg n hn)
    refine ⟨[dI w, some (.d s.D), gc, dI w, some (.d s.D), gc, rc', none, none, some (.d n.D)], lcStep_ok (g := gN 9) (show gN 9 n.D _ = .ok () [dI w, some (.d s.D), gc, dI w, some (.d s.D), gc, rc', none, none, some (.d n.D)] from rfl) rfl ?_, rfl⟩
    simp -implicitDefEqProofs [gc, rc', v]) (Nat.le_of_lt (sizeL_lt (by simp; omega)))
  rw [List.nil_append] at e4
  let St : List Sm → Sl → Prop := fun fs ρ => ∃ o8, ρ = [dI w, some (.d s.D), gc, dI w, some (.d s.D), gc, rc', some (.l (fs.map Sm.D)), o8, none]
  obtain ⟨ρ', e5, o8, rfl⟩ := rows_loop (pA g) St (g := gN 8) (b := (sIf (lift2 oIn (lift2 oIx (mVar 8) (M.pure (.int 0))) (mTup [(M.pure (.str (Str.ofString "word"))), (M.pure (.str (Str.ofString "number")))])) (sApp 7 (mIf (lift2 oEq (lift2 oIx (mVar 8) (M.pure (.int 0))) (M.pure (.str (Str.ofString "word")))) (lift2 oIx (mVar 5) (lift2 oIx (mVar 8) (M.pure (.int 1)))) (mVar 8))) (sIf (lift2 oIn (lift2 oIx (mVar 8) (M.pure (.int 0))) (mTup [(M.pure (.str (Str.ofString "over"))), (M.pure (.str (Str.ofString "rest")))])) (sApp 7 (mTup [(lift2 oIx (mVar 8) (M.pure (.int 0))), (mIxV 7 (lift2 oIx (mVar 8) (M.pure (.int 1)))), (lift2 oIx (mVar 8) (M.pure (.int 2)))])) (sApp 7 (mTup [(lift2 oIx (mVar 8) (M.pure (.int 0))), (mIxV 7 (lift2 oIx (mVar 8) (M.pure (.int 1)))), (mIxV 7 (lift2 oIx (mVar 8) (M.pure (.int 2))))]))))) R (ρ := [dI w, some (.d s.D), gc, dI w, some (.d s.D), gc, rc', some (.l []), none, none]) ⟨none, rfl⟩ (fun i r ρ hr ⟨o8, eρ⟩ => by
    subst eρ
    have hi := (List.getElem?_eq_some_iff.mp hr).1
    have fl := evs_take_len (pA g) hr
    have wfr := wf i r hr
    have hR : R.length ≤ 900 := lr'
    have hi' : i ≤ 900 := by omega
    generalize hf : evs (pA g) (R.take i) = fs at *
    have z' : (fs.map Sm.D).length < sizeLine := sizeL_lt (by rw [List.length_map]; omega)
    have e0 : gN 8 r.D [dI w, some (.d s.D), gc, dI w, some (.d s.D), gc, rc', some (.l (fs.map Sm.D)), o8, none] = .ok () [dI w, some (.d s.D), gc, dI w, some (.d s.D), gc, rc', some (.l (fs.map Sm.D)), some (.d r.D), none] := rfl
    refine ⟨.nx, [dI w, some (.d s.D), gc, dI w, some (.d s.D), gc, rc', some (.l ((fs ++ [r.on (pA g) fs]).map Sm.D)), some (.d r.D), none], ?_, .inl rfl, _, rfl⟩
    rw [bind_ok e0, List.map_append]
    generalize rc' = rcv at *
    cases r with
    | w k =>
      have k1 : k < mw (s.rows []) := lt_mw hr
      have a := at_get Sm.D g k.toNat (.n 0) (by have := wfr.1; omega)
      rw [Int.toNat_of_nonneg wfr.1] at a
      have gcd : gc = some (.d (.tuple (g.map Sm.D))) := rfl
      rw [show (Rw.w k).on (pA g) fs = g.getD k.toNat (.n 0) from rfl, show [g.getD k.toNat (Sm.n 0)].map Sm.D = [(g.getD k.toNat (.n 0)).D] from rfl]
      generalize (g.getD k.toNat (Sm.n 0)).D = v at *
      rw [gcd]
      generalize fs.map Sm.D = fl at *
      generalize g.map Sm.D = gl at *
      simp -implicitDefEqProofs [Rw.D, a, lsAt_ap, z']
    | n u =>
      rw [show ([(Rw.n u).on (pA g) fs].map Sm.D) = [(Rw.n u).D] from rfl]
      generalize fs.map Sm.D = fl at *
      generalize gc = gcv at *
      simp -implicitDefEqProofs [Rw.D, lsAt_ap, z']
    | o q a b =>
      have a1 := at_get Sm.D fs a (.n 0) (by have := wfr.1; omega)
      have a2 := at_get Sm.D fs b (.n 0) (by have := wfr.2; omega)
      rw [show ([(Rw.o q a b).on (pA g) fs].map Sm.D) = [.tuple [.str q.s, (fs.getD a (.n 0)).D, (fs.getD b (.n 0)).D]] from rfl]
      generalize (fs.getD a (Sm.n 0)).D = x at *
      generalize (fs.getD b (Sm.n 0)).D = y at *
      generalize fs.map Sm.D = fl at *
      generalize gc = gcv at *
      simp -implicitDefEqProofs [Rw.D, hs_wn, hs_or, a1, a2, lsAt_ap, z']
    | d q a c =>
      have a1 := at_get Sm.D fs a (.n 0) (by have := wfr.1; omega)
      rw [show ([(Rw.d q a c).on (pA g) fs].map Sm.D) = [.tuple [.str (H1 q), (fs.getD a (.n 0)).D, .int c]] from rfl]
      generalize (fs.getD a (Sm.n 0)).D = x at *
      generalize fs.map Sm.D = fl at *
      generalize gc = gcv at *
      simp -implicitDefEqProofs [Rw.D, h1_wn, h1_or, a1, lsAt_ap, z'])
  obtain ⟨l, el⟩ := rows_last (pA g) s
  have el' : evs (pA g) R = l ++ [s.fold (pA g)] := el
  rw [el'] at e5
  have la := last_D Sm.D l (s.fold (pA g))
  generalize (s.fold (pA g)).D = v at *
  generalize (l ++ [s.fold (pA g)]).map Sm.D = vl at *
  have st1 : sSet 3 (mDat (mFrz (mCall φ_sure_width (mSeqA [(agD (mVar 0))])))) [dI w, some (.d s.D), gc, none, none, none, none, none, none, none] = .ok .nx [dI w, some (.d s.D), gc, dI w, none, none, none, none, none, none] := by
    generalize gc = gcv at *
    simp -implicitDefEqProofs [sw]
  have st2 : sSet2 4 5 (mDat (mFrz (mCall φ_sure_sum (mSeqA [(agD (mVar 3)), (agD (mVar 1))])))) (mDat (mFrz (mCall (φ_tupled 24) (mSeqA [(agD (mVar 2))])))) [dI w, some (.d s.D), gc, dI w, none, none, none, none, none, none] = .ok .nx [dI w, some (.d s.D), gc, dI w, some (.d s.D), gc, none, none, none, none] := by
    simp -implicitDefEqProofs [gc, e1, tu]
  have st3 : sSet 6 (mDat (mFrz (mCall φ_rows_in (mSeqA [(agD (mVar 4))])))) [dI w, some (.d s.D), gc, dI w, some (.d s.D), gc, none, none, none, none] = .ok .nx [dI w, some (.d s.D), gc, dI w, some (.d s.D), gc, rc', none, none, none] := by
    generalize gc = gcv at *
    simp -implicitDefEqProofs [e2, rc', R]
  have st4 : sIf (DL.tOr (DL.tNot (tTru (lift1 (oIsi .tuple) (mVar 5)))) (DL.tNot (tChain oLe oLe (mFrz (mCall φ_words_in (mSeqA [(agD (mVar 6))]))) (lift1 oLen (mVar 5)) (M.pure (.int 10))))) (sErr .unfit) sSkip [dI w, some (.d s.D), gc, dI w, some (.d s.D), gc, rc', none, none, none] = .ok .nx [dI w, some (.d s.D), gc, dI w, some (.d s.D), gc, rc', none, none, none] := by
    have e3' : φ_words_in [rc'] = .ok (.d (.int (mw R))) [rc'] := e3
    have h1' : mw R ≤ g.length := h1
    have gcd : gc = some (.d (.tuple (g.map Sm.D))) := rfl
    have rcd : rc' = some (.d (.list (R.map Rw.D))) := rfl
    rw [rcd] at e3' ⊢
    rw [gcd]
    generalize R.map Rw.D = rl at *
    generalize g.map Sm.D = gl at *
    simp -implicitDefEqProofs [e3', l1, h1', h2']
  have st5 : sSet 5 (mDat (lift1 oTuple (mFrz (mLc [9] (mItems (mVar 5)) (gN 9) mYes (mFrz (mCall φ_sure_sum (mSeqA [(agD (mVar 3)), (agD (mVar 9))]))))))) [dI w, some (.d s.D), gc, dI w, some (.d s.D), gc, rc', none, none, none] = .ok .nx [dI w, some (.d s.D), gc, dI w, some (.d s.D), gc, rc', none, none, none] := by
    have hm : mItems (mVar 5) [dI w, some (.d s.D), gc, dI w, some (.d s.D), gc, rc', none, none, none] = .ok (g.map Sm.D) [dI w, some (.d s.D), gc, dI w, some (.d s.D), gc, rc', none, none, none] := rfl
    have e6 := mLc_ok hm rfl e4
    rw [sSet_ap, mDat_ap, lift1_ap, mFrz_ap, e6]
    rfl
  have st6 : sSet 7 (mLst []) [dI w, some (.d s.D), gc, dI w, some (.d s.D), gc, rc', none, none, none] = .ok .nx [dI w, some (.d s.D), gc, dI w, some (.d s.D), gc, rc', some (.l []), none, none] := rfl
  have hi : mItems (mVar 6) [dI w, some (.d s.D), gc, dI w, some (.d s.D), gc, rc', some (.l []), none, none] = .ok (R.map Rw.D) [dI w, some (.d s.D), gc, dI w, some (.d s.D), gc, rc', some (.l []), none, none] := rfl
  rw [φ_put_into, run_ap _ _ _ _ _ (by rfl), m_put_into]
  show runR 3 [0, 1, 2] _ (sSeq _ _ [dI w, some (.d s.D), gc, none, none, none, none, none, none, none]) = _
  rw [seq_ok st1, seq_ok st2, seq_ok st3, seq_ok st4, seq_ok st5, seq_ok st6, seq_ok (sFor_ok hi e5)]
  generalize rc' = rcv at *
  have gcd : gc = some (.d (.tuple (g.map Sm.D))) := rfl
  rw [gcd]
  generalize g.map Sm.D = gl at *
  simp -implicitDefEqProofs [lsAt_ap, la, e7, finSl, List.range, List.range.loop]
end
end L41

set_option linter.all false
set_option maxRecDepth 100000
set_option exponentiation.threshold 10000
namespace L41
open PySem PySem.Spec L2 DL
/-! ## the law's own counting -/
open SM
def pick {α : Type} (q : H2) (a b c d e : α) : α := match q with
  | .plus => a
  | .less => b
  | .times => c
  | .least => d
  | .most => e
theorem disp5 (q : H2) (a b c d e : PyData) : valD (mergeD [] [(Sum.inr (Str.ofString "plus"), a), (Sum.inr (Str.ofString "less"), b), (Sum.inr (Str.ofString "times"), c), (Sum.inr (Str.ofString "least"), d), (Sum.inr (Str.ofString "most"), e)]) (Sum.inr q.s : L2.Key) = some (pick q a b c d e) := by cases q <;> rfl
theorem disp3 (q : H2) (a b c : PyData) : valD (mergeD [] [(Sum.inr (Str.ofString "plus"), a), (Sum.inr (Str.ofString "less"), b), (Sum.inr (Str.ofString "times"), c)]) (Sum.inr q.s : L2.Key) = pick q (some a) (some b) (some c) none none := by cases q <;> rfl
section
variable {w : Int} {ws : List Int} {R : List Rw} {m : Int}
theorem eq_law_worths (w1 : 1 ≤ w) (w2 : w ≤ 64) (hws : ∀ x ∈ ws, 0 ≤ x ∧ x < 2 ^ w.toNat) (h : wfR (2 ^ w.toNat - 1) m R) (hm : mw R ≤ ws.length) (hl : R.length ≤ 900) : φ__law_worths [dI w, some (.d (.list (R.map Rw.D))), some (.d (.tuple (ws.map .int)))] = .ok (.l ((evs (vA (2 ^ w.toNat) ws) R).map .int)) [dI w, some (.d (.list (R.map Rw.D))), some (.d (.tuple (ws.map .int)))] := by
  have p := pow_le64 (n := w.toNat) (by omega)
  have p1 := one_le_pow w.toNat
  have tw := eq_two w (by omega) (by omega)
  let rc' : Option C := some (.d (.list (R.map Rw.D)))
  let St : List Int → Sl → Prop := fun fs ρ => ∃ o5 o6 o7, ρ = [dI w, rc', some (.d (.tuple (ws.map .int))), some (.l (fs.map .int)), dI (2 ^ w.toNat), o5, o6, o7]
  let B : M Fl := (sSeq (sIf (lift2 oIn (lift2 oIx (mVar 5) (M.pure (.int 0))) (mTup [(M.pure (.str (Str.ofString "word"))), (M.pure (.str (Str.ofString "number")))])) (sSeq (sApp 3 (mIf (lift2 oEq (lift2 oIx (mVar 5) (M.pure (.int 0))) (M.pure (.str (Str.ofString "word")))) (lift2 oIx (mVar 2) (lift2 oIx (mVar 5) (M.pure (.int 1)))) (lift2 oIx (mVar 5) (M.pure (.int 1))))) sCt) sSkip) (sSeq (sSet2 6 7 (mDat (mIxV 3 (lift2 oIx (mVar 5) (M.pure (.int 1))))) (mDat (mIf (lift2 oIn (lift2 oIx (mVar 5) (M.pure (.int 0))) (mTup [(M.pure (.str (Str.ofString "over"))), (M.pure (.str (Str.ofString "rest")))])) (lift2 oIx (mVar 5) (M.pure (.int 2))) (mIxV 3 (lift2 oIx (mVar 5) (M.pure (.int 2))))))) (sIf (lift2 oIn (lift2 oIx (mVar 5) (M.pure (.int 0))) (mTup [(M.pure (.str (Str.ofString "over"))), (M.pure (.str (Str.ofString "rest")))])) (sApp 3 (mIf (lift2 oEq (lift2 oIx (mVar 5) (M.pure (.int 0))) (M.pure (.str (Str.ofString "over")))) (lift2 oDiv (mVar 6) (mVar 7)) (lift2 oMod (mVar 6) (mVar 7)))) (sApp 3 (mDIxN (mDisp [((M.pure (.str (Str.ofString "plus"))), (lift2 oMod (lift2 oAdd (mVar 6) (mVar 7)) (mVar 4))), ((M.pure (.str (Str.ofString "less"))), (lift2 oMod (lift2 oSub (mVar 6) (mVar 7)) (mVar 4))), ((M.pure (.str (Str.ofString "times"))), (lift2 oMod (lift2 oMul (mVar 6) (mVar 7)) (mVar 4))), ((M.pure (.str (Str.ofString "least"))), (lift2 oMin (mVar 6) (mVar 7))), ((M.pure (.str (Str.ofString "most"))), (lift2 oMax (mVar 6) (mVar 7)))]) (lift2 oIx (mVar 5) (M.pure (.int 0))))))))
  obtain ⟨ρ', e, o5, o6, o7, rfl⟩ := rows_loop (vA (2 ^ w.toNat) ws) St (g := gN 5) (b := B) R (ρ := [dI w, rc', some (.d (.tuple (ws.map .int))), some (.l []), dI (2 ^ w.toNat), none, none, none]) ⟨none, none, none, rfl⟩ (fun i r ρ hr ⟨o5, o6, o7, eρ⟩ => by
    subst eρ
    have hi := (List.getElem?_eq_some_iff.mp hr).1
    have fl := evs_take_len (vA (2 ^ w.toNat) ws) hr
    have wf := h i r hr
    have fb := worth_b w1 hws (wfR_take h i)
    have p0 : (0 : Int) ≤ 0 ∧ (0 : Int) < 2 ^ w.toNat := by omega
    generalize hf : evs (vA (2 ^ w.toNat) ws) (R.take i) = fs at *
    have z' : (fs.map PyData.int).length < sizeLine := sizeL_lt (by rw [List.length_map]; omega)
    have e0 : gN 5 r.D [dI w, rc', some (.d (.tuple (ws.map .int))), some (.l (fs.map .int)), dI (2 ^ w.toNat), o5, o6, o7] = .ok () [dI w, rc', some (.d (.tuple (ws.map .int))), some (.l (fs.map .int)), dI (2 ^ w.toNat), some (.d r.D), o6, o7] := rfl
    have fin : ∃ fl o6' o7', ∀ v : Int, v = r.on (vA (2 ^ w.toNat) ws) fs → (fl = Fl.nx ∨ fl = Fl.ct) ∧ B [dI w, rc', some (.d (.tuple (ws.map .int))), some (.l (fs.map .int)), dI (2 ^ w.toNat), some (.d r.D), o6, o7] = .ok fl [dI w, rc', some (.d (.tuple (ws.map .int))), some (.l (fs.map .int ++ [.int v])), dI (2 ^ w.toNat), some (.d r.D), o6', o7'] := by
      generalize rc' = rcv at *
      cases r with
      | w k =>
        refine ⟨.ct, o6, o7, fun v ev => ⟨.inr rfl, ?_⟩⟩
        have k1 := lt_mw hr
        have a := at_get PyData.int ws k.toNat 0 (by have := wf.1; omega)
        rw [Int.toNat_of_nonneg wf.1, show ws.getD k.toNat 0 = v from ev.symm] at a
        generalize fs.map PyData.int = fl at *
        generalize ws.map PyData.int = wl at *
        generalize (2 : Int) ^ w.toNat = P at *
        simp -implicitDefEqProofs [B, Rw.D, a, lsAt_ap, z']
      | n u =>
        refine ⟨.ct, o6, o7, fun v ev => ⟨.inr rfl, ?_⟩⟩
        have ev' : v = u := ev
        subst ev'
        generalize fs.map PyData.int = fl at *
        generalize (2 : Int) ^ w.toNat = P at *
        simp -implicitDefEqProofs [B, Rw.D, lsAt_ap, z']
      | o q a b =>
        refine ⟨.nx, dI (fs.getD a 0), dI (fs.getD b 0), fun v ev => ⟨.inl rfl, ?_⟩⟩
        have a1 := at_get PyData.int fs a 0 (by have := wf.1; omega)
        have a2 := at_get PyData.int fs b 0 (by have := wf.2; omega)
        have b1 := getD_all fb p0 a
        have b2 := getD_all fb p0 b
        have k1 : mulOk (fs.getD a 0) (fs.getD b 0) = true := mulOk_s (by omega) (by omega) (by omega) (by omega)
        have ev' : v = op2 (2 ^ w.toNat) q (fs.getD a 0) (fs.getD b 0) := ev
        have pp : 0 < (2 : Int) ^ w.toNat := by omega
        generalize fs.getD a 0 = x at *
        generalize fs.getD b 0 = y at *
        generalize fs.map PyData.int = fl at *
        generalize (2 : Int) ^ w.toNat = P at *
        have d5 := disp5 q (.int ((x + y) % P)) (.int ((x - y) % P)) (.int (x * y % P)) (.int (min x y)) (.int (max x y))
        have ed : pick q (PyData.int ((x + y) % P)) (.int ((x - y) % P)) (.int (x * y % P)) (.int (min x y)) (.int (max x y)) = .int v := by rw [ev']; cases q <;> rfl
        rw [ed] at d5
        simp -implicitDefEqProofs [B, Rw.D, hs_wn, hs_or, a1, a2, k1, pp, kPrs, d5, lsAt_ap, z']
      | d q a c =>
        refine ⟨.nx, dI (fs.getD a 0), dI c, fun v ev => ⟨.inl rfl, ?_⟩⟩
        have a1 := at_get PyData.int fs a 0 (by have := wf.1; omega)
        have dc : divOk c = true := divOk_s (by have := wf.2; omega) (by have := wf.2; omega)
        have pc : 0 < c := by have := wf.2; omega
        have ev' : v = opd q (fs.getD a 0) c := ev
        generalize fs.getD a 0 = x at *
        generalize fs.map PyData.int = fl at *
        generalize (2 : Int) ^ w.toNat = P at *
        subst ev'
        cases q <;> simp -implicitDefEqProofs [B, Rw.D, H1, a1, dc, pc, opd, lsAt_ap, z']
    obtain ⟨fl', o6', o7', f⟩ := fin
    obtain ⟨f1, f2⟩ := f _ rfl
    exact ⟨fl', _, by rw [bind_ok e0]; exact f2, f1, some (.d r.D), o6', o7', by rw [List.map_append]; rfl⟩)
  rw [φ__law_worths, run_ap _ _ _ _ _ (by rfl), m__law_worths]
  have st0 : sSet2 3 4 (mLst []) (mDat (mFrz (mCall φ__law_two (mSeqA [(agD (mVar 0))])))) [dI w, rc', some (.d (.tuple (ws.map .int))), none, none, none, none, none] = .ok .nx [dI w, rc', some (.d (.tuple (ws.map .int))), some (.l []), dI (2 ^ w.toNat), none, none, none] := by
    generalize rc' = rcv at *
    simp -implicitDefEqProofs [tw]
  have hi : mItems (mVar 1) [dI w, rc', some (.d (.tuple (ws.map .int))), some (.l []), dI (2 ^ w.toNat), none, none, none] = .ok (R.map Rw.D) [dI w, rc', some (.d (.tuple (ws.map .int))), some (.l []), dI (2 ^ w.toNat), none, none, none] := rfl
  show runR 3 [0, 1, 2] _ (sSeq _ _ [dI w, rc', some (.d (.tuple (ws.map .int))), none, none, none, none, none]) = _
  rw [seq_ok st0, seq_ok (sFor_ok hi e)]
  rfl
theorem eq_law_joint (w1 : 1 ≤ w) (w2 : w ≤ 64) (q : H2) {a b : Int × Int} (ha : isSp (2 ^ w.toNat - 1) a) (hb : isSp (2 ^ w.toNat - 1) b) : φ__law_joint [dI w, some (.d (.str q.s)), some (.d (pD a)), some (.d (pD b))] = .ok (.d (pD (span2 (2 ^ w.toNat - 1) q a b))) [dI w, some (.d (.str q.s)), some (.d (pD a)), some (.d (pD b))] := by
  have p := pow_le64 (n := w.toNat) (by omega)
  have tw := eq_two w (by omega) (by omega)
  obtain ⟨a1, a2⟩ := a
  obtain ⟨b1, b2⟩ := b
  obtain ⟨ha1, ha2, ha3⟩ := ha
  obtain ⟨hb1, hb2, hb3⟩ := hb
  simp only at ha1 ha2 ha3 hb1 hb2 hb3
  have k1 : mulOk a1 b1 = true := mulOk_s (by omega) (by omega) (by omega) (by omega)
  have k2 : mulOk a2 b2 = true := mulOk_s (by omega) (by omega) (by omega) (by omega)
  have d3 := disp3 q (pD (a1 + b1, a2 + b2)) (pD (a1 - b2, a2 - b1)) (pD (a1 * b1, a2 * b2))
  have hm := bnd ha1 ha2 hb1 hb2
  generalize hT : (2 : Int) ^ w.toNat - 1 = T at *
  unfold pD at d3
  have c0 : 0 ≤ a1 + b1 := by omega
  have c1 : 0 ≤ a1 - b2 ↔ b2 ≤ a1 := by omega
  have c2 : a2 - b1 ≤ T := by omega
  have c3 := hm.1
  cases q with
  | plus =>
    have d3' := d3
    simp only [pick, H2.s] at d3'
    generalize hX : a2 + b2 = X at *
    generalize hY : a1 + b1 = Y at *
    by_cases c : X ≤ T <;> (rw [φ__law_joint, run_ap _ _ _ _ _ (by rfl)]; simp -implicitDefEqProofs [m__law_joint, finSl, List.range, List.range.loop, H2.s, tw, hT, span2, pD, k1, k2, hX, hY, kPrs, dkAt_ap, d3', c, c0])
  | less =>
    have d3' := d3
    simp only [pick, H2.s] at d3'
    generalize hX : a2 - b1 = X at *
    generalize hY : a1 - b2 = Y at *
    by_cases c : b2 ≤ a1
    · have c4 : 0 ≤ Y := c1.mpr c
      (rw [φ__law_joint, run_ap _ _ _ _ _ (by rfl)]; simp -implicitDefEqProofs [m__law_joint, finSl, List.range, List.range.loop, H2.s, tw, hT, span2, pD, k1, k2, hX, hY, kPrs, dkAt_ap, d3', c, c4, c2])
    · have c4 : ¬ 0 ≤ Y := fun z => c (c1.mp z)
      (rw [φ__law_joint, run_ap _ _ _ _ _ (by rfl)]; simp -implicitDefEqProofs [m__law_joint, finSl, List.range, List.range.loop, H2.s, tw, hT, span2, pD, k1, k2, hX, hY, kPrs, dkAt_ap, d3', c, c4])
  | times =>
    have d3' := d3
    simp only [pick, H2.s] at d3'
    generalize hX : a2 * b2 = X at *
    generalize hY : a1 * b1 = Y at *
    by_cases c : X ≤ T <;> (rw [φ__law_joint, run_ap _ _ _ _ _ (by rfl)]; simp -implicitDefEqProofs [m__law_joint, finSl, List.range, List.range.loop, H2.s, tw, hT, span2, pD, k1, k2, hX, hY, kPrs, dkAt_ap, d3', c, c3])
  | least =>
    have d3' := d3
    simp only [pick, H2.s] at d3'
    (rw [φ__law_joint, run_ap _ _ _ _ _ (by rfl)]; simp -implicitDefEqProofs [m__law_joint, finSl, List.range, List.range.loop, H2.s, tw, hT, span2, pD, k1, k2, kPrs, dkAt_ap, d3'])
  | most =>
    have d3' := d3
    simp only [pick, H2.s] at d3'
    (rw [φ__law_joint, run_ap _ _ _ _ _ (by rfl)]; simp -implicitDefEqProofs [m__law_joint, finSl, List.range, List.range.loop, H2.s, tw, hT, span2, pD, k1, k2, kPrs, dkAt_ap, d3'])
end
end L41

set_option linter.all false
set_option maxRecDepth 100000
set_option exponentiation.threshold 10000
namespace L41
open PySem PySem.Spec L2 DL
/-! ## the law's spans; trees built -/
open SM
section
variable {w : Int} {sp : List (Int × Int)} {R : List Rw} {m : Int}
theorem eq_law_spans (w1 : 1 ≤ w) (w2 : w ≤ 64) (hs : ∀ p ∈ sp, isSp (2 ^ w.toNat - 1) p) (h : wfR (2 ^ w.toNat - 1) m R) (hm : mw R ≤ sp.length) (hl : R.length ≤ 900) : φ__law_spans [dI w, some (.d (.list (R.map Rw.D))), some (.d (.list (sp.map pD)))] = .ok (.l ((evs (sA (2 ^ w.toNat - 1) sp) R).map pD)) [dI w, some (.d (.list (R.map Rw.D))), some (.d (.list (sp.map pD)))] := by
  have p64 := pow_le64 (n := w.toNat) (by omega)
  let rc' : Option C := some (.d (.list (R.map Rw.D)))
  let B : M Fl := (sIf (lift2 oIn (lift2 oIx (mVar 4) (M.pure (.int 0))) (mTup [(M.pure (.str (Str.ofString "word"))), (M.pure (.str (Str.ofString "number")))])) (sApp 3 (mIf (lift2 oEq (lift2 oIx (mVar 4) (M.pure (.int 0))) (M.pure (.str (Str.ofString "word")))) (lift2 oIx (mVar 2) (lift2 oIx (mVar 4) (M.pure (.int 1)))) (mTup [(lift2 oIx (mVar 4) (M.pure (.int 1))), (lift2 oIx (mVar 4) (M.pure (.int 1)))]))) (sIf (lift2 oIn (lift2 oIx (mVar 4) (M.pure (.int 0))) (mTup [(M.pure (.str (Str.ofString "over"))), (M.pure (.str (Str.ofString "rest")))])) (sSeq (sAsg (mTup [(mIxV 3 (lift2 oIx (mVar 4) (M.pure (.int 1)))), (lift2 oIx (mVar 4) (M.pure (.int 2)))]) (gT [(gT [(gN 5), (gN 6)]), (gN 7)])) (sIf (lift2 oEq (lift2 oIx (mVar 4) (M.pure (.int 0))) (M.pure (.str (Str.ofString "over")))) (sApp 3 (mTup [(lift2 oDiv (mVar 5) (mVar 7)), (lift2 oDiv (mVar 6) (mVar 7))])) (sApp 3 (mIf (lift2 oEq (lift2 oDiv (mVar 5) (mVar 7)) (lift2 oDiv (mVar 6) (mVar 7))) (mTup [(lift2 oMod (mVar 5) (mVar 7)), (lift2 oMod (mVar 6) (mVar 7))]) (mTup [(M.pure (.int 0)), (lift2 oSub (mVar 7) (M.pure (.int 1)))]))))) (sApp 3 (mFrz (mCall φ__law_joint (mSeqA [(agD (mVar 0)), (agD (lift2 oIx (mVar 4) (M.pure (.int 0)))), (agD (mIxV 3 (lift2 oIx (mVar 4) (M.pure (.int 1))))), (agD (mIxV 3 (lift2 oIx (mVar 4) (M.pure (.int 2)))))]))))))
  let St : List (Int × Int) → Sl → Prop := fun fs ρ => ∃ o4 o5 o6 o7, ρ = [dI w, rc', some (.d (.list (sp.map pD))), some (.l (fs.map pD)), o4, o5, o6, o7]
  obtain ⟨ρ', e, o4, o5, o6, o7, rfl⟩ := rows_loop (sA (2 ^ w.toNat - 1) sp) St (g := gN 4) (b := B) R (ρ := [dI w, rc', some (.d (.list (sp.map pD))), some (.l []), none, none, none, none]) ⟨none, none, none, none, rfl⟩ (fun i r ρ hr ⟨o4, o5, o6, o7, eρ⟩ => by
    subst eρ
    have hi := (List.getElem?_eq_some_iff.mp hr).1
    have fl := evs_take_len (sA (2 ^ w.toNat - 1) sp) hr
    have wf := h i r hr
    have fb := span_b w1 hs (wfR_take h i)
    have p0 : isSp (2 ^ w.toNat - 1) (0, 0) := ⟨Int.le_refl _, Int.le_refl _, by show 0 ≤ _; have := one_le_pow w.toNat; omega⟩
    generalize hf : evs (sA (2 ^ w.toNat - 1) sp) (R.take i) = fs at *
    have z' : (fs.map pD).length < sizeLine := sizeL_lt (by rw [List.length_map]; omega)
    have e0 : gN 4 r.D [dI w, rc', some (.d (.list (sp.map pD))), some (.l (fs.map pD)), o4, o5, o6, o7] = .ok () [dI w, rc', some (.d (.list (sp.map pD))), some (.l (fs.map pD)), some (.d r.D), o5, o6, o7] := rfl
    have fin : ∃ o5' o6' o7', ∀ (v : Int × Int), v = r.on (sA (2 ^ w.toNat - 1) sp) fs → B [dI w, rc', some (.d (.list (sp.map pD))), some (.l (fs.map pD)), some (.d r.D), o5, o6, o7] = .ok .nx [dI w, rc', some (.d (.list (sp.map pD))), some (.l (fs.map pD ++ [pD v])), some (.d r.D), o5', o6', o7'] := by
      generalize rc' = rcv at *
      cases r with
      | w k =>
        refine ⟨o5, o6, o7, fun v ev => ?_⟩
        have k1 := lt_mw hr
        have a := at_get pD sp k.toNat (0, 0) (by have := wf.1; omega)
        rw [Int.toNat_of_nonneg wf.1, show sp.getD k.toNat (0, 0) = v from ev.symm] at a
        generalize fs.map pD = fl at *
        generalize sp.map pD = wl at *
        simp -implicitDefEqProofs [B, Rw.D, a, lsAt_ap, z']
      | n u =>
        refine ⟨o5, o6, o7, fun v ev => ?_⟩
        have ev' : pD v = .tuple [.int u, .int u] := by rw [ev]; rfl
        rw [ev']
        generalize fs.map pD = fl at *
        simp -implicitDefEqProofs [B, Rw.D, lsAt_ap, z']
      | o q a b =>
        refine ⟨o5, o6, o7, fun v ev => ?_⟩
        have a1 := at_get pD fs a (0, 0) (by have := wf.1; omega)
        have a2 := at_get pD fs b (0, 0) (by have := wf.2; omega)
        have j := eq_law_joint w1 w2 q (getD_all fb p0 a) (getD_all fb p0 b)
        rw [show span2 (2 ^ w.toNat - 1) q (fs.getD a (0, 0)) (fs.getD b (0, 0)) = v from ev.symm] at j
        generalize pD v = vd at *
        generalize pD (fs.getD a (0, 0)) = x at *
        generalize pD (fs.getD b (0, 0)) = y at *
        generalize fs.map pD = fl at *
        simp -implicitDefEqProofs [B, Rw.D, hs_wn, hs_or, a1, a2, j, lsAt_ap, z']
      | d q a c =>
        refine ⟨dI (fs.getD a (0, 0)).1, dI (fs.getD a (0, 0)).2, dI c, fun v ev => ?_⟩
        have a1 := at_get pD fs a (0, 0) (by have := wf.1; omega)
        have dc : divOk c = true := divOk_s (by have := wf.2; omega) (by have := wf.2; omega)
        have pc : 0 < c := by have := wf.2; omega
        have ev' : v = span1 q (fs.getD a (0, 0)) c := ev
        generalize fs.getD a (0, 0) = x at *
        obtain ⟨x1, x2⟩ := x
        generalize fs.map pD = fl at *
        subst ev'
        cases q with
        | false => simp -implicitDefEqProofs [B, Rw.D, H1, a1, pD, dc, pc, span1, lsAt_ap, z']
        | true =>
          generalize hX : x1 / c = X at *
          generalize hY : x2 / c = Y at *
          by_cases e : X = Y <;> simp -implicitDefEqProofs [B, Rw.D, H1, a1, pD, dc, pc, span1, hX, hY, e, lsAt_ap, z']
    obtain ⟨o5', o6', o7', f⟩ := fin
    exact ⟨.nx, _, by rw [bind_ok e0]; exact f _ rfl, .inl rfl, some (.d r.D), o5', o6', o7', by rw [List.map_append]; rfl⟩)
  rw [φ__law_spans, run_ap _ _ _ _ _ (by rfl), m__law_spans]
  have st0 : sSet 3 (mLst []) [dI w, rc', some (.d (.list (sp.map pD))), none, none, none, none, none] = .ok .nx [dI w, rc', some (.d (.list (sp.map pD))), some (.l []), none, none, none, none] := rfl
  have hi : mItems (mVar 1) [dI w, rc', some (.d (.list (sp.map pD))), some (.l []), none, none, none, none] = .ok (R.map Rw.D) [dI w, rc', some (.d (.list (sp.map pD))), some (.l []), none, none, none, none] := rfl
  show runR 3 [0, 1, 2] _ (sSeq _ _ [dI w, rc', some (.d (.list (sp.map pD))), none, none, none, none, none]) = _
  rw [seq_ok st0, seq_ok (sFor_ok hi e)]
  rfl
end
/-! ### trees built -/
def bD (s : Sm) : PyData := .tuple [s.D, .int s.sz, .int s.dp]
/-- the last tree -/
def tr (R : List Rw) : Sm := ((evs tA R).getLast?).getD (.n 0)
theorem tr_last {R : List Rw} (h : R ≠ []) : ∃ l, evs tA R = l ++ [tr R] := by
  have hne : evs tA R ≠ [] := by
    intro e
    have := evs_len tA R
    rw [e] at this
    exact h (List.length_eq_zero_iff.mp this.symm)
  refine ⟨(evs tA R).dropLast, ?_⟩
  unfold tr
  rw [List.getLast?_eq_getLast hne]
  exact (List.dropLast_concat_getLast hne).symm
theorem ev_last {α : Type} (A : Al α) {T m : Int} {R : List Rw} (h : R ≠ []) (hw : wfR T m R) : ∃ l, evs A R = l ++ [(tr R).fold A] := by
  obtain ⟨l, e⟩ := tr_last h
  rw [evs_tree A R hw, e, List.map_append]
  exact ⟨l.map (Sm.fold A), rfl⟩
theorem tr_ok {T m : Int} {R : List Rw} (h : R ≠ []) (hw : wfR T m R) : (tr R).ok T m := by
  obtain ⟨l, e⟩ := tr_last h
  exact trees_ok R hw (tr R) (by rw [e]; simp)
theorem eq_law_built {T m : Int} {R : List Rw} (hne : R ≠ []) (h : wfR T m R) (hl : R.length ≤ 900) : φ__law_built [some (.d (.list (R.map Rw.D)))] = .ok (.d (bD (tr R))) [some (.d (.list (R.map Rw.D)))] := by
  let rc' : Option C := some (.d (.list (R.map Rw.D)))
  let B : M Fl := (sIf (lift2 oIn (lift2 oIx (mVar 2) (M.pure (.int 0))) (mTup [(M.pure (.str (Str.ofString "word"))), (M.pure (.str (Str.ofString "number")))])) (sApp 1 (mTup [(mVar 2), (M.pure (.int 1)), (M.pure (.int 1))])) (sIf (lift2 oIn (lift2 oIx (mVar 2) (M.pure (.int 0))) (mTup [(M.pure (.str (Str.ofString "over"))), (M.pure (.str (Str.ofString "rest")))])) (sSeq (sAsg (mIxV 1 (lift2 oIx (mVar 2) (M.pure (.int 1)))) (gT [(gN 3), (gN 4), (gN 5)])) (sApp 1 (mTup [(mTup [(lift2 oIx (mVar 2) (M.pure (.int 0))), (mVar 3), (lift2 oIx (mVar 2) (M.pure (.int 2)))]), (lift2 oAdd (mVar 4) (M.pure (.int 1))), (lift2 oAdd (mVar 5) (M.pure (.int 1)))]))) (sSeq (sSet2 6 7 (mDat (mIxV 1 (lift2 oIx (mVar 2) (M.pure (.int 1))))) (mDat (mIxV 1 (lift2 oIx (mVar 2) (M.pure (.int 2)))))) (sApp 1 (mTup [(mTup [(lift2 oIx (mVar 2) (M.pure (.int 0))), (lift2 oIx (mVar 6) (M.pure (.int 0))), (lift2 oIx (mVar 7) (M.pure (.int 0)))]), (lift2 oAdd (lift2 oAdd (lift2 oIx (mVar 6) (M.pure (.int 1))) (lift2 oIx (mVar 7) (M.pure (.int 1)))) (M.pure (.int 1))), (lift2 oAdd (lift2 oMax (lift2 oIx (mVar 6) (M.pure (.int 2))) (lift2 oIx (mVar 7) (M.pure (.int 2)))) (M.pure (.int 1)))])))))
  let St : List Sm → Sl → Prop := fun fs ρ => ∃ o2 o3 o4 o5 o6 o7, ρ = [rc', some (.l (fs.map bD)), o2, o3, o4, o5, o6, o7]
  obtain ⟨ρ', e, o2, o3, o4, o5, o6, o7, rfl⟩ := rows_loop tA St (g := gN 2) (b := B) R (ρ := [rc', some (.l []), none, none, none, none, none, none]) ⟨none, none, none, none, none, none, rfl⟩ (fun i r ρ hr ⟨o2, o3, o4, o5, o6, o7, eρ⟩ => by
    subst eρ
    have hi := (List.getElem?_eq_some_iff.mp hr).1
    have fl := evs_take_len tA hr
    have wf := h i r hr
    generalize hf : evs tA (R.take i) = fs at *
    have z' : (fs.map bD).length < sizeLine := sizeL_lt (by rw [List.length_map]; omega)
    have e0 : gN 2 r.D [rc', some (.l (fs.map bD)), o2, o3, o4, o5, o6, o7] = .ok () [rc', some (.l (fs.map bD)), some (.d r.D), o3, o4, o5, o6, o7] := rfl
    have fin : ∃ o3' o4' o5' o6' o7', ∀ v : Sm, v = r.on tA fs → B [rc', some (.l (fs.map bD)), some (.d r.D), o3, o4, o5, o6, o7] = .ok .nx [rc', some (.l (fs.map bD ++ [bD v])), some (.d r.D), o3', o4', o5', o6', o7'] := by
      generalize rc' = rcv at *
      cases r with
      | w k =>
        refine ⟨o3, o4, o5, o6, o7, fun v ev => ?_⟩
        have ev' : bD v = .tuple [(Rw.w k).D, .int 1, .int 1] := by rw [ev]; rfl
        rw [ev']
        generalize fs.map bD = fl at *
        simp -implicitDefEqProofs [B, Rw.D, lsAt_ap, z']
      | n k =>
        refine ⟨o3, o4, o5, o6, o7, fun v ev => ?_⟩
        have ev' : bD v = .tuple [(Rw.n k).D, .int 1, .int 1] := by rw [ev]; rfl
        rw [ev']
        generalize fs.map bD = fl at *
        simp -implicitDefEqProofs [B, Rw.D, lsAt_ap, z']
      | o q a b =>
        refine ⟨o3, o4, o5, some (.d (bD (fs.getD a tA.z))), some (.d (bD (fs.getD b tA.z))), fun v ev => ?_⟩
        have a1 := at_get bD fs a tA.z (by have := wf.1; omega)
        have a2 := at_get bD fs b tA.z (by have := wf.2; omega)
        have ev' : bD v = .tuple [.tuple [.str q.s, (fs.getD a tA.z).D, (fs.getD b tA.z).D], .int ((fs.getD a tA.z).sz + (fs.getD b tA.z).sz + 1), .int (max ((fs.getD a tA.z).dp : Int) ((fs.getD b tA.z).dp : Int) + 1)] := by
          rw [ev]
          show bD (.o q (fs.getD a tA.z) (fs.getD b tA.z)) = _
          generalize fs.getD a tA.z = x
          generalize fs.getD b tA.z = y
          have h1 : (((x.sz + y.sz + 1 : Nat)) : Int) = x.sz + y.sz + 1 := by omega
          have h2 : ((max x.dp y.dp + 1 : Nat) : Int) = max (x.dp : Int) y.dp + 1 := by omega
          show PyData.tuple [.tuple [.str q.s, x.D, y.D], .int ((x.sz + y.sz + 1 : Nat) : Int), .int ((max x.dp y.dp + 1 : Nat) : Int)] = _
          rw [h1, h2]
        rw [ev']
        generalize fs.getD a tA.z = x at *
        generalize fs.getD b tA.z = y at *
        generalize fs.map bD = fl at *
        simp -implicitDefEqProofs [B, Rw.D, hs_wn, hs_or, a1, a2, bD, lsAt_ap, z']
      | d q a c =>
        refine ⟨some (.d (fs.getD a tA.z).D), dI (fs.getD a tA.z).sz, dI (fs.getD a tA.z).dp, o6, o7, fun v ev => ?_⟩
        have a1 := at_get bD fs a tA.z (by have := wf.1; omega)
        have ev' : bD v = .tuple [.tuple [.str (H1 q), (fs.getD a tA.z).D, .int c], .int ((fs.getD a tA.z).sz + 1), .int ((fs.getD a tA.z).dp + 1)] := by
          rw [ev]; rfl
        rw [ev']
        generalize fs.getD a tA.z = x at *
        generalize fs.map bD = fl at *
        simp -implicitDefEqProofs [B, Rw.D, h1_wn, h1_or, a1, bD, lsAt_ap, z']
    obtain ⟨o3', o4', o5', o6', o7', f⟩ := fin
    exact ⟨.nx, _, by rw [bind_ok e0]; exact f _ rfl, .inl rfl, some (.d r.D), o3', o4', o5', o6', o7', by rw [List.map_append]; rfl⟩)
  obtain ⟨l, el⟩ := tr_last hne
  rw [el] at e
  have la := last_D bD l (tr R)
  generalize (l ++ [tr R]).map bD = vl at *
  generalize bD (tr R) = v at *
  rw [φ__law_built, run_ap _ _ _ _ _ (by rfl), m__law_built]
  have st0 : sSet 1 (mLst []) [rc', none, none, none, none, none, none, none] = .ok .nx [rc', some (.l []), none, none, none, none, none, none] := rfl
  have hi : mItems (mVar 0) [rc', some (.l []), none, none, none, none, none, none] = .ok (R.map Rw.D) [rc', some (.l []), none, none, none, none, none, none] := rfl
  show runR 1 [0] _ (sSeq _ _ [rc', none, none, none, none, none, none, none]) = _
  rw [seq_ok st0, seq_ok (sFor_ok hi e)]
  have rcd : rc' = some (.d (.list (R.map Rw.D))) := rfl
  rw [rcd]
  generalize R.map Rw.D = rl at *
  simp -implicitDefEqProofs [lsAt_ap, la, finSl, List.range, List.range.loop]
end L41

set_option linter.all false
set_option maxRecDepth 100000
set_option exponentiation.threshold 10000
namespace L41
open PySem PySem.Spec L2 DL
/-! ## draws: rows, sums, edges -/
open SM
section
variable {w : Int}
theorem eq_law_edges (w1 : 1 ≤ w) (w2 : w ≤ 64) (n : Nat) (t : List PyData) (N : Nat) (T : Tin n t) (hn : n ≤ 10000000) (hN : N ≤ 100) :
    ∃ (ws : List Int) (t' : List PyData), φ__law_edges [some (.l t), dI w, dI N] = .ok (.d (.tuple (ws.map .int))) [some (.l t'), dI w, dI N] ∧ ws.length = N ∧ (∀ x ∈ ws, 0 ≤ x ∧ x < 2 ^ w.toNat) ∧ Tin (n + 5 * N) t' := by
  have p := pow_le64 (n := w.toNat) (by omega)
  have p1 := one_le_pow w.toNat
  have tw := eq_two w (by omega) (by omega)
  obtain ⟨T', hT'⟩ : ∃ T' : Int, 2 ^ w.toNat - 1 = T' := ⟨_, rfl⟩
  let st : List PyData → Option C → Sl := fun t o => [some (.l t), dI w, dI N, dI T', o]
  let E : M PyData := (mFrz (mCall φ__law_of (mSeqA [(agV 0), (agD (mFrz (mLst [(mFrz (mCall φ__law_take (mSeqA [(agV 0), (agD (lift2 oAdd (mVar 3) (M.pure (.int 1))))]))), (mFrz (mCall φ__law_take (mSeqA [(agV 0), (agD (lift2 oAdd (mVar 3) (M.pure (.int 1))))]))), (mVar 3), (M.pure (.int 0)), (lift2 oMax (M.pure (.int 0)) (lift2 oSub (mVar 3) (mFrz (mCall φ__law_take (mSeqA [(agV 0), (agD (M.pure (.int 9)))]))))), (lift2 oMin (mVar 3) (mFrz (mCall φ__law_take (mSeqA [(agV 0), (agD (M.pure (.int 99)))]))))])))])))
  let I : Nat → List PyData → Sl → Prop := fun j acc ρ => ∃ t', ρ = st t' none ∧ Tin (n + 5 * j) t' ∧ acc.length = j ∧ j ≤ N ∧ ∀ x ∈ acc, ∃ v : Int, x = .int v ∧ 0 ≤ v ∧ v < 2 ^ w.toNat
  have stp : ∀ j x acc ρ, (intsL 0 (N : Int).toNat)[j]? = some x → I j acc ρ → ∃ o ρ', lcStep (gN 4) mYes E x ρ = .ok o ρ' ∧ I (j + 1) (acc ++ o.toList) (wipeS ρ' [4]) := by
    rintro j x acc ρ hx ⟨t1, rfl, T1, hl, hj, hg⟩
    obtain ⟨hj2, rfl⟩ := intsL_at hx
    obtain ⟨v1, u1, e1, a1, b1, U1⟩ := eq_takeS _ t1 (T' + 1) T1 (by omega) (by omega) (by omega)
    obtain ⟨v2, u2, e2, a2, b2, U2⟩ := eq_takeS _ u1 (T' + 1) U1 (by omega) (by omega) (by omega)
    obtain ⟨v3, u3, e3, a3, b3, U3⟩ := eq_takeS _ u2 9 U2 (by omega) (by omega) (by omega)
    obtain ⟨v4, u4, e4, a4, b4, U4⟩ := eq_takeS _ u3 99 U3 (by omega) (by omega) (by omega)
    obtain ⟨y, u5, e5, hy, U5⟩ := eq_of _ u4 [.int v1, .int v2, .int T', .int 0, .int (max 0 (T' - v3)), .int (min T' v4)] U4 (by omega) (by simp) (by simp)
    obtain ⟨v, rfl, hv0, hv1⟩ : ∃ v : Int, y = .int v ∧ 0 ≤ v ∧ v < 2 ^ w.toNat := by
      simp only [List.mem_cons, List.not_mem_nil, or_false] at hy
      rcases hy with h | h | h | h | h | h <;> exact ⟨_, h, by omega, by omega⟩
    refine ⟨some (.int v), st u5 (some (.d (.int (0 + j)))), lcStep_ok (g := gN 4) (show gN 4 (.int (0 + j)) (st t1 none) = .ok () (st t1 (some (.d (.int (0 + j))))) from rfl) rfl ?_, u5, rfl, U5.mono (by omega), by simp [hl], by omega, fun x hx => ?_⟩
    · generalize hX : max 0 (T' - v3) = X at *
      generalize hY : min T' v4 = Y at *
      simp -implicitDefEqProofs [E, st, e1, e2, e3, e4, hX, hY, e5]
    · rcases List.mem_append.mp hx with h | h
      · exact hg x h
      · exact ⟨v, by simpa using h, hv0, hv1⟩
  obtain ⟨acc, ρ1, e1, t', rfl, T', hl, _, hg⟩ := mLcL_inv (acc := []) (ρ := st t none) I ⟨t, rfl, T, rfl, Nat.zero_le _, fun x hx => by cases hx⟩ (by rw [intsL_len]; exact Nat.le_of_lt (sizeL_lt (by simp; omega))) stp
  obtain ⟨vs, rfl⟩ := ints_ex fun x hx => by obtain ⟨s, h, _⟩ := hg x hx; exact ⟨s, h⟩
  rw [intsL_len] at T' hl
  rw [List.length_map] at hl
  refine ⟨vs, t', ?_, by omega, fun v hv => ?_, T'.mono (by omega)⟩
  · have hr : mRng1 (mVar 2) (st t none) = .ok (intsL 0 (N : Int).toNat) (st t none) := by
      have r := oRng1_i (j := (N : Int)) (by omega) (by omega)
      simp -implicitDefEqProofs [st, r]
    have e2 := mLc_ok (vs := [4]) hr rfl e1
    have s1 : sSet 3 (mDat (lift2 oSub (mFrz (mCall φ__law_two (mSeqA [(agD (mVar 1))]))) (M.pure (.int 1)))) [some (.l t), dI w, dI N, none, none] = .ok .nx (st t none) := by
      simp -implicitDefEqProofs [st, tw, hT']
    rw [φ__law_edges, run_ap _ _ _ _ _ (by rfl), m__law_edges]
    show runR 3 [0, 1, 2] _ (sSeq _ _ [some (.l t), dI w, dI N, none, none]) = _
    rw [seq_ok s1, sRet_ap, mDat_ap, lift1_ap, mFrz_ap, e2]
    rfl
  · obtain ⟨s, h1, h2⟩ := hg (.int v) (List.mem_map_of_mem hv)
    cases h1
    exact h2
theorem head_of {x : PyData} (h : x ∈ [PyData.str (Str.ofString "plus"), .str (Str.ofString "less"), .str (Str.ofString "times"), .str (Str.ofString "over"), .str (Str.ofString "over"), .str (Str.ofString "rest"), .str (Str.ofString "rest"), .str (Str.ofString "least"), .str (Str.ofString "most")]) : (∃ q : H2, x = .str q.s) ∨ ∃ r, x = .str (H1 r) := by
  simp only [List.mem_cons, List.not_mem_nil, or_false] at h
  rcases h with h | h | h | h | h | h | h | h | h
  · exact .inl ⟨.plus, h⟩
  · exact .inl ⟨.less, h⟩
  · exact .inl ⟨.times, h⟩
  · exact .inr ⟨false, h⟩
  · exact .inr ⟨false, h⟩
  · exact .inr ⟨true, h⟩
  · exact .inr ⟨true, h⟩
  · exact .inl ⟨.least, h⟩
  · exact .inl ⟨.most, h⟩
theorem eq_law_rows (w1 : 1 ≤ w) (w2 : w ≤ 64) (n : Nat) (t : List PyData) (T : Tin n t) (hn : n ≤ 10000000) :
    ∃ (R : List Rw) (t' : List PyData), φ__law_rows [some (.l t), dI w, dI 7] = .ok (.l (R.map Rw.D)) [some (.l t'), dI w, dI 7] ∧ wfR (2 ^ w.toNat - 1) 3 R ∧ R ≠ [] ∧ R.length ≤ 20 ∧ Tin (n + 80) t' := by
  have p := pow_le64 (n := w.toNat) (by omega)
  have p1 := two_le_pow (n := w.toNat) (by omega)
  have tw := eq_two w (by omega) (by omega)
  obtain ⟨T', hT'⟩ : ∃ T' : Int, 2 ^ w.toNat - 1 = T' := ⟨_, rfl⟩
  rw [hT']
  let st : List PyData → List Rw → Option C → Option C → Sl := fun t R o5 o6 => [some (.l t), dI w, dI 7, dI T', some (.l (R.map Rw.D)), o5, o6]
  obtain ⟨v1, t1, e1, a1, b1, T1⟩ := eq_takeS n t 3 T (by omega) (by omega) (by omega)
  obtain ⟨v2, t2, e2, a2, b2, T2⟩ := eq_takeS _ t1 9 T1 (by omega) (by omega) (by omega)
  obtain ⟨v3, t3, e3, a3, b3, T3⟩ := eq_takeS _ t2 (T' + 1) T2 (by omega) (by omega) (by omega)
  obtain ⟨y, t4, e4, hy, T4⟩ := eq_of _ t3 [.int v2, .int v3] T3 (by omega) (by simp) (by simp)
  obtain ⟨f, rfl, f0⟩ : ∃ f : Int, y = .int f ∧ 0 ≤ f := by
    simp only [List.mem_cons, List.not_mem_nil, or_false] at hy
    rcases hy with h | h <;> exact ⟨_, h, by omega⟩
  obtain ⟨v5, t5, e5, a5, b5, T5⟩ := eq_takeS _ t4 7 T4 (by omega) (by omega) (by omega)
  let R0 : List Rw := [.w 0, .w v1, .n (min T' f)]
  have w0 : wfR T' 3 R0 := by
    have h0 : wfR T' 3 [] := fun i r h => by simp at h
    have h1 := wfR_snoc (r := .w 0) h0 ⟨by decide, by decide⟩
    have h2 := wfR_snoc (r := .w v1) h1 ⟨a1, b1⟩
    exact wfR_snoc (r := .n (min T' f)) h2 ⟨by omega, by omega⟩
  have s1 : sSet 3 (mDat (lift2 oSub (mFrz (mCall φ__law_two (mSeqA [(agD (mVar 1))]))) (M.pure (.int 1)))) [some (.l t), dI w, dI 7, none, none, none, none] = .ok .nx [some (.l t), dI w, dI 7, dI T', none, none, none] := by
    simp -implicitDefEqProofs [tw, hT']
  have s2 : sSet 4 (mLst [(mTup [(M.pure (.str (Str.ofString "word"))), (M.pure (.int 0))]), (mTup [(M.pure (.str (Str.ofString "word"))), (mFrz (mCall φ__law_take (mSeqA [(agV 0), (agD (M.pure (.int 3)))])))]), (mTup [(M.pure (.str (Str.ofString "number"))), (lift2 oMin (mVar 3) (mFrz (mCall φ__law_of (mSeqA [(agV 0), (agD (mFrz (mLst [(mFrz (mCall φ__law_take (mSeqA [(agV 0), (agD (M.pure (.int 9)))]))), (mFrz (mCall φ__law_take (mSeqA [(agV 0), (agD (lift2 oAdd (mVar 3) (M.pure (.int 1))))])))])))]))))])]) [some (.l t), dI w, dI 7, dI T', none, none, none] = .ok .nx (st t4 R0 none none) := by
    have hM : min T' f = min T' f := rfl
    simp -implicitDefEqProofs [st, R0, e1, e2, e3, e4, Rw.D]
  let B : M Fl := (sSeq (sSet 6 (mDat (mFrz (mCall φ__law_of (mSeqA [(agV 0), (agD (mFrz (mLst [(M.pure (.str (Str.ofString "plus"))), (M.pure (.str (Str.ofString "less"))), (M.pure (.str (Str.ofString "times"))), (M.pure (.str (Str.ofString "over"))), (M.pure (.str (Str.ofString "over"))), (M.pure (.str (Str.ofString "rest"))), (M.pure (.str (Str.ofString "rest"))), (M.pure (.str (Str.ofString "least"))), (M.pure (.str (Str.ofString "most")))])))]))))) (sIf (lift2 oIn (mVar 6) (mTup [(M.pure (.str (Str.ofString "over"))), (M.pure (.str (Str.ofString "rest")))])) (sApp 4 (mTup [(mVar 6), (mFrz (mCall φ__law_take (mSeqA [(agV 0), (agD (mLenV 4))]))), (mFrz (mCall φ__law_divisor (mSeqA [(agV 0), (agD (mVar 1))])))])) (sApp 4 (mTup [(mVar 6), (mFrz (mCall φ__law_take (mSeqA [(agV 0), (agD (mLenV 4))]))), (mFrz (mCall φ__law_take (mSeqA [(agV 0), (agD (mLenV 4))])))]))))
  let I : Nat → Sl → Prop := fun i ρ => ∃ t' R o5 o6, ρ = st t' R o5 o6 ∧ Tin (n + 5 + i * 9) t' ∧ wfR T' 3 R ∧ R.length = i + 3 ∧ i ≤ 7
  have stp : ∀ i d ρ, (intsL 0 (1 + v5).toNat)[i]? = some d → I i ρ → ∃ ρ', M.bind (gN 5 d) (fun _ => B) ρ = .ok .nx ρ' ∧ I (i + 1) ρ' := by
    rintro i d ρ hd ⟨u, R, o5, o6, rfl, U, hw, hl, hi⟩
    obtain ⟨hi2, rfl⟩ := intsL_at hd
    have e0 : gN 5 (.int (0 + i)) (st u R o5 o6) = .ok () (st u R (some (.d (.int (0 + i)))) o6) := rfl
    rw [bind_ok e0]
    obtain ⟨x, u1, f1, hx, U1⟩ := eq_of _ u [PyData.str (Str.ofString "plus"), .str (Str.ofString "less"), .str (Str.ofString "times"), .str (Str.ofString "over"), .str (Str.ofString "over"), .str (Str.ofString "rest"), .str (Str.ofString "rest"), .str (Str.ofString "least"), .str (Str.ofString "most")] U (by omega) (by simp) (by simp)
    have hlen : ((R.map Rw.D).length : Int) = i + 3 := by rw [List.length_map]; omega
    obtain ⟨v, u2, f2, v0, vb, U2⟩ := eq_takeS _ u1 ((R.map Rw.D).length : Int) U1 (by omega) (by omega) (by omega)
    have z' : (R.map Rw.D).length < sizeLine := sizeL_lt (by omega)
    have ev : v = ((v.toNat : Nat) : Int) := by omega
    rcases head_of hx with ⟨q, rfl⟩ | ⟨r, rfl⟩
    · obtain ⟨v', u3, f3, v0', vb', U3⟩ := eq_takeS _ u2 ((R.map Rw.D).length : Int) U2 (by omega) (by omega) (by omega)
      have ev' : v' = ((v'.toNat : Nat) : Int) := by omega
      refine ⟨st u3 (R ++ [.o q v.toNat v'.toNat]) (some (.d (.int (0 + i)))) (some (.d (.str q.s))), ?_, u3, _, _, _, rfl, U3.mono (by omega), wfR_snoc (r := .o q v.toNat v'.toNat) hw ⟨by omega, by omega⟩, by simp; omega, by omega⟩
      have e : (R ++ [Rw.o q v.toNat v'.toNat]).map Rw.D = R.map Rw.D ++ [.tuple [.str q.s, .int v, .int v']] := by
        rw [List.map_append]
        show _ ++ [PyData.tuple [.str q.s, .int ((v.toNat : Nat) : Int), .int ((v'.toNat : Nat) : Int)]] = _
        rw [← ev, ← ev']
      simp only [st, e]
      generalize R.map Rw.D = rl at *
      simp -implicitDefEqProofs [B, f1, hs_or, f2, f3, lsAt_ap, z']
    · obtain ⟨c, u3, f3, c0, c1, U3⟩ := eq_divisor _ u2 w U2 (by omega) w1 w2
      refine ⟨st u3 (R ++ [.d r v.toNat c]) (some (.d (.int (0 + i)))) (some (.d (.str (H1 r)))), ?_, u3, _, _, _, rfl, U3.mono (by omega), wfR_snoc (r := .d r v.toNat c) hw ⟨by omega, by omega, by omega⟩, by simp; omega, by omega⟩
      have e : (R ++ [Rw.d r v.toNat c]).map Rw.D = R.map Rw.D ++ [.tuple [.str (H1 r), .int v, .int c]] := by
        rw [List.map_append]
        show _ ++ [PyData.tuple [.str (H1 r), .int ((v.toNat : Nat) : Int), .int c]] = _
        rw [← ev]
      simp only [st, e]
      generalize R.map Rw.D = rl at *
      simp -implicitDefEqProofs [B, f1, h1_or, f2, f3, lsAt_ap, z']
  obtain ⟨ρ', e6, u, R, o5, o6, rfl, U, hw, hl, hi⟩ := sForL_inv (g := gN 5) (b := B) (xs := intsL 0 (1 + v5).toNat) (ρ := st t5 R0 none none) I ⟨t5, R0, none, none, rfl, T5.mono (by omega), w0, rfl, by omega⟩ stp
  rw [intsL_len] at U hl hi
  refine ⟨R, u, ?_, hw, by intro z; rw [z] at hl; simp at hl, by omega, U.mono (by omega)⟩
  have hr : mRng1 (lift2 oAdd (M.pure (.int 1)) (mFrz (mCall φ__law_take (mSeqA [(agV 0), (agD (mVar 2))])))) (st t4 R0 none none) = .ok (intsL 0 (1 + v5).toNat) (st t5 R0 none none) := by
    have r := oRng1_i (j := 1 + v5) (by omega) (by omega)
    simp -implicitDefEqProofs [st, e5, r]
  rw [φ__law_rows, run_ap _ _ _ _ _ (by rfl), m__law_rows]
  show runR 3 [0, 1, 2] _ (sSeq _ _ [some (.l t), dI w, dI 7, none, none, none, none]) = _
  rw [seq_ok s1, seq_ok s2, seq_ok (sFor_ok hr e6)]
  rfl
end
end L41

set_option linter.all false
set_option maxRecDepth 100000
set_option exponentiation.threshold 10000
namespace L41
open PySem PySem.Spec L2 DL
/-! ## a drawn sum -/
open SM
structure Gs (w : Int) (R : List Rw) : Prop where
  wf : wfR (2 ^ w.toNat - 1) 3 R
  ne : R ≠ []
  len : R.length ≤ 20
  ok : Ok w (tr R)
def sD (R : List Rw) : PyData := .tuple [(tr R).D, .list (R.map Rw.D)]
section
variable {w : Int}
theorem eq_law_sum (w1 : 1 ≤ w) (w2 : w ≤ 64) (n : Nat) (t : List PyData) (T : Tin n t) (hn : n ≤ 1000000) :
    ∃ (R : List Rw) (t' : List PyData), φ__law_sum [some (.l t), dI w] = .ok (.d (sD R)) [some (.l t'), dI w] ∧ Gs w R ∧ Tin (n + 500) t' := by
  have p := pow_le64 (n := w.toNat) (by omega)
  have p1 := two_le_pow (n := w.toNat) (by omega)
  have tw := eq_two w (by omega) (by omega)
  let st : List PyData → Option C → Option C → Option C → Option C → Option C → Sl := fun t o2 o3 o4 o5 o6 => [some (.l t), dI w, o2, o3, o4, o5, o6]
  let B : M Fl := (sSeq (sSet 3 (mDat (mFrz (mCall φ__law_rows (mSeqA [(agV 0), (agD (mVar 1)), (agD (M.pure (.int 7)))]))))) (sSeq (sAsg (mFrz (mCall φ__law_built (mSeqA [(agD (mVar 3))]))) (gT [(gN 4), (gN 5), (gN 6)])) (sIf (DL.tAnd (lift2 oLe (mVar 5) (M.pure (.int 100))) (lift2 oLe (mVar 6) (M.pure (.int 18)))) (sRet (mDat (mTup [(mVar 4), (mVar 3)]))) sSkip)))
  let I : Nat → Sl → Prop := fun i ρ => ∃ t' o2 o3 o4 o5 o6, ρ = st t' o2 o3 o4 o5 o6 ∧ Tin (n + i * 80) t' ∧ i ≤ 6
  let J : Fl → Sl → Prop := fun fl ρ => ∃ R t' o2 o3 o4 o5 o6, fl = .rt (.d (sD R)) ∧ ρ = st t' o2 o3 o4 o5 o6 ∧ Gs w R ∧ Tin (n + 500) t'
  have stp : ∀ i x ρ, (intsL 0 (6 : Int).toNat)[i]? = some x → I i ρ → ∃ fl ρ', M.bind (gN 2 x) (fun _ => B) ρ = .ok fl ρ' ∧ ((fl = .nx ∨ fl = .ct) ∧ I (i + 1) ρ' ∨ fl = .bk ∧ J .nx ρ' ∨ ∃ c, fl = .rt c ∧ J (.rt c) ρ') := by
    rintro i x ρ hx ⟨u, o2, o3, o4, o5, o6, rfl, U, hi⟩
    obtain ⟨hi2, rfl⟩ := intsL_at hx
    have hi6 : i < 6 := hi2
    have e0 : gN 2 (.int (0 + i)) (st u o2 o3 o4 o5 o6) = .ok () (st u (some (.d (.int (0 + i)))) o3 o4 o5 o6) := rfl
    rw [bind_ok e0]
    obtain ⟨R, u1, f1, wf, ne, hl, U1⟩ := eq_law_rows w1 w2 _ u U (by omega)
    have f2 := eq_law_built ne wf (by omega)
    have okt := tr_ok ne wf
    generalize hsz : ((tr R).sz : Int) = sz
    generalize hdp : ((tr R).dp : Int) = dpv
    unfold bD at f2
    rw [hsz, hdp] at f2
    by_cases c : sz ≤ 100 ∧ dpv ≤ 18
    · have g : Gs w R := ⟨wf, ne, hl, w1, w2, Sm.ok_le (by decide) okt, by omega, by omega⟩
      refine ⟨.rt (.d (sD R)), st u1 (some (.d (.int (0 + i)))) (some (.d (.list (R.map Rw.D)))) (some (.d (tr R).D)) (dI sz) (dI dpv), ?_, .inr (.inr ⟨_, rfl, R, u1, _, _, _, _, _, rfl, rfl, g, U1.mono (by omega)⟩)⟩
      unfold sD
      generalize R.map Rw.D = rl at *
      generalize (tr R).D = td at *
      simp -implicitDefEqProofs [B, st, f1, f2, c.1, c.2]
    · refine ⟨.nx, st u1 (some (.d (.int (0 + i)))) (some (.d (.list (R.map Rw.D)))) (some (.d (tr R).D)) (dI sz) (dI dpv), ?_, .inl ⟨.inl rfl, u1, _, _, _, _, _, rfl, U1.mono (by omega), by omega⟩⟩
      generalize R.map Rw.D = rl at *
      generalize (tr R).D = td at *
      by_cases c1 : sz ≤ 100
      · have c2 : ¬ dpv ≤ 18 := fun z => c ⟨c1, z⟩
        simp -implicitDefEqProofs [B, st, f1, f2, c1, c2]
      · simp -implicitDefEqProofs [B, st, f1, f2, c1]
  obtain ⟨fl, ρ1, e, h⟩ := sForL_ex (xs := intsL 0 (6 : Int).toNat) (ρ := st t none none none none none) I J ⟨t, _, _, _, _, _, rfl, T.mono (by omega), Nat.zero_le _⟩ stp
  have hr : mRng1 (M.pure (.int 6)) (st t none none none none none) = .ok (intsL 0 (6 : Int).toNat) (st t none none none none none) := by
    have r := oRng1_i (j := 6) (by omega) (by omega)
    rw [mRng1_ap, pure_ap, then_ok, r]; rfl
  have E := sFor_ok hr e
  rcases h with ⟨rfl, u, o2, o3, o4, o5, o6, rfl, U, _⟩ | ⟨R, u, o2, o3, o4, o5, o6, rfl, rfl, g, U⟩
  · rw [intsL_len] at U
    let R : List Rw := [.w 0, .d false 0 (min 10 (2 ^ w.toNat - 1))]
    have wf : wfR (2 ^ w.toNat - 1) 3 R := by
      have h0 : wfR (2 ^ w.toNat - 1) 3 [] := fun i r h => by simp at h
      have h1 := wfR_snoc (r := .w 0) h0 ⟨by decide, by decide⟩
      exact wfR_snoc (r := .d false 0 (min 10 (2 ^ w.toNat - 1))) h1 ⟨Nat.zero_lt_one, by omega, by omega⟩
    have ne : R ≠ [] := List.cons_ne_nil _ _
    have et : tr R = .d false (.w 0) (min 10 (2 ^ w.toNat - 1)) := rfl
    have okt := tr_ok ne wf
    have g : Gs w R := ⟨wf, ne, by show 2 ≤ 20; decide, w1, w2, Sm.ok_le (by decide) okt, by rw [et]; show 2 ≤ 100; decide, by rw [et]; show 2 ≤ 18; decide⟩
    have f2 := eq_law_built ne wf (by show 2 ≤ 900; decide)
    refine ⟨R, u, ?_, g, U.mono (by have : (6 : Int).toNat = 6 := rfl; omega)⟩
    have rl : R.map Rw.D = [.tuple [.str (Str.ofString "word"), .int 0], .tuple [.str (Str.ofString "over"), .int 0, .int (min 10 (2 ^ w.toNat - 1))]] := rfl
    unfold sD
    unfold bD at f2
    rw [rl] at f2 ⊢
    rw [φ__law_sum, run_ap _ _ _ _ _ (by rfl), m__law_sum]
    show runR 2 [0, 1] _ (sSeq _ _ (st t none none none none none)) = _
    rw [seq_ok E]
    generalize (tr R).D = td at *
    generalize hM : min 10 ((2 : Int) ^ w.toNat - 1) = Mv at *
    simp -implicitDefEqProofs [st, tw, hM, f2, finSl, List.range, List.range.loop]
  · refine ⟨R, u, ?_, g, U⟩
    rw [φ__law_sum, run_ap _ _ _ _ _ (by rfl), m__law_sum]
    show runR 2 [0, 1] _ (sSeq _ _ (st t none none none none none)) = _
    rw [sSeq_ap, E]
    rfl
theorem Gs.ok3 {R : List Rw} (g : Gs w R) : (tr R).ok (2 ^ w.toNat - 1) 3 := tr_ok g.ne g.wf
theorem Gs.rowsw {R : List Rw} (g : Gs w R) : 0 ≤ mw ((tr R).rows []) ∧ mw ((tr R).rows []) ≤ 3 := mw_b (rows_wf _ [] g.ok3 (fun i r h => by simp at h)) (by decide)
theorem Gs.mw3 {R : List Rw} (g : Gs w R) : mw R ≤ 3 := (mw_b g.wf (by decide)).2
end
theorem ok_mw {T m b : Int} : ∀ (s : Sm) (R : List Rw), s.ok T m → (∀ k, Rw.w k ∈ s.rows R → k < b) → s.ok T b
  | .w k, R, h, g => ⟨h.1, g k (by show Rw.w k ∈ R ++ [Rw.w k]; simp)⟩
  | .n v, R, h, g => h
  | .o q x y, R, h, g => by
    obtain ⟨S, e⟩ := rows_pre y (x.rows R)
    refine ⟨ok_mw x R h.1 fun k hk => g k ?_, ok_mw y (x.rows R) h.2 fun k hk => g k ?_⟩
    · show Rw.w k ∈ y.rows (x.rows R) ++ _
      rw [e]
      exact List.mem_append_left _ (List.mem_append_left _ hk)
    · exact List.mem_append_left _ hk
  | .d q x c, R, h, g => ⟨ok_mw x R h.1 fun k hk => g k (List.mem_append_left _ hk), h.2⟩
theorem ok_own {T m : Int} {s : Sm} (h : s.ok T m) : s.ok T (mw (s.rows [])) := ok_mw s [] h fun k hk => by
  obtain ⟨i, hi, e⟩ := List.mem_iff_getElem.mp hk
  exact lt_mw (i := i) (by rw [List.getElem?_eq_getElem hi, e])
theorem getD_take {l : List Int} {k i : Nat} (h : i < k) : (l.take k).getD i 0 = l.getD i 0 := by
  rw [List.getD_eq_getElem?_getD, List.getD_eq_getElem?_getD, List.getElem?_take_of_lt h]
theorem fold_take {M T m : Int} {ws : List Int} : ∀ {s : Sm}, s.ok T m → s.fold (vA M (ws.take m.toNat)) = s.fold (vA M ws)
  | .w k, h => getD_take (by have := h.1; have := h.2; omega)
  | .n v, _ => rfl
  | .o q a b, h => by
    show op2 M q (a.fold _) (b.fold _) = op2 M q (a.fold _) (b.fold _)
    rw [fold_take h.1, fold_take h.2]
  | .d q a c, h => by
    show opd q (a.fold _) c = opd q (a.fold _) c
    rw [fold_take h.1]
end L41

set_option linter.all false
set_option maxRecDepth 100000
set_option exponentiation.threshold 10000
namespace L41
open PySem PySem.Spec L2 DL
/-! ## the law's statements -/
open SM
section
variable {w : Int} {R : List Rw} {ws : List Int}
theorem oT_l (xs : List PyData) : oTuple (.list xs) = some (.tuple xs) := rfl
theorem q2_ok (S : Q) (n : Nat) (t : List PyData) (T : Tin n t) (hn : n ≤ 1000000) (ht : S.tin_ = some (.l t)) :
    ∃ w t', q2 S.sl = .ok .nx ({S with tin_ := some (.l t'), w_ := dI w}).sl ∧ 1 ≤ w ∧ w ≤ 64 ∧ Tin (n + 3) t' := by
  obtain ⟨w, t1, e1, a1, b1, T1⟩ := eq_wide n t T (by omega)
  exact ⟨w, t1, by simp -implicitDefEqProofs [Q.sl, q2, ht, e1], a1, b1, T1⟩
theorem q3_ok (S : Q) (w1 : 1 ≤ w) (w2 : w ≤ 64) (hw : S.w_ = dI w) : q3 S.sl = .ok .nx ({S with top_so_ := dI (2 ^ w.toNat - 1)}).sl := by
  have tw := eq_two w (by omega) (by omega)
  simp -implicitDefEqProofs [Q.sl, q3, hw, tw]
theorem q4_ok (S : Q) (n : Nat) (t : List PyData) (T : Tin n t) (hn : n ≤ 1000000) (ht : S.tin_ = some (.l t)) (w1 : 1 ≤ w) (w2 : w ≤ 64) (hw : S.w_ = dI w) :
    ∃ R t', q4 S.sl = .ok .nx ({S with tin_ := some (.l t'), own_ := some (.d (tr R).D), rows_so_ := some (.d (.list (R.map Rw.D)))}).sl ∧ Gs w R ∧ Tin (n + 500) t' := by
  obtain ⟨R, t', e, g, T'⟩ := eq_law_sum w1 w2 n t T (by omega)
  refine ⟨R, t', ?_, g, T'⟩
  unfold sD at e
  generalize R.map Rw.D = rl at *
  generalize (tr R).D = td at *
  simp -implicitDefEqProofs [Q.sl, q4, ht, hw, e]
theorem q5_ok (S : Q) (n : Nat) (t : List PyData) (T : Tin n t) (hn : n ≤ 1000000) (ht : S.tin_ = some (.l t)) (w1 : 1 ≤ w) (w2 : w ≤ 64) (hw : S.w_ = dI w) :
    ∃ (ws : List Int) (t' : List PyData), q5 S.sl = .ok .nx ({S with tin_ := some (.l t'), words_so_ := some (.d (.tuple (ws.map .int)))}).sl ∧ 3 ≤ ws.length ∧ ws.length ≤ 10 ∧ (∀ x ∈ ws, 0 ≤ x ∧ x < 2 ^ w.toNat) ∧ Tin (n + 51) t' := by
  obtain ⟨v, t1, e1, a1, b1, T1⟩ := eq_takeS n t 8 T (by omega) (by omega) (by omega)
  obtain ⟨ws, t2, e2, hl, hb, T2⟩ := eq_law_edges w1 w2 _ t1 (3 + v).toNat T1 (by omega) (by omega)
  have ev : (((3 + v).toNat : Nat) : Int) = 3 + v := by omega
  rw [ev] at e2
  refine ⟨ws, t2, ?_, by omega, by omega, hb, T2.mono (by omega)⟩
  generalize ws.map PyData.int = wl at *
  simp -implicitDefEqProofs [Q.sl, q5, ht, hw, e1, e2]
theorem same_i (a : Int) : φ__law_same 24 [dI a, dI a] = .ok (.d (.bool true)) [dI a, dI a] := eq_same 24 (.int a) (by show (0 : Nat) < 24; decide) rfl
theorem q7_ok (S : Q) (g : Gs w R) (hws : ∀ x ∈ ws, 0 ≤ x ∧ x < 2 ^ w.toNat) (h3 : 3 ≤ ws.length) (h10 : ws.length ≤ 10) (hw : S.w_ = dI w) (ho : S.own_ = some (.d (tr R).D)) (hr : S.rows_so_ = some (.d (.list (R.map Rw.D)))) (hs : S.words_so_ = some (.d (.tuple (ws.map .int)))) : q7 S.sl = .ok .nx S.sl := by
  have e1 := eq_is_sum g.ok
  have e2 := eq_sum_value g.ok hws (by have := g.rowsw; omega) h10
  have e3 := eq_law_worths g.ok.w1 g.ok.w2 hws g.wf (by have := g.mw3; omega) (by have := g.len; omega)
  obtain ⟨l, el⟩ := ev_last (vA (2 ^ w.toNat) ws) g.ne g.wf
  rw [el] at e3
  have la := last_D PyData.int l ((tr R).fold (vA (2 ^ w.toNat) ws))
  generalize (tr R).fold (vA (2 ^ w.toNat) ws) = v at *
  generalize (l ++ [v]).map PyData.int = vl at *
  have sm := eq_same 24 (.list [.bool true, .int v]) (by show (1 : Nat) < 24; decide) (by show (decide (2 ≤ sizeLine) && true) = true; decide +kernel)
  generalize R.map Rw.D = rl at *
  generalize ws.map PyData.int = wl at *
  generalize (tr R).D = td at *
  simp -implicitDefEqProofs [Q.sl, q7, hw, ho, hr, hs, e1, e2, e3, la, sm]
theorem q8_ok (S : Q) (g : Gs w R) (hw : S.w_ = dI w) (ho : S.own_ = some (.d (tr R).D)) : q8 S.sl = .ok .nx ({S with many_so_ := dI (mw ((tr R).rows []))}).sl := by
  have e1 := eq_words_of g.ok
  simp -implicitDefEqProofs [Q.sl, q8, hw, ho, e1]
theorem q10_ok (S : Q) (g : Gs w R) (hws : ∀ x ∈ ws, 0 ≤ x ∧ x < 2 ^ w.toNat) (h3 : 3 ≤ ws.length) (h10 : ws.length ≤ 10) (hw : S.w_ = dI w) (ho : S.own_ = some (.d (tr R).D)) (hm : S.many_so_ = dI (mw ((tr R).rows []))) (hs : S.words_so_ = some (.d (.tuple (ws.map .int)))) : q10 S.sl = .ok .nx S.sl := by
  have mb := g.rowsw
  have e2 := eq_sum_value g.ok hws (by omega) h10
  have e3 := eq_sum_value (ws := ws.take (mw ((tr R).rows [])).toNat) g.ok (fun x hx => hws x (List.mem_of_mem_take hx)) (by rw [List.length_take]; omega) (by rw [List.length_take]; omega)
  rw [fold_take (ok_own g.ok3), List.map_take] at e3
  have ch := cut_hi (xs := ws.map PyData.int) mb.1
  have s1 := same_i ((tr R).fold (vA (2 ^ w.toNat) ws))
  generalize (tr R).fold (vA (2 ^ w.toNat) ws) = v at *
  generalize mw ((tr R).rows []) = k at *
  generalize ws.map PyData.int = wl at *
  generalize (tr R).D = td at *
  generalize hX : wl.take k.toNat = wk at *
  have h0 := mb.1
  have h1 := mb.2
  simp -implicitDefEqProofs [Q.sl, q10, hw, ho, hm, hs, h0, h1, ch, e2, e3, s1]
/-! ### spans -/
theorem sort2 (x y : Int) : ∃ a b, sortS [x, y] = [a, b] ∧ a ≤ b ∧ (∀ p : Int → Prop, p x → p y → p a ∧ p b) := by
  by_cases h : x ≤ y
  · exact ⟨x, y, by simp [sortS, insS, h], h, fun p px py => ⟨px, py⟩⟩
  · exact ⟨y, x, by simp [sortS, insS, h], by omega, fun p px py => ⟨py, px⟩⟩
theorem q14_ok (S : Q) (n : Nat) (t : List PyData) (T : Tin n t) (hn : n ≤ 1000000) (ht : S.tin_ = some (.l t)) (w1 : 1 ≤ w) (w2 : w ≤ 64) (hw : S.w_ = dI w) (hT : S.top_so_ = dI (2 ^ w.toNat - 1)) (hs : S.spans_so_ = some (.l [])) (hK : NO S.k_) :
    ∃ (sp : List (Int × Int)) (t' : List PyData) (o10 o11 : Option C), NO o10 ∧ q14 S.sl = .ok .nx ({S with tin_ := some (.l t'), spans_so_ := some (.l (sp.map pD)), k_ := o10, pair_so_ := o11}).sl ∧ sp.length = 3 ∧ (∀ p ∈ sp, isSp (2 ^ w.toNat - 1) p) ∧ Tin (n + 40) t' := by
  let I : Nat → Sl → Prop := fun i ρ => ∃ (sp : List (Int × Int)) (t' : List PyData) (o10 o11 : Option C), NO o10 ∧ ρ = ({S with tin_ := some (.l t'), spans_so_ := some (.l (sp.map pD)), k_ := o10, pair_so_ := o11} : Q).sl ∧ sp.length = i ∧ (∀ p ∈ sp, isSp (2 ^ w.toNat - 1) p) ∧ Tin (n + i * 12) t' ∧ i ≤ 3
  have stp : ∀ i d ρ, (intsL 0 (3 : Int).toNat)[i]? = some d → I i ρ → ∃ ρ', M.bind (gN 10 d) (fun _ => sSeq q12 q13) ρ = .ok .nx ρ' ∧ I (i + 1) ρ' := by
    rintro i d ρ hd ⟨sp, u, o10, o11, _, rfl, hl, hb, U, hi⟩
    obtain ⟨hi2, rfl⟩ := intsL_at hd
    have hi3 : i < 3 := hi2
    have e0 : gN 10 (.int (0 + i)) ({S with tin_ := some (.l u), spans_so_ := some (.l (sp.map pD)), k_ := o10, pair_so_ := o11} : Q).sl = .ok () ({S with tin_ := some (.l u), spans_so_ := some (.l (sp.map pD)), k_ := some (.d (.int (0 + i))), pair_so_ := o11} : Q).sl := rfl
    rw [bind_ok e0]
    obtain ⟨vs, u1, f1, hvl, hvb, U1⟩ := eq_law_edges w1 w2 _ u 2 U (by omega) (by decide)
    have f1 : φ__law_edges [some (.l u), dI w, dI 2] = .ok (.d (.tuple (vs.map .int))) [some (.l u1), dI w, dI 2] := f1
    obtain ⟨x, y, rfl⟩ : ∃ x y, vs = [x, y] := by
      match vs, hvl with
      | [x, y], _ => exact ⟨x, y, rfl⟩
    obtain ⟨a, b, es, hab, hpq⟩ := sort2 x y
    obtain ⟨ha, hb'⟩ := hpq (fun z => 0 ≤ z ∧ z < 2 ^ w.toNat) (hvb x (by simp)) (hvb y (by simp))
    have so : oSortT (.tuple ([x, y].map .int)) = some (.l [.int a, .int b]) := by
      show (match intsD ([x, y].map .int) with
        | some ns => some (C.l ((sortS ns).map .int))
        | none => none) = _
      rw [intsD_m]
      show some (C.l ((sortS [x, y]).map .int)) = _
      rw [es]; rfl
    obtain ⟨v, u2, f2, v0, vb, U2⟩ := eq_takeS _ u1 50 U1 (by omega) (by omega) (by omega)
    obtain ⟨z, u3, f3, hz, U3⟩ := eq_of _ u2 [.int b, .int (min (2 ^ w.toNat - 1) (a + v))] U2 (by omega) (by simp) (by simp)
    obtain ⟨c, rfl, hc0, hc1⟩ : ∃ c : Int, z = .int c ∧ a ≤ c ∧ c ≤ 2 ^ w.toNat - 1 := by
      simp only [List.mem_cons, List.not_mem_nil, or_false] at hz
      rcases hz with h | h <;> exact ⟨_, h, by omega, by omega⟩
    refine ⟨_, ?_, sp ++ [(a, c)], u3, some (.d (.int (0 + i))), some (.d (.list [.int a, .int b])), NO_d _, rfl, by simp; omega, fun p hp => ?_, U3.mono (by omega), by omega⟩
    · have z' : (sp.map pD).length < sizeLine := sizeL_lt (by rw [List.length_map]; omega)
      have e : (sp ++ [(a, c)]).map pD = sp.map pD ++ [.tuple [.int a, .int c]] := by rw [List.map_append]; rfl
      rw [e]
      have g1 : q12 ({S with tin_ := some (.l u), spans_so_ := some (.l (sp.map pD)), k_ := some (.d (.int (0 + i))), pair_so_ := o11} : Q).sl = .ok .nx ({S with tin_ := some (.l u1), spans_so_ := some (.l (sp.map pD)), k_ := some (.d (.int (0 + i))), pair_so_ := some (.d (.list [.int a, .int b]))} : Q).sl := by
        generalize [x, y].map PyData.int = xy at *
        generalize sp.map pD = sl at *
        simp -implicitDefEqProofs [Q.sl, q12, hw, f1, so]
      rw [seq_ok g1]
      generalize sp.map pD = sl at *
      generalize hM : min ((2 : Int) ^ w.toNat - 1) (a + v) = M' at *
      generalize (2 : Int) ^ w.toNat - 1 = T' at *
      simp -implicitDefEqProofs [Q.sl, q13, hT, f2, hM, f3, lsAt_ap, z']
    · rcases List.mem_append.mp hp with h | h
      · exact hb p h
      · rw [List.mem_singleton.mp h]
        exact ⟨ha.1, hc0, hc1⟩
  obtain ⟨ρ', e, sp, u, o10, o11, hno, rfl, hl, hb, U, _⟩ := sForL_inv (g := gN 10) (b := sSeq q12 q13) (xs := intsL 0 (3 : Int).toNat) (ρ := S.sl) I ⟨[], t, S.k_, S.pair_so_, hK, by cases S; cases ht; cases hs; rfl, rfl, (fun p hp => by cases hp), T.mono (by omega), by decide⟩ stp
  refine ⟨sp, u, o10, o11, hno, ?_, hl, hb, U.mono (by have : (intsL 0 (3 : Int).toNat).length = 3 := intsL_len _ _; omega)⟩
  have hr : mRng1 (M.pure (.int 3)) S.sl = .ok (intsL 0 (3 : Int).toNat) S.sl := by
    have r := oRng1_i (j := 3) (by omega) (by omega)
    rw [mRng1_ap, pure_ap, then_ok, r]; rfl
  rw [q14]
  exact sFor_ok hr e

theorem q15_ok (S : Q) (g : Gs w R) {sp : List (Int × Int)} (hl : sp.length = 3) (hb : ∀ p ∈ sp, isSp (2 ^ w.toNat - 1) p) (hw : S.w_ = dI w) (hr : S.rows_so_ = some (.d (.list (R.map Rw.D)))) (hs : S.spans_so_ = some (.l (sp.map pD))) : q15 S.sl = .ok .nx ({S with spans_so_ := some (.d (.list (sp.map pD))), wide_so_ := some (.d (pD ((tr R).fold (sA (2 ^ w.toNat - 1) sp))))}).sl := by
  have e3 := eq_law_spans g.ok.w1 g.ok.w2 hb g.wf (by have := g.mw3; omega) (by have := g.len; omega)
  obtain ⟨l, el⟩ := ev_last (sA (2 ^ w.toNat - 1) sp) g.ne g.wf
  rw [el] at e3
  have la := last_D pD l ((tr R).fold (sA (2 ^ w.toNat - 1) sp))
  generalize (l ++ [(tr R).fold (sA (2 ^ w.toNat - 1) sp)]).map pD = vl at *
  generalize pD ((tr R).fold (sA (2 ^ w.toNat - 1) sp)) = v at *
  generalize R.map Rw.D = rl at *
  generalize sp.map pD = sl at *
  simp -implicitDefEqProofs [Q.sl, q15, hw, hr, hs, e3, la]
theorem q17_ok (S : Q) (g : Gs w R) {sp : List (Int × Int)} (hl : sp.length = 3) (hb : ∀ p ∈ sp, isSp (2 ^ w.toNat - 1) p) (hw : S.w_ = dI w) (ho : S.own_ = some (.d (tr R).D)) (hs : S.spans_so_ = some (.d (.list (sp.map pD)))) (hx : S.wide_so_ = some (.d (pD ((tr R).fold (sA (2 ^ w.toNat - 1) sp))))) : q17 S.sl = .ok .nx S.sl := by
  have e := eq_sum_span g.ok hb (by have := g.rowsw; omega) (by omega)
  have sm := eq_same 24 (pD ((tr R).fold (sA (2 ^ w.toNat - 1) sp))) (by show (1 : Nat) < 24; decide) (by show (decide (2 ≤ sizeLine) && true) = true; decide +kernel)
  generalize pD ((tr R).fold (sA (2 ^ w.toNat - 1) sp)) = v at *
  generalize sp.map pD = sl at *
  generalize (tr R).D = td at *
  simp -implicitDefEqProofs [Q.sl, q17, hw, ho, hs, hx, e, sm, oT_l]
end
end L41

set_option linter.all false
set_option maxRecDepth 100000
set_option exponentiation.threshold 10000
namespace L41
open PySem PySem.Spec L2 DL
/-! ## words drawn within the spans -/
open SM
section
variable {w : Int} {R : List Rw} {ws : List Int}
theorem getD_snoc_lt {α : Type} {l : List α} {a z : α} {i : Nat} (h : i < l.length) : (l ++ [a]).getD i z = l.getD i z := getD_pre h
theorem q18_ok (S : Q) (n : Nat) (t : List PyData) (T : Tin n t) (hn : n ≤ 2000000) (ht : S.tin_ = some (.l t)) {sp : List (Int × Int)} (hl : sp.length = 3) (hb : ∀ p ∈ sp, isSp (2 ^ w.toNat - 1) p) (w2 : w ≤ 64) (hs : S.spans_so_ = some (.d (.list (sp.map pD)))) (hA : NO S.a_) (hB : NO S.b_) :
    ∃ (ds : List Int) (t' : List PyData), q18 S.sl = .ok .nx ({S with tin_ := some (.l t'), drawn_so_ := some (.d (.tuple (ds.map .int)))}).sl ∧ ds.length = sp.length ∧ (∀ i, i < ds.length → inSp (ds.getD i 0) (sp.getD i (0, 0))) ∧ Tin (n + 6) t' := by
  have p64 := pow_le64 (n := w.toNat) (by omega)
  let E : M PyData := (mFrz (mCall φ__law_of (mSeqA [(agV 1), (agD (mFrz (mLst [(mVar 19), (mVar 20), (lift2 oAdd (mVar 19) (mFrz (mCall φ__law_take (mSeqA [(agV 1), (agD (lift2 oAdd (lift2 oSub (mVar 20) (mVar 19)) (M.pure (.int 1))))]))))])))])))
  let I : Nat → List PyData → Sl → Prop := fun j acc ρ => ∃ (t' : List PyData) (ds : List Int), ρ = ({S with tin_ := some (.l t'), a_ := none, b_ := none} : Q).sl ∧ acc = ds.map .int ∧ ds.length = j ∧ j ≤ 3 ∧ (∀ i, i < j → inSp (ds.getD i 0) (sp.getD i (0, 0))) ∧ Tin (n + j * 2) t'
  have stp : ∀ j x acc ρ, (sp.map pD)[j]? = some x → I j acc ρ → ∃ o ρ', lcStep (gT [(gN 19), (gN 20)]) mYes E x ρ = .ok o ρ' ∧ I (j + 1) (acc ++ o.toList) (wipeS ρ' [19, 20]) := by
    rintro j x acc ρ hx ⟨u, ds, rfl, rfl, hdl, hj, hin, U⟩
    rw [List.getElem?_map] at hx
    cases hq : sp[j]? with
    | none => rw [hq] at hx; cases hx
    | some q =>
      rw [hq] at hx
      cases hx
      obtain ⟨a, b⟩ := q
      have hj3 : j < 3 := by have := (List.getElem?_eq_some_iff.mp hq).1; omega
      obtain ⟨h0, h1, h2⟩ := hb (a, b) (List.mem_of_getElem? hq)
      simp only at h0 h1 h2
      obtain ⟨v1, u1, f1, c0, c1, U1⟩ := eq_takeS _ u (b - a + 1) U (by omega) (by omega) (by omega)
      obtain ⟨y, u2, f2, hy, U2⟩ := eq_of _ u1 [.int a, .int b, .int (a + v1)] U1 (by omega) (by simp) (by simp)
      obtain ⟨v, rfl, v0, v1'⟩ : ∃ v : Int, y = .int v ∧ a ≤ v ∧ v ≤ b := by
        simp only [List.mem_cons, List.not_mem_nil, or_false] at hy
        rcases hy with h | h | h <;> exact ⟨_, h, by omega, by omega⟩
      refine ⟨some (.int v), ({S with tin_ := some (.l u2), a_ := dI a, b_ := dI b} : Q).sl, lcStep_ok (g := gT [(gN 19), (gN 20)]) (show gT [(gN 19), (gN 20)] (pD (a, b)) ({S with tin_ := some (.l u), a_ := none, b_ := none} : Q).sl = .ok () ({S with tin_ := some (.l u), a_ := dI a, b_ := dI b} : Q).sl from rfl) rfl ?_, u2, ds ++ [v], rfl, by rw [List.map_append]; rfl, by simp [hdl], by omega, fun i hi => ?_, U2.mono (by omega)⟩
      · generalize hX : b - a + 1 = X at *
        simp -implicitDefEqProofs [E, Q.sl, f1, f2, hX]
      · rcases Nat.lt_or_ge i j with c | c
        · rw [getD_pre (by omega)]
          exact hin i c
        · have : i = j := by omega
          subst this
          have e1 : (ds ++ [v]).getD i 0 = v := by rw [← hdl]; exact getD_last
          have e2 : sp.getD i (0, 0) = (a, b) := by rw [List.getD_eq_getElem?_getD, hq]; rfl
          rw [e1, e2]
          exact ⟨v0, v1'⟩
  obtain ⟨acc, ρ1, e1, u, ds, rfl, rfl, hdl, _, hin, U⟩ := mLcL_inv (acc := []) (ρ := ({S with tin_ := some (.l t), a_ := none, b_ := none} : Q).sl) I ⟨t, [], rfl, rfl, rfl, Nat.zero_le _, (fun i hi => absurd hi (Nat.not_lt_zero _)), T.mono (by omega)⟩ (by rw [List.length_map]; exact Nat.le_of_lt (sizeL_lt (by simp; omega))) stp
  rw [List.length_map] at hdl hin U
  refine ⟨ds, u, ?_, hdl, fun i hi => hin i (by omega), U.mono (by omega)⟩
  have eS : ({S with tin_ := some (.l t)} : Q) = S := by cases S; cases ht; rfl
  have hm : mItems (mVarF 9) S.sl = .ok (sp.map pD) S.sl := by
    generalize sp.map pD = sl at *
    simp -implicitDefEqProofs [Q.sl, hs]
  have hno : noOwn [19, 20] S.sl = true := by
    have n1 : ∀ o : Option C, NO o → (match (some o : Option (Option C)) with | some (some c) => !c.own | _ => true) = true := fun o ho => by
      cases o with
      | none => rfl
      | some c =>
        show (!c.own) = true
        rw [ho c rfl]; rfl
    show ((match (some S.a_ : Option (Option C)) with | some (some c) => !c.own | _ => true) && ((match (some S.b_ : Option (Option C)) with | some (some c) => !c.own | _ => true) && true)) = true
    rw [n1 _ hA, n1 _ hB]; rfl
  have hw : wipeS S.sl [19, 20] = ({S with tin_ := some (.l t), a_ := none, b_ := none} : Q).sl := by
    show ({S with a_ := none, b_ := none} : Q).sl = _
    rw [← ht]
  have e1' : mLcL [19, 20] (gT [(gN 19), (gN 20)]) mYes E (sp.map pD) [] (wipeS S.sl [19, 20]) = .ok (ds.map .int) ({S with tin_ := some (.l u), a_ := none, b_ := none} : Q).sl := by rw [hw]; exact e1
  have e2 := mLc_ok hm hno e1'
  have er : restS [19, 20] S.sl ({S with tin_ := some (.l u), a_ := none, b_ := none} : Q).sl = ({S with tin_ := some (.l u)} : Q).sl := rfl
  rw [er] at e2
  rw [q18, sSet_ap, mDat_ap, lift1_ap, mFrz_ap, e2]
  rfl
theorem getD_lt {l : List Int} {P : Int → Prop} (h : ∀ i, i < l.length → P (l.getD i 0)) : ∀ x ∈ l, P x := fun x hx => by
  obtain ⟨i, hi, e⟩ := List.mem_iff_getElem.mp hx
  have := h i hi
  rw [List.getD_eq_getElem?_getD, List.getElem?_eq_getElem hi, e] at this
  exact this
theorem q20_ok (S : Q) (g : Gs w R) {sp : List (Int × Int)} (hl : sp.length = 3) (hb : ∀ p ∈ sp, isSp (2 ^ w.toNat - 1) p) {ds : List Int} (hd : ds.length = sp.length) (hin : ∀ i, i < ds.length → inSp (ds.getD i 0) (sp.getD i (0, 0))) (hw : S.w_ = dI w) (hr : S.rows_so_ = some (.d (.list (R.map Rw.D)))) (hx : S.wide_so_ = some (.d (pD ((tr R).fold (sA (2 ^ w.toNat - 1) sp))))) (hs : S.drawn_so_ = some (.d (.tuple (ds.map .int)))) : q20 S.sl = .ok .nx S.sl := by
  have p1 := one_le_pow w.toNat
  have db : ∀ x ∈ ds, 0 ≤ x ∧ x < 2 ^ w.toNat := getD_lt fun i hi => by
    obtain ⟨h1, h2⟩ := hin i hi
    have z : isSp (2 ^ w.toNat - 1) (0, 0) := ⟨Int.le_refl _, Int.le_refl _, by show 0 ≤ _; omega⟩
    obtain ⟨a1, a2, a3⟩ := getD_all hb z i
    omega
  have e3 := eq_law_worths g.ok.w1 g.ok.w2 db g.wf (by have := g.mw3; omega) (by have := g.len; omega)
  obtain ⟨l, el⟩ := ev_last (vA (2 ^ w.toNat) ds) g.ne g.wf
  rw [el] at e3
  have la := last_D PyData.int l ((tr R).fold (vA (2 ^ w.toNat) ds))
  have fi := fold_in (M := 2 ^ w.toNat) (T := 2 ^ w.toNat - 1) rfl (by omega) hb hd hin g.ok3
  obtain ⟨f1, f2⟩ := fi
  generalize (tr R).fold (vA (2 ^ w.toNat) ds) = v at *
  generalize (tr R).fold (sA (2 ^ w.toNat - 1) sp) = q at *
  obtain ⟨a, b⟩ := q
  simp only at f1 f2
  generalize (l ++ [v]).map PyData.int = vl at *
  generalize R.map Rw.D = rl at *
  generalize ds.map PyData.int = dl at *
  simp -implicitDefEqProofs [Q.sl, q20, hw, hr, hx, hs, pD, e3, la, f1, f2]
theorem q21_ok (S : Q) (n : Nat) (t : List PyData) (T : Tin n t) (hn : n ≤ 1000000) (ht : S.tin_ = some (.l t)) (g : Gs w R) {sp : List (Int × Int)} (hl : sp.length = 3) (hb : ∀ p ∈ sp, isSp (2 ^ w.toNat - 1) p) (hw : S.w_ = dI w) (hr : S.rows_so_ = some (.d (.list (R.map Rw.D)))) (hs : S.spans_so_ = some (.d (.list (sp.map pD)))) (hx : S.wide_so_ = some (.d (pD ((tr R).fold (sA (2 ^ w.toNat - 1) sp))))) (hA : NO S.a_) (hB : NO S.b_) :
    ∃ (t' : List PyData) (o1 o2 : Option C), q21 S.sl = .ok .nx ({S with tin_ := some (.l t'), turn_ := o1, drawn_so_ := o2}).sl ∧ Tin (n + 40) t' := by
  let I : Nat → Sl → Prop := fun i ρ => ∃ (t' : List PyData) (o1 o2 : Option C), ρ = ({S with tin_ := some (.l t'), turn_ := o1, drawn_so_ := o2} : Q).sl ∧ Tin (n + i * 6) t' ∧ i ≤ 6
  have stp : ∀ i d ρ, (intsL 0 (6 : Int).toNat)[i]? = some d → I i ρ → ∃ ρ', M.bind (gN 13 d) (fun _ => sSeq q18 q20) ρ = .ok .nx ρ' ∧ I (i + 1) ρ' := by
    rintro i d ρ hd ⟨u, o1, o2, rfl, U, hi⟩
    obtain ⟨hi2, rfl⟩ := intsL_at hd
    have hi6 : i < 6 := hi2
    have e0 : gN 13 (.int (0 + i)) ({S with tin_ := some (.l u), turn_ := o1, drawn_so_ := o2} : Q).sl = .ok () ({S with tin_ := some (.l u), turn_ := some (.d (.int (0 + i))), drawn_so_ := o2} : Q).sl := rfl
    rw [bind_ok e0]
    obtain ⟨ds, u1, f1, hdl, hin, U1⟩ := q18_ok (w := w) {S with tin_ := some (.l u), turn_ := some (.d (.int (0 + i))), drawn_so_ := o2} _ u U (by omega) rfl hl hb g.ok.w2 hs hA hB
    have f2 := q20_ok {S with tin_ := some (.l u1), turn_ := some (.d (.int (0 + i))), drawn_so_ := some (.d (.tuple (ds.map .int)))} g hl hb hdl hin hw hr hx rfl
    exact ⟨_, (seq_ok f1).trans f2, u1, _, _, rfl, U1.mono (by omega), by omega⟩
  obtain ⟨ρ', e, u, o1, o2, rfl, U, _⟩ := sForL_inv (g := gN 13) (b := sSeq q18 q20) (xs := intsL 0 (6 : Int).toNat) (ρ := S.sl) I ⟨t, S.turn_, S.drawn_so_, by cases S; cases ht; rfl, T.mono (by omega), by decide⟩ stp
  refine ⟨u, o1, o2, ?_, U.mono (by have : (intsL 0 (6 : Int).toNat).length = 6 := intsL_len _ _; omega)⟩
  have hr' : mRng1 (M.pure (.int 6)) S.sl = .ok (intsL 0 (6 : Int).toNat) S.sl := by
    have r := oRng1_i (j := 6) (by omega) (by omega)
    rw [mRng1_ap, pure_ap, then_ok, r]; rfl
  rw [q21]
  exact sFor_ok hr' e
end
end L41

set_option linter.all false
set_option maxRecDepth 100000
set_option exponentiation.threshold 10000
namespace L41
open PySem PySem.Spec L2 DL
/-! ## sums put into a small one -/
open SM
section
variable {w : Int} {ws : List Int}
def smS (c : Int) : Sm := .o .plus (.d true (.w 0) c) (.o .least (.w 1) (.w 2))
theorem q22_ok (S : Q) (n : Nat) (t : List PyData) (T : Tin n t) (hn : n ≤ 900000) (ht : S.tin_ = some (.l t)) (w1 : 1 ≤ w) (w2 : w ≤ 64) (hw : S.w_ = dI w) (hK : NO S.k_) :
    ∃ (A B D : List Rw) (t' : List PyData), q22 S.sl = .ok .nx ({S with tin_ := some (.l t'), parts_so_ := some (.d (.list [sD A, sD B, sD D]))}).sl ∧ Gs w A ∧ Gs w B ∧ Gs w D ∧ Tin (n + 1500) t' := by
  obtain ⟨A, t1, e1, gA, T1⟩ := eq_law_sum w1 w2 n t T (by omega)
  obtain ⟨B, t2, e2, gB, T2⟩ := eq_law_sum w1 w2 _ t1 T1 (by omega)
  obtain ⟨D, t3, e3, gD, T3⟩ := eq_law_sum w1 w2 _ t2 T2 (by omega)
  refine ⟨A, B, D, t3, ?_, gA, gB, gD, T3⟩
  have z0 : 0 < sizeLine := sizeL_lt (by decide)
  have z1 : 1 < sizeLine := sizeL_lt (by decide)
  have z2 : 2 < sizeLine := sizeL_lt (by decide)
  have r3 : oRng1 (.int 3) = some [.int 0, .int 1, .int 2] := by
    have r := oRng1_i (j := 3) (by omega) (by omega)
    exact r
  have hno : noOwn [10] S.sl = true := by
    have n1 : ∀ o : Option C, NO o → (match (some o : Option (Option C)) with | some (some c) => !c.own | _ => true) = true := fun o ho => by
      cases o with
      | none => rfl
      | some c =>
        show (!c.own) = true
        rw [ho c rfl]; rfl
    show ((match (some S.k_ : Option (Option C)) with | some (some c) => !c.own | _ => true) && true) = true
    rw [n1 _ hK]; rfl
  have hm : mRng1 (M.pure (.int 3)) S.sl = .ok [.int 0, .int 1, .int 2] S.sl := by rw [mRng1_ap, pure_ap, then_ok, r3]; rfl
  generalize sD A = x at *
  generalize sD B = y at *
  generalize sD D = z at *
  have e4 : mLcL [10] (gN 10) mYes (mFrz (mCall φ__law_sum (mSeqA [(agV 1), (agD (mVar 3))]))) [.int 0, .int 1, .int 2] [] (wipeS S.sl [10]) = .ok [x, y, z] ({S with tin_ := some (.l t3), k_ := none} : Q).sl := by
    have hwp : wipeS S.sl [10] = ({S with k_ := none} : Q).sl := rfl
    rw [hwp]
    simp -implicitDefEqProofs [mLcL, Q.sl, ht, hw, e1, e2, e3, z0, z1, z2, wipeS]
  have e5 := mLc_ok hm hno e4
  have er : restS [10] S.sl ({S with tin_ := some (.l t3), k_ := none} : Q).sl = ({S with tin_ := some (.l t3)} : Q).sl := rfl
  rw [er] at e5
  rw [q22, sSet_ap, mDat_ap, mFrz_ap, e5]
  rfl
theorem q23_ok (S : Q) (n : Nat) (t : List PyData) (T : Tin n t) (hn : n ≤ 1000000) (ht : S.tin_ = some (.l t)) (w1 : 1 ≤ w) (w2 : w ≤ 64) (hT : S.top_so_ = dI (2 ^ w.toNat - 1)) :
    ∃ (c : Int) (t' : List PyData), q23 S.sl = .ok .nx ({S with tin_ := some (.l t'), small_so_ := some (.d (smS c).D)}).sl ∧ 1 ≤ c ∧ c ≤ 2 ^ w.toNat - 1 ∧ Tin (n + 1) t' := by
  have p1 := two_le_pow (n := w.toNat) (by omega)
  have p64 := pow_le64 (n := w.toNat) (by omega)
  obtain ⟨v, t1, e1, a1, b1, T1⟩ := eq_takeS n t (min 9 (2 ^ w.toNat - 1)) T (by omega) (by omega) (by omega)
  refine ⟨1 + v, t1, ?_, by omega, by omega, T1⟩
  generalize hM : min 9 ((2 : Int) ^ w.toNat - 1) = M' at *
  generalize (2 : Int) ^ w.toNat - 1 = T' at *
  simp -implicitDefEqProofs [Q.sl, q23, ht, hT, hM, e1, smS, Sm.D, H2.s, H1]
theorem its_ok {S : Q} (hI : NO S.its_) {e : M PyData} {mi : M (List PyData)} {x y z x' y' z' : PyData} (hm : mi S.sl = .ok [x, y, z] S.sl)
    (h1 : e ({S with its_ := some (.d x)} : Q).sl = .ok x' ({S with its_ := some (.d x)} : Q).sl) (h2 : e ({S with its_ := some (.d y)} : Q).sl = .ok y' ({S with its_ := some (.d y)} : Q).sl) (h3 : e ({S with its_ := some (.d z)} : Q).sl = .ok z' ({S with its_ := some (.d z)} : Q).sl) :
    mFrz (mLc [25] mi (gN 25) mYes e) S.sl = .ok (.list [x', y', z']) S.sl := by
  have z0 : ([] : List PyData).length < sizeLine := sizeL_lt (by simp)
  have z1 : ([x'] : List PyData).length < sizeLine := sizeL_lt (by simp)
  have z2 : ([x', y'] : List PyData).length < sizeLine := sizeL_lt (by simp)
  have hno : noOwn [25] S.sl = true := by
    have n1 : ∀ o : Option C, NO o → (match (some o : Option (Option C)) with | some (some c) => !c.own | _ => true) = true := fun o ho => by
      cases o with
      | none => rfl
      | some c =>
        show (!c.own) = true
        rw [ho c rfl]; rfl
    show ((match (some S.its_ : Option (Option C)) with | some (some c) => !c.own | _ => true) && true) = true
    rw [n1 _ hI]; rfl
  have s1 : lcStep (gN 25) mYes e x ({S with its_ := none} : Q).sl = .ok (some x') ({S with its_ := some (.d x)} : Q).sl := lcStep_ok (g := gN 25) (show gN 25 x ({S with its_ := none} : Q).sl = .ok () ({S with its_ := some (.d x)} : Q).sl from rfl) rfl h1
  have s2 : lcStep (gN 25) mYes e y ({S with its_ := none} : Q).sl = .ok (some y') ({S with its_ := some (.d y)} : Q).sl := lcStep_ok (g := gN 25) (show gN 25 y ({S with its_ := none} : Q).sl = .ok () ({S with its_ := some (.d y)} : Q).sl from rfl) rfl h2
  have s3 : lcStep (gN 25) mYes e z ({S with its_ := none} : Q).sl = .ok (some z') ({S with its_ := some (.d z)} : Q).sl := lcStep_ok (g := gN 25) (show gN 25 z ({S with its_ := none} : Q).sl = .ok () ({S with its_ := some (.d z)} : Q).sl from rfl) rfl h3
  have e4 : mLcL [25] (gN 25) mYes e [x, y, z] [] (wipeS S.sl [25]) = .ok [x', y', z'] ({S with its_ := none} : Q).sl := by
    show mLcL [25] (gN 25) mYes e [x, y, z] [] ({S with its_ := none} : Q).sl = _
    rw [mLcL_step s1 z0]
    show mLcL [25] (gN 25) mYes e [y, z] [x'] ({S with its_ := none} : Q).sl = _
    rw [mLcL_step s2 z1]
    show mLcL [25] (gN 25) mYes e [z] [x', y'] ({S with its_ := none} : Q).sl = _
    rw [mLcL_step s3 z2]
    rfl
  have e5 := mLc_ok hm hno e4
  have er : restS [25] S.sl ({S with its_ := none} : Q).sl = S.sl := rfl
  rw [er] at e5
  rw [mFrz_ap, e5]
  rfl
theorem q24_ok (S : Q) {A B D : List Rw} (gA : Gs w A) (gB : Gs w B) (gD : Gs w D) (hp : S.parts_so_ = some (.d (.list [sD A, sD B, sD D]))) (hI : NO S.its_) : q24 S.sl = .ok .nx ({S with sizes_so_ := some (.d (.list [bD (tr A), bD (tr B), bD (tr D)]))}).sl := by
  have bu : ∀ {R : List Rw} (g : Gs w R), mFrz (mCall φ__law_built (mSeqA [(agD (lift2 oIx (mVar 25) (M.pure (.int 1))))])) ({S with its_ := some (.d (sD R))} : Q).sl = .ok (bD (tr R)) ({S with its_ := some (.d (sD R))} : Q).sl := fun {R} g => by
    have e := eq_law_built g.ne g.wf (by have := g.len; omega)
    unfold sD
    generalize bD (tr R) = b at *
    generalize R.map Rw.D = rl at *
    simp -implicitDefEqProofs [Q.sl, e]
  have hm : mItems (mVar 15) S.sl = .ok [sD A, sD B, sD D] S.sl := by
    simp -implicitDefEqProofs [Q.sl, hp]
  have e := its_ok hI hm (bu gA) (bu gB) (bu gD)
  rw [q24, sSet_ap, mDat_ap, e]
  rfl
theorem smS_rows (c : Int) : mw ((smS c).rows []) = 3 := rfl
theorem q29_ok (S : Q) {A B D : List Rw} (gA : Gs w A) (gB : Gs w B) (gD : Gs w D) (hws : ∀ x ∈ ws, 0 ≤ x ∧ x < 2 ^ w.toNat) (h3 : 3 ≤ ws.length) (h10 : ws.length ≤ 10) {c : Int} (c1 : 1 ≤ c) (c2 : c ≤ 2 ^ w.toNat - 1) (hw : S.w_ = dI w) (hT : S.top_so_ = dI (2 ^ w.toNat - 1)) (hwd : S.words_so_ = some (.d (.tuple (ws.map .int)))) (hp : S.parts_so_ = some (.d (.list [sD A, sD B, sD D]))) (hsm : S.small_so_ = some (.d (smS c).D)) (hz : S.sizes_so_ = some (.d (.list [bD (tr A), bD (tr B), bD (tr D)]))) (hI : NO S.its_) (hA : NO S.a_) (hB : NO S.b_) :
    ∃ (o1 o2 o3 o4 : Option C), q29 S.sl = .ok .nx ({S with far_so_ := o1, a_ := o2, b_ := o3, c_ := o4}).sl ∧ NO o2 ∧ NO o3 := by
  have p1 := two_le_pow (n := w.toNat) (by have := gA.ok.w1; omega)
  have p64 := pow_le64 (n := w.toNat) (by have := gA.ok.w2; omega)
  have mz : mItems (mVar 17) S.sl = .ok [bD (tr A), bD (tr B), bD (tr D)] S.sl := by simp -implicitDefEqProofs [Q.sl, hz]
  have mp : mItems (mVar 15) S.sl = .ok [sD A, sD B, sD D] S.sl := by simp -implicitDefEqProofs [Q.sl, hp]
  have i1 : ∀ s : Sm, lift2 oIx (mVar 25) (M.pure (.int 1)) ({S with its_ := some (.d (bD s))} : Q).sl = .ok (.int s.sz) ({S with its_ := some (.d (bD s))} : Q).sl := fun s => rfl
  have i2 : ∀ s : Sm, lift2 oIx (mVar 25) (M.pure (.int 2)) ({S with its_ := some (.d (bD s))} : Q).sl = .ok (.int s.dp) ({S with its_ := some (.d (bD s))} : Q).sl := fun s => rfl
  have i0 : ∀ R : List Rw, lift2 oIx (mVar 25) (M.pure (.int 0)) ({S with its_ := some (.d (sD R))} : Q).sl = .ok (tr R).D ({S with its_ := some (.d (sD R))} : Q).sl := fun R => rfl
  have l1 := its_ok hI mz (i1 (tr A)) (i1 (tr B)) (i1 (tr D))
  have l2 := its_ok hI mz (i2 (tr A)) (i2 (tr B)) (i2 (tr D))
  have su : oSum (.list [.int (tr A).sz, .int (tr B).sz, .int (tr D).sz]) = some (.int ((tr A).sz + ((tr B).sz + ((tr D).sz + 0)))) := rfl
  have mx : oMaxL (.list [.int (tr A).dp, .int (tr B).dp, .int (tr D).dp]) = some (.int (maxI (tr A).dp [((tr B).dp : Int), ((tr D).dp : Int)])) := rfl
  have t1 : lift2 oLt (lift1 oSum (mFrz (mLc [25] (mItems (mVar 17)) (gN 25) mYes (lift2 oIx (mVar 25) (M.pure (.int 1)))))) (M.pure (.int 95)) S.sl = .ok (decide (((tr A).sz : Int) + ((tr B).sz + ((tr D).sz + 0)) < 95)) S.sl := by
    rw [lift2_ap, lift1_ap, l1, then_ok, su]; rfl
  have t2 : lift2 oLt (lift1 oMaxL (mFrz (mLc [25] (mItems (mVar 17)) (gN 25) mYes (lift2 oIx (mVar 25) (M.pure (.int 2)))))) (M.pure (.int 16)) S.sl = .ok (decide (maxI (tr A).dp [((tr B).dp : Int), ((tr D).dp : Int)] < 16)) S.sl := by
    rw [lift2_ap, lift1_ap, l2, then_ok, mx]; rfl
  by_cases h1 : ((tr A).sz : Int) + ((tr B).sz + ((tr D).sz + 0)) < 95
  · by_cases h2 : maxI (tr A).dp [((tr B).dp : Int), ((tr D).dp : Int)] < 16
    · -- the sum that is told
      have lm := le_maxI [((tr B).dp : Int), ((tr D).dp : Int)] ((tr A).dp : Int)
      have dA : ((tr A).dp : Int) < 16 := by have := lm.1; omega
      have dB : ((tr B).dp : Int) < 16 := by have := lm.2 ((tr B).dp : Int) (by simp); omega
      have dD : ((tr D).dp : Int) < 16 := by have := lm.2 ((tr D).dp : Int) (by simp); omega
      have ef : (smS c).fold (pA [tr A, tr B, tr D]) = .o .plus (.d true (tr A) c) (.o .least (tr B) (tr D)) := rfl
      have Os : Ok w (smS c) := ⟨gA.ok.w1, gA.ok.w2, ⟨⟨⟨by decide, by decide⟩, c1, c2⟩, ⟨by decide, by decide⟩, by decide, by decide⟩, by show 6 ≤ 100; decide, by show 3 ≤ 18; decide⟩
      have O2 : Ok w ((smS c).fold (pA [tr A, tr B, tr D])) := by
        rw [ef]
        refine ⟨gA.ok.w1, gA.ok.w2, ⟨⟨gA.ok.ok, c1, c2⟩, gB.ok.ok, gD.ok.ok⟩, ?_, ?_⟩
        · show ((tr A).sz + 1) + ((tr B).sz + (tr D).sz + 1) + 1 ≤ 100
          omega
        · show max ((tr A).dp + 1) (max (tr B).dp (tr D).dp + 1) + 1 ≤ 18
          omega
      have ok3 : ((smS c).fold (pA [tr A, tr B, tr D])).ok (2 ^ w.toNat - 1) 3 := by
        rw [ef]; exact ⟨⟨gA.ok3, c1, c2⟩, gB.ok3, gD.ok3⟩
      have mw3 : mw (((smS c).fold (pA [tr A, tr B, tr D])).rows []) ≤ 3 := (mw_b (rows_wf _ [] ok3 (fun i r h => by simp at h)) (by decide)).2
      have e25 := eq_put_into (g := [tr A, tr B, tr D]) Os (fun x hx => by
        simp only [List.mem_cons, List.not_mem_nil, or_false] at hx
        rcases hx with h | h | h
        · rw [h]; exact gA.ok
        · rw [h]; exact gB.ok
        · rw [h]; exact gD.ok) (by rw [smS_rows]; show (3 : Int) ≤ ((3 : Nat) : Int); decide) (by show 3 ≤ 10; decide) O2
      have e28 := eq_sum_value O2 hws (by omega) h10
      have l0 := its_ok hI mp (i0 A) (i0 B) (i0 D)
      have ev : ((smS c).fold (pA [tr A, tr B, tr D])).fold (vA (2 ^ w.toNat) ws) = ((tr A).fold (vA (2 ^ w.toNat) ws) % c + min ((tr B).fold (vA (2 ^ w.toNat) ws)) ((tr D).fold (vA (2 ^ w.toNat) ws))) % 2 ^ w.toNat := rfl
      rw [ev] at e28
      generalize (smS c).fold (pA [tr A, tr B, tr D]) = F at *
      have wo : ∀ {R : List Rw} (g : Gs w R), lift2 oIx (mFrz (mCall φ__law_worths (mSeqA [(agD (mVar 3)), (agD (lift2 oIx (mVar 25) (M.pure (.int 1)))), (agD (mVar 7))]))) (lift1 oNeg (M.pure (.int 1))) ({S with far_so_ := some (.d F.D), its_ := some (.d (sD R))} : Q).sl = .ok (.int ((tr R).fold (vA (2 ^ w.toNat) ws))) ({S with far_so_ := some (.d F.D), its_ := some (.d (sD R))} : Q).sl := fun {R} g => by
        have e3 := eq_law_worths g.ok.w1 g.ok.w2 hws g.wf (by have := g.mw3; omega) (by have := g.len; omega)
        obtain ⟨l, el⟩ := ev_last (vA (2 ^ w.toNat) ws) g.ne g.wf
        rw [el] at e3
        have la := last_D PyData.int l ((tr R).fold (vA (2 ^ w.toNat) ws))
        generalize (tr R).fold (vA (2 ^ w.toNat) ws) = v at *
        generalize (l ++ [v]).map PyData.int = vl at *
        unfold sD
        generalize R.map Rw.D = rl at *
        generalize ws.map PyData.int = wl at *
        simp -implicitDefEqProofs [Q.sl, hw, hwd, e3, la]
      have g25 : q25 S.sl = .ok .nx ({S with far_so_ := some (.d F.D)} : Q).sl := by
        have tp : lift1 oTuple (mFrz (mLc [25] (mItems (mVar 15)) (gN 25) mYes (lift2 oIx (mVar 25) (M.pure (.int 0))))) S.sl = .ok (.tuple ([tr A, tr B, tr D].map Sm.D)) S.sl := by
          rw [lift1_ap, l0]; rfl
        generalize [tr A, tr B, tr D].map Sm.D = gl at *
        have v3 : mVar 3 S.sl = .ok (.int w) S.sl := by simp -implicitDefEqProofs [Q.sl, hw]
        have v16 : mVar 16 S.sl = .ok (smS c).D S.sl := by simp -implicitDefEqProofs [Q.sl, hsm]
        have ca := call3_ok (φ := φ_put_into) v3 v16 tp e25
        rw [q25, sSet_ap, mDat_ap, ca]
        rfl
      have mp' : mItems (mVar 15) ({S with far_so_ := some (.d F.D)} : Q).sl = .ok [sD A, sD B, sD D] ({S with far_so_ := some (.d F.D)} : Q).sl := by simp -implicitDefEqProofs [Q.sl, hp]
      have l3 := its_ok (S := {S with far_so_ := some (.d F.D)}) hI mp' (wo gA) (wo gB) (wo gD)
      generalize (tr A).fold (vA (2 ^ w.toNat) ws) = a at *
      generalize (tr B).fold (vA (2 ^ w.toNat) ws) = b at *
      generalize (tr D).fold (vA (2 ^ w.toNat) ws) = d at *
      have g26 : q26 ({S with far_so_ := some (.d F.D)} : Q).sl = .ok .nx ({S with far_so_ := some (.d F.D), a_ := dI a, b_ := dI b, c_ := dI d} : Q).sl := by
        show M.bind _ _ _ = _
        rw [bind_ok l3]
        rfl
      have g28 : q28 ({S with far_so_ := some (.d F.D), a_ := dI a, b_ := dI b, c_ := dI d} : Q).sl = .ok .nx ({S with far_so_ := some (.d F.D), a_ := dI a, b_ := dI b, c_ := dI d} : Q).sl := by
        have s1 := same_i ((a % c + min b d) % 2 ^ w.toNat)
        have et : (2 : Int) ^ w.toNat - 1 + 1 = 2 ^ w.toNat := by omega
        have cp : 0 < c := by omega
        have pp : 0 < (2 : Int) ^ w.toNat := by omega
        generalize hX : (a % c + min b d) % 2 ^ w.toNat = X at *
        generalize ws.map PyData.int = wl at *
        generalize F.D = fd at *
        simp -implicitDefEqProofs [Q.sl, q28, hw, hT, hwd, hsm, e28, smS, Sm.D, cp, et, pp, hX, s1]
      refine ⟨some (.d F.D), dI a, dI b, dI d, ?_, NO_d _, NO_d _⟩
      rw [q29, sIf_ap, tAnd_ap, t1, then_ok, decide_eq_true h1, if_pos rfl, t2, then_ok, decide_eq_true h2, if_pos rfl]
      exact (seq_ok g25).trans <| (seq_ok g26).trans g28
    · refine ⟨S.far_so_, S.a_, S.b_, S.c_, ?_, hA, hB⟩
      rw [q29, sIf_ap, tAnd_ap, t1, then_ok, decide_eq_true h1, if_pos rfl, t2, then_ok, decide_eq_false h2]
      rfl
  · refine ⟨S.far_so_, S.a_, S.b_, S.c_, ?_, hA, hB⟩
    rw [q29, sIf_ap, tAnd_ap, t1, then_ok, decide_eq_false h1]
    rfl
end
end L41

set_option linter.all false
set_option maxRecDepth 100000
set_option exponentiation.threshold 10000
namespace L41
open PySem PySem.Spec L2 DL
/-! ## what is no sum -/
open SM
def dpS : Nat → Sm
  | 0 => .w 0
  | n + 1 => .d false (dpS n) 1
def wdS : Nat → Sm
  | 0 => .n 0
  | n + 1 => .o .plus (wdS n) (wdS n)
abbrev wT (k : Int) : PyData := .tuple [.str (Str.ofString "word"), .int k]
def bad1 : List PyData := [.none, .tuple [], .tuple [.str (Str.ofString "word")], wT 10, wT (-1), .tuple [.str (Str.ofString "number"), .int 256], .tuple [.str (Str.ofString "over"), wT 0, .int 0], .tuple [.str (Str.ofString "over"), wT 0], .tuple [.str (Str.ofString "plus"), wT 0], .list [.str (Str.ofString "word"), .int 0], .tuple [.str (Str.ofString "times"), .int 3, .int 4]]
def bad2 : List PyData := [.tuple [.str (Str.ofString "over"), (dpS 17).D, .int 1], .tuple [.str (Str.ofString "Plus"), wT 0, wT 0], .tuple [.str (Str.ofString "rest"), wT 0, .int 256], .tuple [.str (Str.ofString "word"), .bool true]]
def bad3 : List PyData := [.tuple [.str (Str.ofString "least"), wT 0, .list [.str (Str.ofString "word"), .int 0]], .tuple [.str (Str.ofString "plus"), (wdS 6).D, wT 0, .int 1]]
def gd : List PyData := [(dpS 17).D, .tuple [.str (Str.ofString "plus"), .tuple [.str (Str.ofString "number"), .int 255], wT 9]]
def XS : List PyData := ((bad1 ++ bad2) ++ bad3) ++ [(wdS 6).D] ++ gd
def isG (x : PyData) : Bool := (sumRun (2 ^ (8 : Int).toNat - 1) 200 [(x, 1)] 0).getD false
theorem XS_ok : (XS.all fun x => shK 60 x && (sumRun (2 ^ (8 : Int).toNat - 1) 200 [(x, 1)] 0).isSome) = true := by decide +kernel
theorem XS_is : XS.map isG = List.replicate 18 false ++ [true, true] := by decide +kernel
theorem eq_isG {x : PyData} (hx : x ∈ XS) : φ_is_sum [dI 8, some (.d x)] = .ok (.d (.bool (isG x))) [dI 8, some (.d x)] := by
  have h := List.all_eq_true.mp XS_ok x hx
  rw [Bool.and_eq_true] at h
  obtain ⟨β, e⟩ := Option.isSome_iff_exists.mp h.2
  have ei : isG x = β := by unfold isG; rw [e]; rfl
  have e1 := eq_is_sum_in (w := 8) (by decide) (by decide) h.1 e
  rw [ei]
  (rw [φ_is_sum, run_ap _ _ _ _ _ (by rfl)]; simp -implicitDefEqProofs [m_is_sum, finSl, List.range, List.range.loop, eq_sure_width 8 (by decide) (by decide), e1])
section
variable {S : Q}
theorem q33_ok (S : Q) (h : S.deep_so_ = some (.d (dpS 0).D)) : ∃ o, q33 S.sl = .ok .nx ({S with k_ := o, deep_so_ := some (.d (dpS 17).D)}).sl := by
  obtain ⟨ρ', e, o, rfl⟩ := sForL_inv (g := gN 10) (b := q32) (xs := intsL 0 (17 : Int).toNat) (ρ := S.sl) (fun i ρ => ∃ o, ρ = ({S with k_ := o, deep_so_ := some (.d (dpS i).D)} : Q).sl) ⟨S.k_, by cases S; cases h; rfl⟩ (fun i x ρ hx ⟨o, eρ⟩ => by
    subst eρ
    obtain ⟨_, rfl⟩ := intsL_at hx
    exact ⟨_, rfl, _, rfl⟩)
  refine ⟨o, ?_⟩
  have hr : mRng1 (M.pure (.int 17)) S.sl = .ok (intsL 0 (17 : Int).toNat) S.sl := by
    have r := oRng1_i (j := 17) (by omega) (by omega)
    rw [mRng1_ap, pure_ap, then_ok, r]; rfl
  rw [q33]
  exact sFor_ok hr e
theorem q36_ok (S : Q) (h : S.wide_so_ = some (.d (wdS 0).D)) : ∃ o, q36 S.sl = .ok .nx ({S with k_ := o, wide_so_ := some (.d (wdS 6).D)}).sl := by
  obtain ⟨ρ', e, o, rfl⟩ := sForL_inv (g := gN 10) (b := q35) (xs := intsL 0 (6 : Int).toNat) (ρ := S.sl) (fun i ρ => ∃ o, ρ = ({S with k_ := o, wide_so_ := some (.d (wdS i).D)} : Q).sl) ⟨S.k_, by cases S; cases h; rfl⟩ (fun i x ρ hx ⟨o, eρ⟩ => by
    subst eρ
    obtain ⟨_, rfl⟩ := intsL_at hx
    exact ⟨_, rfl, _, rfl⟩)
  refine ⟨o, ?_⟩
  have hr : mRng1 (M.pure (.int 6)) S.sl = .ok (intsL 0 (6 : Int).toNat) S.sl := by
    have r := oRng1_i (j := 6) (by omega) (by omega)
    rw [mRng1_ap, pure_ap, then_ok, r]; rfl
  rw [q36]
  exact sFor_ok hr e
theorem cat_d {xs ys : List PyData} (h : xs.length + ys.length ≤ 1000) : oCat (.d (.list xs)) (.l ys) = some (.l (xs ++ ys)) := oCat_dl (Nat.le_of_lt (sizeL_lt (by omega)))
theorem end_ok (S : Q) (hI : NO S.own_) : ∃ S' : Q, (sSeq q31 (sSeq q33 (sSeq q34 (sSeq q36 (sSeq q37 (sSeq q38 (sSeq q39 (sSeq q40 q41)))))))) S.sl = .ok (.rt (.d (.bool true))) S'.sl ∧ S'.script_ = S.script_ := by
  have e31 : q31 S.sl = .ok .nx ({S with deep_so_ := some (.d (dpS 0).D)} : Q).sl := rfl
  obtain ⟨o1, e33⟩ := q33_ok {S with deep_so_ := some (.d (dpS 0).D)} rfl
  have e34 : q34 ({S with k_ := o1, deep_so_ := some (.d (dpS 17).D)} : Q).sl = .ok .nx ({S with k_ := o1, deep_so_ := some (.d (dpS 17).D), wide_so_ := some (.d (wdS 0).D)} : Q).sl := rfl
  obtain ⟨o2, e36⟩ := q36_ok {S with k_ := o1, deep_so_ := some (.d (dpS 17).D), wide_so_ := some (.d (wdS 0).D)} rfl
  have e37 : q37 ({S with k_ := o2, deep_so_ := some (.d (dpS 17).D), wide_so_ := some (.d (wdS 6).D)} : Q).sl = .ok .nx ({S with k_ := o2, deep_so_ := some (.d (dpS 17).D), wide_so_ := some (.d (wdS 6).D), bads_so_ := some (.d (.list bad1))} : Q).sl := rfl
  have c2 := cat_d (xs := bad1) (ys := bad2) (by decide)
  have c3 := cat_d (xs := bad1 ++ bad2) (ys := bad3) (by decide)
  have e38 : q38 ({S with k_ := o2, deep_so_ := some (.d (dpS 17).D), wide_so_ := some (.d (wdS 6).D), bads_so_ := some (.d (.list bad1))} : Q).sl = .ok .nx ({S with k_ := o2, deep_so_ := some (.d (dpS 17).D), wide_so_ := some (.d (wdS 6).D), bads_so_ := some (.d (.list (bad1 ++ bad2)))} : Q).sl := by
    unfold bad2 at c2 ⊢
    generalize bad1 = b1 at *
    generalize (dpS 17).D = dd at *
    generalize (wdS 6).D = wd at *
    simp -implicitDefEqProofs [Q.sl, q38, mCat, c2]
  have e39 : q39 ({S with k_ := o2, deep_so_ := some (.d (dpS 17).D), wide_so_ := some (.d (wdS 6).D), bads_so_ := some (.d (.list (bad1 ++ bad2)))} : Q).sl = .ok .nx ({S with k_ := o2, deep_so_ := some (.d (dpS 17).D), wide_so_ := some (.d (wdS 6).D), bads_so_ := some (.d (.list (bad1 ++ bad2 ++ bad3)))} : Q).sl := by
    generalize bad1 ++ bad2 = b1 at *
    unfold bad3 at c3 ⊢
    generalize (dpS 17).D = dd at *
    generalize (wdS 6).D = wd at *
    simp -implicitDefEqProofs [Q.sl, q39, mCat, c3]
  have e40 : q40 ({S with k_ := o2, deep_so_ := some (.d (dpS 17).D), wide_so_ := some (.d (wdS 6).D), bads_so_ := some (.d (.list (bad1 ++ bad2 ++ bad3)))} : Q).sl = .ok .nx ({S with k_ := o2, deep_so_ := some (.d (dpS 17).D), wide_so_ := some (.d (wdS 6).D), bads_so_ := some (.d (.list (bad1 ++ bad2 ++ bad3))), goods_so_ := some (.d (.list gd))} : Q).sl := rfl
  generalize hS : ({S with k_ := o2, deep_so_ := some (.d (dpS 17).D), wide_so_ := some (.d (wdS 6).D), bads_so_ := some (.d (.list (bad1 ++ bad2 ++ bad3))), goods_so_ := some (.d (.list gd))} : Q) = S1 at *
  have h23 : S1.bads_so_ = some (.d (.list (bad1 ++ bad2 ++ bad3))) := by rw [← hS]
  have h24 : S1.goods_so_ = some (.d (.list gd)) := by rw [← hS]
  have h12 : S1.wide_so_ = some (.d (wdS 6).D) := by rw [← hS]
  have h5 : NO S1.own_ := by rw [← hS]; exact hI
  have hsc : S1.script_ = S.script_ := by rw [← hS]
  have lb : (bad1 ++ bad2 ++ bad3).length = 17 := rfl
  have hm : mItems (mFrz (mCat (mCat (mDat (mVar 23)) (mLst [(mVar 12)])) (mDat (mVar 24)))) S1.sl = .ok XS S1.sl := by
    have c4 := cat_d (xs := bad1 ++ bad2 ++ bad3) (ys := [(wdS 6).D]) (by decide)
    have c5 := oCat_ld (xs := (bad1 ++ bad2 ++ bad3) ++ [(wdS 6).D]) (ys := gd) (Nat.le_of_lt (sizeL_lt (by decide)))
    have ex : XS = ((bad1 ++ bad2) ++ bad3) ++ [(wdS 6).D] ++ gd := rfl
    rw [ex]
    generalize bad1 ++ bad2 ++ bad3 = b1 at *
    generalize (wdS 6).D = wd at *
    generalize gd = g at *
    simp -implicitDefEqProofs [Q.sl, h23, h24, h12, mCat, c4, c5]
  have e4 := lc_mapG id (vs := [5]) (g := gN 5) (t := mYes) (e := mFrz (mCall φ_is_sum (mSeqA [(agD (M.pure (.int 8))), (agD (mVar 5))]))) (fun x => .bool (isG x)) ({S1 with own_ := none} : Q).sl XS [] (fun x hx => by
    have v := eq_isG hx
    refine ⟨({S1 with own_ := some (.d x)} : Q).sl, lcStep_ok (g := gN 5) (show gN 5 x ({S1 with own_ := none} : Q).sl = .ok () ({S1 with own_ := some (.d x)} : Q).sl from rfl) rfl ?_, rfl⟩
    generalize isG x = b at *
    simp -implicitDefEqProofs [Q.sl, v]) (Nat.le_of_lt (sizeL_lt (by decide)))
  rw [List.map_id, List.nil_append] at e4
  have em : (XS.map fun x => PyData.bool (isG x)) = (List.replicate 18 false ++ [true, true]).map .bool := by rw [← XS_is, List.map_map]; rfl
  rw [em] at e4
  have hno : noOwn [5] S1.sl = true := by
    have n1 : ∀ o : Option C, NO o → (match (some o : Option (Option C)) with | some (some c) => !c.own | _ => true) = true := fun o ho => by
      cases o with
      | none => rfl
      | some c =>
        show (!c.own) = true
        rw [ho c rfl]; rfl
    show ((match (some S1.own_ : Option (Option C)) with | some (some c) => !c.own | _ => true) && true) = true
    rw [n1 _ h5]; rfl
  have e5 := mLc_ok (vs := [5]) (g := gN 5) (t := mYes) hm hno e4
  have er : restS [5] S1.sl ({S1 with own_ := none} : Q).sl = S1.sl := rfl
  rw [er] at e5
  have f1 : mFrz (mLc [5] (mItems (mFrz (mCat (mCat (mDat (mVar 23)) (mLst [(mVar 12)])) (mDat (mVar 24))))) (gN 5) mYes (mFrz (mCall φ_is_sum (mSeqA [(agD (M.pure (.int 8))), (agD (mVar 5))])))) S1.sl = .ok (.list ((List.replicate 18 false ++ [true, true]).map .bool)) S1.sl := by
    rw [mFrz_ap, e5]; rfl
  have f2 : mFrz (mCat (mRep (mLst [(M.pure (.bool false))]) (lift2 oAdd (lift1 oLen (mVar 23)) (M.pure (.int 1)))) (mLst [(M.pure (.bool true)), (M.pure (.bool true))])) S1.sl = .ok (.list ((List.replicate 18 false ++ [true, true]).map .bool)) S1.sl := by
    have rp : oRep (.l [.bool false]) (.int 18) = some (.l (List.replicate 18 (.bool false))) := oRep_l (xs := [.bool false]) (k := 18) (by decide) (by decide) (by decide)
    have oc := oCat_l (xs := List.replicate 18 (PyData.bool false)) (ys := [.bool true, .bool true]) (Nat.le_of_lt (sizeL_lt (by decide)))
    have el : ((bad1 ++ bad2 ++ bad3).length : Int) + 1 = 18 := rfl
    have ee : (List.replicate 18 false ++ [true, true]).map PyData.bool = List.replicate 18 (.bool false) ++ [.bool true, .bool true] := rfl
    rw [ee]
    generalize bad1 ++ bad2 ++ bad3 = b1 at *
    generalize List.replicate 18 (PyData.bool false) = r18 at *
    simp -implicitDefEqProofs [Q.sl, h23, mCat, el, rp, oc]
  have sm := eq_same 24 (.list ((List.replicate 18 false ++ [true, true]).map .bool)) (by decide) (by decide +kernel)
  have e41 : q41 S1.sl = .ok (.rt (.d (.bool true))) S1.sl := by
    have ca := callC2_ok (φ := φ__law_same 24) f1 f2 sm
    rw [q41, sRet_ap, ca]
    rfl
  refine ⟨S1, ?_, hsc⟩
  exact (seq_ok e31).trans <| (seq_ok e33).trans <| (seq_ok e34).trans <| (seq_ok e36).trans <| (seq_ok e37).trans <| (seq_ok e38).trans <| (seq_ok e39).trans <| (seq_ok e40).trans e41
end
end L41

set_option linter.all false
set_option maxRecDepth 100000
set_option exponentiation.threshold 10000
namespace L41
open PySem PySem.Spec L2 DL
/-! ## the whole law -/
open SM
theorem lap_ok (S : Q) (n : Nat) (t : List PyData) (T : Tin n t) (hn : n ≤ 100000) (ht : S.tin_ = some (.l t)) (hA : NO S.a_) (hB : NO S.b_) (hK : NO S.k_) (hI : NO S.its_) :
    ∃ (S' : Q) (t' : List PyData), (sSeq q2 (sSeq q3 (sSeq q4 (sSeq q5 (sSeq q7 (sSeq q8 (sSeq q10 (sSeq q11 (sSeq q14 (sSeq q15 (sSeq q17 (sSeq q21 (sSeq q22 (sSeq q23 (sSeq q24 q29))))))))))))))) S.sl = .ok .nx S'.sl ∧ S'.tin_ = some (.l t') ∧ S'.script_ = S.script_ ∧ NO S'.a_ ∧ NO S'.b_ ∧ NO S'.k_ ∧ NO S'.its_ ∧ NO S'.own_ ∧ Tin (n + 2200) t' := by
  obtain ⟨w, t1, e2, w1, w2, T1⟩ := q2_ok S n t T (by omega) ht
  have e3 := q3_ok {S with tin_ := some (.l t1), w_ := dI w} w1 w2 rfl
  obtain ⟨R, t2, e4, g, T2⟩ := q4_ok {S with tin_ := some (.l t1), w_ := dI w, top_so_ := dI (2 ^ w.toNat - 1)} _ t1 T1 (by omega) rfl w1 w2 rfl
  obtain ⟨ws, t3, e5, h3, h10, hws, T3⟩ := q5_ok {S with tin_ := some (.l t2), w_ := dI w, top_so_ := dI (2 ^ w.toNat - 1), own_ := some (.d (tr R).D), rows_so_ := some (.d (.list (R.map Rw.D)))} _ t2 T2 (by omega) rfl w1 w2 rfl
  generalize hS1 : ({S with tin_ := some (.l t3), w_ := dI w, top_so_ := dI (2 ^ w.toNat - 1), own_ := some (.d (tr R).D), rows_so_ := some (.d (.list (R.map Rw.D))), words_so_ := some (.d (.tuple (ws.map .int)))} : Q) = S1 at *
  have aw : S1.w_ = dI w := by rw [← hS1]
  have aT : S1.top_so_ = dI (2 ^ w.toNat - 1) := by rw [← hS1]
  have ao : S1.own_ = some (.d (tr R).D) := by rw [← hS1]
  have ar : S1.rows_so_ = some (.d (.list (R.map Rw.D))) := by rw [← hS1]
  have aws : S1.words_so_ = some (.d (.tuple (ws.map .int))) := by rw [← hS1]
  have at1 : S1.tin_ = some (.l t3) := by rw [← hS1]
  have aA : NO S1.a_ := by rw [← hS1]; exact hA
  have aB : NO S1.b_ := by rw [← hS1]; exact hB
  have aK : NO S1.k_ := by rw [← hS1]; exact hK
  have aI : NO S1.its_ := by rw [← hS1]; exact hI
  have asc : S1.script_ = S.script_ := by rw [← hS1]
  have e7 := q7_ok S1 g hws h3 h10 aw ao ar aws
  have e8 := q8_ok S1 g aw ao
  have e10 := q10_ok {S1 with many_so_ := dI (mw ((tr R).rows []))} g hws h3 h10 aw ao rfl aws
  have e11 : q11 ({S1 with many_so_ := dI (mw ((tr R).rows []))} : Q).sl = .ok .nx ({S1 with many_so_ := dI (mw ((tr R).rows [])), spans_so_ := some (.l [])} : Q).sl := rfl
  obtain ⟨sp, t4, o10, o11, hno, e14, hl, hb, T4⟩ := q14_ok {S1 with many_so_ := dI (mw ((tr R).rows [])), spans_so_ := some (.l [])} _ t3 T3 (by omega) at1 w1 w2 aw aT rfl aK
  have e15 := q15_ok {S1 with tin_ := some (.l t4), many_so_ := dI (mw ((tr R).rows [])), spans_so_ := some (.l (sp.map pD)), k_ := o10, pair_so_ := o11} g hl hb aw ar rfl
  generalize hS2 : ({S1 with tin_ := some (.l t4), many_so_ := dI (mw ((tr R).rows [])), spans_so_ := some (.d (.list (sp.map pD))), k_ := o10, pair_so_ := o11, wide_so_ := some (.d (pD ((tr R).fold (sA (2 ^ w.toNat - 1) sp))))} : Q) = S2 at *
  have bw : S2.w_ = dI w := by rw [← hS2]; exact aw
  have bT : S2.top_so_ = dI (2 ^ w.toNat - 1) := by rw [← hS2]; exact aT
  have bo : S2.own_ = some (.d (tr R).D) := by rw [← hS2]; exact ao
  have br : S2.rows_so_ = some (.d (.list (R.map Rw.D))) := by rw [← hS2]; exact ar
  have bws : S2.words_so_ = some (.d (.tuple (ws.map .int))) := by rw [← hS2]; exact aws
  have bt : S2.tin_ = some (.l t4) := by rw [← hS2]
  have bs : S2.spans_so_ = some (.d (.list (sp.map pD))) := by rw [← hS2]
  have bx : S2.wide_so_ = some (.d (pD ((tr R).fold (sA (2 ^ w.toNat - 1) sp)))) := by rw [← hS2]
  have bA : NO S2.a_ := by rw [← hS2]; exact aA
  have bB : NO S2.b_ := by rw [← hS2]; exact aB
  have bK : NO S2.k_ := by rw [← hS2]; exact hno
  have bI : NO S2.its_ := by rw [← hS2]; exact aI
  have bsc : S2.script_ = S.script_ := by rw [← hS2]; exact asc
  have e17 := q17_ok S2 g hl hb bw bo bs bx
  obtain ⟨t5, o1, o2, e21, T5⟩ := q21_ok S2 _ t4 T4 (by omega) bt g hl hb bw br bs bx bA bB
  obtain ⟨A, B, D, t6, e22, gA, gB, gD, T6⟩ := q22_ok {S2 with tin_ := some (.l t5), turn_ := o1, drawn_so_ := o2} _ t5 T5 (by omega) rfl w1 w2 bw bK
  obtain ⟨c, t7, e23, c1, c2, T7⟩ := q23_ok {S2 with tin_ := some (.l t6), turn_ := o1, drawn_so_ := o2, parts_so_ := some (.d (.list [sD A, sD B, sD D]))} _ t6 T6 (by omega) rfl w1 w2 bT
  have e24 := q24_ok {S2 with tin_ := some (.l t7), turn_ := o1, drawn_so_ := o2, parts_so_ := some (.d (.list [sD A, sD B, sD D])), small_so_ := some (.d (smS c).D)} gA gB gD rfl bI
  obtain ⟨p1, p2, p3, p4, e29, n2, n3⟩ := q29_ok {S2 with tin_ := some (.l t7), turn_ := o1, drawn_so_ := o2, parts_so_ := some (.d (.list [sD A, sD B, sD D])), small_so_ := some (.d (smS c).D), sizes_so_ := some (.d (.list [bD (tr A), bD (tr B), bD (tr D)]))} gA gB gD hws h3 h10 c1 c2 bw bT bws rfl rfl rfl bI bA bB
  have E := (seq_ok e2).trans <| (seq_ok e3).trans <| (seq_ok e4).trans <| (seq_ok e5).trans <| (seq_ok e7).trans <| (seq_ok e8).trans <| (seq_ok e10).trans <| (seq_ok e11).trans <| (seq_ok e14).trans <| (seq_ok e15).trans <| (seq_ok e17).trans <| (seq_ok e21).trans <| (seq_ok e22).trans <| (seq_ok e23).trans <| (seq_ok e24).trans e29
  exact ⟨_, t7, E, rfl, bsc, n2, n3, bK, bI, (by show NO S2.own_; rw [bo]; exact NO_d _), T7.mono (by omega)⟩
theorem good (ns : List Int) (hl : ns.length ≤ 63) (hb : ∀ z ∈ ns, Builtin.Int.intBits z ≤ 1048576) : Good φ_law ns := by
  obtain ⟨ys, e1, y1, y2, y3⟩ := eq_cells ns 1 (by decide) (by decide) hl hb
  obtain ⟨t, e2, T⟩ := eq_box ys 0 (by decide) (by decide) y3
  have E1 : q1 ({script_ := some (.d (.list (ns.map .int)))} : Q).sl = .ok .nx ({script_ := some (.d (.list (ns.map .int))), tin_ := some (.l t)} : Q).sl := by
    simp -implicitDefEqProofs [Q.sl, q1, e1, e2]
  let I : Nat → Sl → Prop := fun i ρ => ∃ (S : Q) (t : List PyData), ρ = S.sl ∧ S.tin_ = some (.l t) ∧ S.script_ = some (.d (.list (ns.map .int))) ∧ NO S.a_ ∧ NO S.b_ ∧ NO S.k_ ∧ NO S.its_ ∧ NO S.own_ ∧ Tin (0 + i * 2200) t ∧ i ≤ 4
  have stp : ∀ i d ρ, (intsL 0 (4 : Int).toNat)[i]? = some d → I i ρ → ∃ ρ', M.bind (gN 2 d) (fun _ => (sSeq q2 (sSeq q3 (sSeq q4 (sSeq q5 (sSeq q7 (sSeq q8 (sSeq q10 (sSeq q11 (sSeq q14 (sSeq q15 (sSeq q17 (sSeq q21 (sSeq q22 (sSeq q23 (sSeq q24 q29)))))))))))))))) ρ = .ok .nx ρ' ∧ I (i + 1) ρ' := by
    rintro i d ρ hd ⟨S, t', rfl, ht, hsc, hA, hB, hK, hI, _, T', hi⟩
    obtain ⟨hi2, rfl⟩ := intsL_at hd
    have hi4 : i < 4 := hi2
    have e0 : gN 2 (.int (0 + i)) S.sl = .ok () ({S with lap_ := dI (0 + i)}).sl := rfl
    obtain ⟨S', t2, e, h1, h2, h3, h4, h5, h6, h7, T2⟩ := lap_ok {S with lap_ := dI (0 + i)} _ t' T' (by omega) ht hA hB hK hI
    exact ⟨_, by rw [bind_ok e0, e], S', t2, rfl, h1, by rw [h2]; exact hsc, h3, h4, h5, h6, h7, T2.mono (by omega), by omega⟩
  obtain ⟨ρ1, e3, S1, t1, rfl, _, hsc, _, _, _, _, hO, _⟩ := sForL_inv (ρ := ({script_ := some (.d (.list (ns.map .int))), tin_ := some (.l t)} : Q).sl) I ⟨_, t, rfl, rfl, rfl, NO_none, NO_none, NO_none, NO_none, NO_none, T, by decide⟩ stp
  have r4 : oRng1 (.int 4) = some (intsL 0 (4 : Int).toNat) := oRng1_i (by decide) (by decide)
  have E2 : q30 ({script_ := some (.d (.list (ns.map .int))), tin_ := some (.l t)} : Q).sl = .ok .nx S1.sl := by
    rw [q30, sFor_ap, mRng1_ap, pure_ap, then_ok, r4, of_some, then_ok, e3]
  obtain ⟨S2, E4, _⟩ := end_ok S1 hO
  have E3 : φ_law [some (.d (.list (ns.map .int)))] = .ok (.d (.bool true)) (finSl 1 [0] [some (.d (.list (ns.map .int)))] S2.sl) := by
    rw [φ_law, run_ap _ _ _ _ _ (by rfl), m_law]
    show runR 1 [0] _ (sSeq q1 _ ({script_ := some (.d (.list (ns.map .int)))} : Q).sl) = _
    rw [seq_ok E1, seq_ok E2, E4]
    rfl
  unfold Good
  rw [E3]
  rfl
end L41

set_option Elab.async false
set_option linter.all false
set_option maxRecDepth 100000
set_option maxHeartbeats 0
namespace L41
open PySem PySem.Spec PyProof.Rows L2 DL
def top (i : Nat) : Stmt := PySem.Challenge.pw_dividedbytimes_k41_main_sums_and_their_s.main.body.getD i (.Pass ⟨0, 0, 0, 0⟩)
/-- what the top has left -/
structure G (K : Kx) (w : World) : Prop where
  d_is_number : DefK K "is_number" (defArgs (top 3)) (defBody (top 3)) (defScope (top 3))
  d_is_within : DefK K "is_within" (defArgs (top 4)) (defBody (top 4)) (defScope (top 4))
  d_tupled : DefK K "tupled" (defArgs (top 5)) (defBody (top 5)) (defScope (top 5))
  d_sure_within : DefK K "sure_within" (defArgs (top 6)) (defBody (top 6)) (defScope (top 6))
  d_sure_width : DefK K "sure_width" (defArgs (top 9)) (defBody (top 9)) (defScope (top 9))
  d_top_in : DefK K "top_in" (defArgs (top 10)) (defBody (top 10)) (defScope (top 10))
  d_is_head_of : DefK K "is_head_of" (defArgs (top 16)) (defBody (top 16)) (defScope (top 16))
  d_is_sum_in : DefK K "is_sum_in" (defArgs (top 17)) (defBody (top 17)) (defScope (top 17))
  d_sure_sum : DefK K "sure_sum" (defArgs (top 18)) (defBody (top 18)) (defScope (top 18))
  d_rows_in : DefK K "rows_in" (defArgs (top 19)) (defBody (top 19)) (defScope (top 19))
  d_words_in : DefK K "words_in" (defArgs (top 20)) (defBody (top 20)) (defScope (top 20))
  d_joined : DefK K "joined" (defArgs (top 21)) (defBody (top 21)) (defScope (top 21))
  d_values_in : DefK K "values_in" (defArgs (top 22)) (defBody (top 22)) (defScope (top 22))
  d_span_of : DefK K "span_of" (defArgs (top 23)) (defBody (top 23)) (defScope (top 23))
  d_wide_most : DefK K "wide_most" (defArgs (top 24)) (defBody (top 24)) (defScope (top 24))
  d_spans_in : DefK K "spans_in" (defArgs (top 25)) (defBody (top 25)) (defScope (top 25))
  d_sure_words : DefK K "sure_words" (defArgs (top 26)) (defBody (top 26)) (defScope (top 26))
  d_is_span : DefK K "is_span" (defArgs (top 27)) (defBody (top 27)) (defScope (top 27))
  d_sure_spans : DefK K "sure_spans" (defArgs (top 28)) (defBody (top 28)) (defScope (top 28))
  d_is_sum : DefK K "is_sum" (defArgs (top 29)) (defBody (top 29)) (defScope (top 29))
  d_words_of : DefK K "words_of" (defArgs (top 30)) (defBody (top 30)) (defScope (top 30))
  d_sum_value : DefK K "sum_value" (defArgs (top 31)) (defBody (top 31)) (defScope (top 31))
  d_sum_span : DefK K "sum_span" (defArgs (top 32)) (defBody (top 32)) (defScope (top 32))
  d_put_into : DefK K "put_into" (defArgs (top 33)) (defBody (top 33)) (defScope (top 33))
  d__law_box : DefK K "_law_box" (defArgs (top 35)) (defBody (top 35)) (defScope (top 35))
  d__law_take : DefK K "_law_take" (defArgs (top 36)) (defBody (top 36)) (defScope (top 36))
  d__law_cells : DefK K "_law_cells" (defArgs (top 37)) (defBody (top 37)) (defScope (top 37))
  d__law_of : DefK K "_law_of" (defArgs (top 38)) (defBody (top 38)) (defScope (top 38))
  d__law_same : DefK K "_law_same" (defArgs (top 39)) (defBody (top 39)) (defScope (top 39))
  d__law_two : DefK K "_law_two" (defArgs (top 40)) (defBody (top 40)) (defScope (top 40))
  d__law_wide : DefK K "_law_wide" (defArgs (top 41)) (defBody (top 41)) (defScope (top 41))
  d__law_divisor : DefK K "_law_divisor" (defArgs (top 42)) (defBody (top 42)) (defScope (top 42))
  d__law_rows : DefK K "_law_rows" (defArgs (top 43)) (defBody (top 43)) (defScope (top 43))
  d__law_built : DefK K "_law_built" (defArgs (top 44)) (defBody (top 44)) (defScope (top 44))
  d__law_sum : DefK K "_law_sum" (defArgs (top 45)) (defBody (top 45)) (defScope (top 45))
  d__law_worths : DefK K "_law_worths" (defArgs (top 46)) (defBody (top 46)) (defScope (top 46))
  d__law_edges : DefK K "_law_edges" (defArgs (top 47)) (defBody (top 47)) (defScope (top 47))
  d__law_joint : DefK K "_law_joint" (defArgs (top 48)) (defBody (top 48)) (defScope (top 48))
  d__law_spans : DefK K "_law_spans" (defArgs (top 49)) (defBody (top 49)) (defScope (top 49))
  d_law : DefK K "law" (defArgs (top 50)) (defBody (top 50)) (defScope (top 50))
  b_ValueError : K.mg "ValueError" = none
  b_abs : K.mg "abs" = none
  b_all : K.mg "all" = none
  b_bool : K.mg "bool" = none
  b_enumerate : K.mg "enumerate" = none
  b_int : K.mg "int" = none
  b_isinstance : K.mg "isinstance" = none
  b_len : K.mg "len" = none
  b_list : K.mg "list" = none
  b_max : K.mg "max" = none
  b_min : K.mg "min" = none
  b_range : K.mg "range" = none
  b_sorted : K.mg "sorted" = none
  b_str : K.mg "str" = none
  b_sum : K.mg "sum" = none
  b_tuple : K.mg "tuple" = none
  b_zip : K.mg "zip" = none
  c_MOST_WIDTH : ∃ t, K.mg "MOST_WIDTH" = some (.int 64 t)
  t_PARTS : TabK K w "PARTS" L41.k_PARTS
  c_MOST_DEPTH : ∃ t, K.mg "MOST_DEPTH" = some (.int 18 t)
  c_MOST_PARTS : ∃ t, K.mg "MOST_PARTS" = some (.int 100 t)
  c_MOST_WORDS : ∃ t, K.mg "MOST_WORDS" = some (.int 10 t)
  x_Unfit : ExF K "Unfit" (He.ga K.fr "Unfit")
/-- how the program's exceptions stand -/
def erK (K : Kx) : ERx := fun e cv dd _ => match e with
  | .unfit => cv = .ref (He.ga K.fr "Unfit") ∧ dd = none
  | _ => False
variable {P : Program} {w : World} {K : Kx} {base : Heap}
theorem sc__law_box : FnScope ["script", "k", "bit_so"] ["script", "k"] (defScope (top 35)) := ⟨rfl, rfl, rfl, by decide +kernel, rfl, by decide +kernel, by decide +kernel⟩
theorem k__law_box (g : G K w) : Kn P w K base 1 (erK K) "_law_box" ["script", "k"] φ__law_box := by
  show Kn P w K base (0 + 1) _ _ _ (run 2 3 [0, 1] m__law_box)
  refine kn_of g.d__law_box sc__law_box (fun _ _ _ _ _ _ us hl => match us, hl with | [_, _], _ => rfl) fun f cdv A outer s H E hr => ?_
  exact (dss_cons (ds_set sc__law_box.nd rfl (Or.inl rfl) rfl (do_d (de_if (dt_cm cm_lt (de_varP (pv 1 rfl (Or.inl rfl))) (bi_len rfl g.b_len (de_varP (pv 0 rfl (Or.inl rfl)))) rfl) (de_ix (de_varP (pv 0 rfl (Or.inl rfl))) (de_varP (pv 1 rfl (Or.inl rfl))) fun _ _ => rfl) de_int)) rfl (Or.inr rfl)) (dss_one (ds_ret (do_lst (da_cons (de_mul (bi_abs rfl g.b_abs (de_varP (pv 2 rfl (Or.inl rfl)))) (bi_int rfl g.b_int (de_cm cm_ge (bi_abs rfl g.b_abs (de_varP (pv 2 rfl (Or.inl rfl)))) (de_pow de_int de_int) rfl))) (da_cons (de_add (de_add (de_mod (bi_int rfl g.b_int (de_varP (pv 2 rfl (Or.inl rfl)))) de_int) (de_mul de_int (de_varP (pv 1 rfl (Or.inl rfl))))) de_int) (da_cons de_int da_nil)))))))
theorem sc__law_built : FnScope ["rows_so", "parts_so", "row_so", "own", "many_so", "deep_so", "one", "two"] ["rows_so"] (defScope (top 44)) := ⟨rfl, rfl, rfl, by decide +kernel, rfl, by decide +kernel, by decide +kernel⟩
theorem k__law_built (g : G K w) : Kn P w K base 1 (erK K) "_law_built" ["rows_so"] φ__law_built := by
  show Kn P w K base (0 + 1) _ _ _ (run 1 8 [0] m__law_built)
  refine kn_of g.d__law_built sc__law_built (fun _ _ _ _ _ _ us hl => match us, hl with | [_], _ => rfl) fun f cdv A outer s H E hr => ?_
  exact (dss_cons (ds_set sc__law_built.nd rfl (Or.inl rfl) rfl (do_lst da_nil) rfl (Or.inr rfl)) (dss_cons (ds_for (passes_of rfl) rfl (di_seq (de_varP (pv 0 rfl (Or.inl rfl)))) (dg_n sc__law_built.nd rfl (Or.inl rfl) rfl (Or.inr rfl)) (dss_one (ds_if (dt_cm cm_in (de_ix (de_varP (pv 2 rfl (Or.inl rfl))) de_int fun _ _ => rfl) (de_tup (da_cons de_str (da_cons de_str da_nil))) rfl) (dss_one (ds_app (pv 1 rfl (Or.inl rfl)) (de_tup (da_cons (de_varP (pv 2 rfl (Or.inl rfl))) (da_cons de_int (da_cons de_int da_nil)))))) (dss_one (ds_if (dt_cm cm_in (de_ix (de_varP (pv 2 rfl (Or.inl rfl))) de_int fun _ _ => rfl) (de_tup (da_cons de_str (da_cons de_str da_nil))) rfl) (dss_cons (ds_asg (de_ixV (pv 1 rfl (Or.inl rfl)) (de_ix (de_varP (pv 2 rfl (Or.inl rfl))) de_int fun _ _ => rfl) fun _ _ => rfl) (dg_t rfl (dgs_cons (dg_n sc__law_built.nd rfl (Or.inl rfl) rfl (Or.inr rfl)) (dgs_cons (dg_n sc__law_built.nd rfl (Or.inl rfl) rfl (Or.inr rfl)) (dgs_cons (dg_n sc__law_built.nd rfl (Or.inl rfl) rfl (Or.inr rfl)) dgs_nil))))) (dss_one (ds_app (pv 1 rfl (Or.inl rfl)) (de_tup (da_cons (de_tup (da_cons (de_ix (de_varP (pv 2 rfl (Or.inl rfl))) de_int fun _ _ => rfl) (da_cons (de_varP (pv 3 rfl (Or.inl rfl))) (da_cons (de_ix (de_varP (pv 2 rfl (Or.inl rfl))) de_int fun _ _ => rfl) da_nil)))) (da_cons (de_add (de_varP (pv 4 rfl (Or.inl rfl))) de_int) (da_cons (de_add (de_varP (pv 5 rfl (Or.inl rfl))) de_int) da_nil))))))) (dss_cons (ds_set2 rfl sc__law_built.nd rfl rfl (by decide) rfl rfl rfl rfl (do_d (de_ixV (pv 1 rfl (Or.inl rfl)) (de_ix (de_varP (pv 2 rfl (Or.inl rfl))) de_int fun _ _ => rfl) fun _ _ => rfl)) (do_d (de_ixV (pv 1 rfl (Or.inl rfl)) (de_ix (de_varP (pv 2 rfl (Or.inl rfl))) de_int fun _ _ => rfl) fun _ _ => rfl)) rfl) (dss_one (ds_app (pv 1 rfl (Or.inl rfl)) (de_tup (da_cons (de_tup (da_cons (de_ix (de_varP (pv 2 rfl (Or.inl rfl))) de_int fun _ _ => rfl) (da_cons (de_ix (de_varP (pv 6 rfl (Or.inl rfl))) de_int fun _ _ => rfl) (da_cons (de_ix (de_varP (pv 7 rfl (Or.inl rfl))) de_int fun _ _ => rfl) da_nil)))) (da_cons (de_add (de_add (de_ix (de_varP (pv 6 rfl (Or.inl rfl))) de_int fun _ _ => rfl) (de_ix (de_varP (pv 7 rfl (Or.inl rfl))) de_int fun _ _ => rfl)) de_int) (da_cons (de_add (bi_max rfl rfl g.b_max (de_ix (de_varP (pv 6 rfl (Or.inl rfl))) de_int fun _ _ => rfl) (de_ix (de_varP (pv 7 rfl (Or.inl rfl))) de_int fun _ _ => rfl)) de_int) da_nil)))))))))))) (dss_one (ds_ret (do_d (de_ixV (pv 1 rfl (Or.inl rfl)) (de_neg de_int) fun _ _ => rfl))))))
theorem sc__law_cells : FnScope ["script", "most_so", "cells_so", "k", "bit_so", "at_so"] ["script", "most_so"] (defScope (top 37)) := ⟨rfl, rfl, rfl, by decide +kernel, rfl, by decide +kernel, by decide +kernel⟩
theorem k__law_cells (g : G K w) : Kn P w K base 1 (erK K) "_law_cells" ["script", "most_so"] φ__law_cells := by
  show Kn P w K base (0 + 1) _ _ _ (run 2 6 [0, 1] m__law_cells)
  refine kn_of g.d__law_cells sc__law_cells (fun _ _ _ _ _ _ us hl => match us, hl with | [_, _], _ => rfl) fun f cdv A outer s H E hr => ?_
  exact (dss_cons (ds_set sc__law_cells.nd rfl (Or.inl rfl) rfl (do_orC (bi_list rfl g.b_list (de_frz (do_slice (de_varP (pv 0 rfl (Or.inl rfl))) dpo_none (dpo_some (de_varP (pv 1 rfl (Or.inl rfl))))))) (do_one (do_lst (da_cons de_int da_nil)))) rfl (Or.inr rfl)) (dss_cons (ds_for (passes_of rfl) rfl (di_enum rfl g.b_enumerate (de_frz (do_slice (de_varP (pv 0 rfl (Or.inl rfl))) (dpo_some (de_varP (pv 1 rfl (Or.inl rfl)))) (dpo_some de_int)))) (dg_t rfl (dgs_cons (dg_n sc__law_cells.nd rfl (Or.inl rfl) rfl (Or.inr rfl)) (dgs_cons (dg_n sc__law_cells.nd rfl (Or.inl rfl) rfl (Or.inr rfl)) dgs_nil))) (dss_cons (ds_set sc__law_cells.nd rfl (Or.inl rfl) rfl (do_d (de_mod (bi_int rfl g.b_int (de_varP (pv 3 rfl (Or.inl rfl)))) (de_varP (pv 1 rfl (Or.inl rfl))))) rfl (Or.inr rfl)) (dss_one (ds_setIx (pv 2 rfl (Or.inl rfl)) (de_varP (pv 5 rfl (Or.inl rfl))) (de_add (de_ixV (pv 2 rfl (Or.inl rfl)) (de_varP (pv 5 rfl (Or.inl rfl))) fun _ _ => rfl) (de_mul (de_varP (pv 4 rfl (Or.inl rfl))) (de_add (de_varP (pv 3 rfl (Or.inl rfl))) de_int))))))) (dss_one (ds_ret (do_varMP rfl (pv 2 rfl (Or.inl rfl)))))))
theorem sc__law_take : FnScope ["tin", "below_so", "drawn_so", "once_so", "wide_so", "twice_so"] ["tin", "below_so"] (defScope (top 36)) := ⟨rfl, rfl, rfl, by decide +kernel, rfl, by decide +kernel, by decide +kernel⟩
theorem k__law_take (g : G K w) : Kn P w K base 1 (erK K) "_law_take" ["tin", "below_so"] φ__law_take := by
  show Kn P w K base (0 + 1) _ _ _ (run 2 6 [0, 1] m__law_take)
  refine kn_of g.d__law_take sc__law_take (fun _ _ _ _ _ _ us hl => match us, hl with | [_, _], _ => rfl) fun f cdv A outer s H E hr => ?_
  exact (dss_cons (ds_if (dt_cm cm_gt (de_ixV (pv 0 rfl (Or.inl rfl)) de_int fun _ _ => rfl) de_int rfl) (dss_cons (ds_set sc__law_take.nd rfl (Or.inl rfl) rfl (do_d (de_mod (bi_int rfl g.b_int (de_ixV (pv 0 rfl (Or.inl rfl)) de_int fun _ _ => rfl)) (de_varP (pv 1 rfl (Or.inl rfl))))) rfl (Or.inr rfl)) (dss_cons (ds_setIx (pv 0 rfl (Or.inl rfl)) de_int (de_div (de_ixV (pv 0 rfl (Or.inl rfl)) de_int fun _ _ => rfl) (de_varP (pv 1 rfl (Or.inl rfl))))) (dss_one (ds_ret (do_d (de_varP (pv 2 rfl (Or.inl rfl)))))))) dss_nil) (dss_cons (ds_setIx (pv 0 rfl (Or.inl rfl)) de_int (de_add (de_ixV (pv 0 rfl (Or.inl rfl)) de_int fun _ _ => rfl) de_int)) (dss_cons (ds_set sc__law_take.nd rfl (Or.inl rfl) rfl (do_d (de_mod (bi_int rfl g.b_int (de_mul (de_add (de_ixV (pv 0 rfl (Or.inl rfl)) de_int fun _ _ => rfl) (de_mul de_int (de_ixV (pv 0 rfl (Or.inl rfl)) de_int fun _ _ => rfl))) (de_add de_int (de_ixV (pv 0 rfl (Or.inl rfl)) de_int fun _ _ => rfl)))) de_int)) rfl (Or.inr rfl)) (dss_cons (ds_set sc__law_take.nd rfl (Or.inl rfl) rfl (do_d (de_add (de_mod (bi_int rfl g.b_int (de_varP (pv 3 rfl (Or.inl rfl)))) de_int) de_int)) rfl (Or.inr rfl)) (dss_cons (ds_set sc__law_take.nd rfl (Or.inl rfl) rfl (do_d (de_mod (bi_int rfl g.b_int (de_mul (de_add (de_add (de_varP (pv 3 rfl (Or.inl rfl))) (de_ixV (pv 0 rfl (Or.inl rfl)) de_int fun _ _ => rfl)) (de_div (de_ixV (pv 0 rfl (Or.inl rfl)) de_int fun _ _ => rfl) de_int)) (de_varP (pv 4 rfl (Or.inl rfl))))) de_int)) rfl (Or.inr rfl)) (dss_one (ds_ret (do_d (de_mod (bi_int rfl g.b_int (de_div (de_mod (bi_int rfl g.b_int (de_add (de_mul (de_varP (pv 5 rfl (Or.inl rfl))) de_int) (de_varP (pv 3 rfl (Or.inl rfl))))) de_int) de_int)) (de_varP (pv 1 rfl (Or.inl rfl))))))))))))
theorem sc__law_of : FnScope ["tin", "goods_so"] ["tin", "goods_so"] (defScope (top 38)) := ⟨rfl, rfl, rfl, by decide +kernel, rfl, by decide +kernel, by decide +kernel⟩
theorem k__law_of (g : G K w) : Kn P w K base 2 (erK K) "_law_of" ["tin", "goods_so"] φ__law_of := by
  show Kn P w K base (1 + 1) _ _ _ (run 2 2 [0, 1] m__law_of)
  refine kn_of g.d__law_of sc__law_of (fun _ _ _ _ _ _ us hl => match us, hl with | [_, _], _ => rfl) fun f cdv A outer s H E hr => ?_
  exact (dss_one (ds_ret (do_d (de_ix (de_varP (pv 1 rfl (Or.inl rfl))) (de_frz (do_call (k__law_take (P := P) (w := w) (base := base) g) (hr.mono (by decide : 1 ≤ 1)) rfl (passAt takesB) (dr_cons (ag_v (pv 0 rfl (Or.inl rfl))) (dr_cons (ag_d (bi_len rfl g.b_len (de_varP (pv 1 rfl (Or.inl rfl))))) dr_nil)))) fun _ _ => rfl))))
theorem sc__law_two : FnScope ["often_so"] ["often_so"] (defScope (top 40)) := ⟨rfl, rfl, rfl, by decide +kernel, rfl, by decide +kernel, by decide +kernel⟩
theorem k__law_two (g : G K w) : Kn P w K base 1 (erK K) "_law_two" ["often_so"] φ__law_two := by
  show Kn P w K base (0 + 1) _ _ _ (run 1 1 [0] m__law_two)
  refine kn_of g.d__law_two sc__law_two (fun _ _ _ _ _ _ us hl => match us, hl with | [_], _ => rfl) fun f cdv A outer s H E hr => ?_
  exact (dss_one (ds_ret (do_d (de_shl de_int (de_varP (pv 0 rfl (Or.inl rfl)))))))
theorem sc__law_edges : FnScope ["tin", "w", "many_so", "top_so", "k"] ["tin", "w", "many_so"] (defScope (top 47)) := ⟨rfl, rfl, rfl, by decide +kernel, rfl, by decide +kernel, by decide +kernel⟩
theorem k__law_edges (g : G K w) : Kn P w K base 3 (erK K) "_law_edges" ["tin", "w", "many_so"] φ__law_edges := by
  show Kn P w K base (2 + 1) _ _ _ (run 3 5 [0, 1, 2] m__law_edges)
  refine kn_of g.d__law_edges sc__law_edges (fun _ _ _ _ _ _ us hl => match us, hl with | [_, _, _], _ => rfl) fun f cdv A outer s H E hr => ?_
  exact (dss_cons (ds_set sc__law_edges.nd rfl (Or.inr rfl) rfl (do_d (de_sub (de_frz (do_call (k__law_two (P := P) (w := w) (base := base) g) (hr.mono (by decide : 1 ≤ 2)) rfl (passAt takesB) (dr_cons (ag_d (de_varP (pv 1 rfl (Or.inl rfl)))) dr_nil))) de_int)) rfl (Or.inl rfl)) (dss_one (ds_ret (do_d (bi_tuple rfl g.b_tuple (de_frz (do_lc rfl sc__law_edges.nd (di_range1 rfl g.b_range (de_varP (pv 2 rfl (Or.inl rfl)))) (blkOk_by (N := (["tin", "w", "many_so", "top_so", "k"] : List Str)) (sc := defScope (top 47)) (own := ([("k", 4)] : List (Str × Nat))) (by decide +kernel)) rfl (fun _ _ _ _ _ => (dg_n sc__law_edges.nd rfl (Or.inl rfl) rfl (Or.inr rfl))) (fun _ _ _ _ _ => bif_nil) (fun _ _ _ _ _ => (de_frz (do_call (k__law_of (P := P) (w := w) (base := base) g) (hr.mono (by decide : 2 ≤ 2)) rfl passNo (dr_cons (ag_v (pv 0 rfl (Or.inr (Or.inl rfl)))) (dr_cons (ag_d (de_frz (do_lst (da_cons (de_frz (do_call (k__law_take (P := P) (w := w) (base := base) g) (hr.mono (by decide : 1 ≤ 2)) rfl passNo (dr_cons (ag_v (pv 0 rfl (Or.inr (Or.inl rfl)))) (dr_cons (ag_d (de_add (de_varP (pv 3 rfl (Or.inr (Or.inl rfl)))) de_int)) dr_nil)))) (da_cons (de_frz (do_call (k__law_take (P := P) (w := w) (base := base) g) (hr.mono (by decide : 1 ≤ 2)) rfl passNo (dr_cons (ag_v (pv 0 rfl (Or.inr (Or.inl rfl)))) (dr_cons (ag_d (de_add (de_varP (pv 3 rfl (Or.inr (Or.inl rfl)))) de_int)) dr_nil)))) (da_cons (de_varP (pv 3 rfl (Or.inr (Or.inl rfl)))) (da_cons de_int (da_cons (bi_max rfl rfl g.b_max de_int (de_sub (de_varP (pv 3 rfl (Or.inr (Or.inl rfl)))) (de_frz (do_call (k__law_take (P := P) (w := w) (base := base) g) (hr.mono (by decide : 1 ≤ 2)) rfl passNo (dr_cons (ag_v (pv 0 rfl (Or.inr (Or.inl rfl)))) (dr_cons (ag_d de_int) dr_nil)))))) (da_cons (bi_min rfl rfl g.b_min (de_varP (pv 3 rfl (Or.inr (Or.inl rfl)))) (de_frz (do_call (k__law_take (P := P) (w := w) (base := base) g) (hr.mono (by decide : 1 ≤ 2)) rfl passNo (dr_cons (ag_v (pv 0 rfl (Or.inr (Or.inl rfl)))) (dr_cons (ag_d de_int) dr_nil))))) da_nil))))))))) dr_nil))))))))))))
theorem sc__law_same : FnScope ["got", "due", "mine", "its"] ["got", "due"] (defScope (top 39)) := ⟨rfl, rfl, rfl, by decide +kernel, rfl, by decide +kernel, by decide +kernel⟩
theorem k__law_same (g : G K w) : ∀ n, Kn P w K base (1 + n) (erK K) "_law_same" ["got", "due"] (φ__law_same n)
  | 0 => kn_stuck g.d__law_same (fun _ _ _ _ _ _ us hl => match us, hl with | [_, _], _ => rfl)
  | n + 1 => by
    have hrec := k__law_same g n
    show Kn P w K base (1 + n + 1) _ _ _ (run 2 4 [0, 1] (m__law_same (φ__law_same n)))
    refine kn_of g.d__law_same sc__law_same (fun _ _ _ _ _ _ us hl => match us, hl with | [_, _], _ => rfl) fun f cdv A outer s H E hr => ?_
    exact (dss_cons (ds_if (dt_tru (de_isi2 (t := .list) (u := .tuple) rfl g.b_isinstance rfl g.b_list boot_list rfl g.b_tuple boot_tuple (de_varP (pv 1 rfl (Or.inl rfl)))) fun _ => rfl) (dss_cons (ds_if (dt_w (dw_or (dt_cm (cm_ne hr.units) (de_isi (t := .list) rfl g.b_isinstance rfl g.b_list boot_list (de_varP (pv 0 rfl (Or.inl rfl)))) (de_isi (t := .list) rfl g.b_isinstance rfl g.b_list boot_list (de_varP (pv 1 rfl (Or.inl rfl)))) rfl) (dw_or1 (dt_cm (cm_ne hr.units) (de_isi (t := .tuple) rfl g.b_isinstance rfl g.b_tuple boot_tuple (de_varP (pv 0 rfl (Or.inl rfl)))) (de_isi (t := .tuple) rfl g.b_isinstance rfl g.b_tuple boot_tuple (de_varP (pv 1 rfl (Or.inl rfl)))) rfl)))) (dss_one (ds_ret (do_d de_bl))) dss_nil) (dss_one (ds_ret (do_d (de_andV (de_cm (cm_eq hr.units) (bi_len rfl g.b_len (de_varP (pv 0 rfl (Or.inl rfl)))) (bi_len rfl g.b_len (de_varP (pv 1 rfl (Or.inl rfl)))) rfl) (de_one (bi_all rfl rfl g.b_all (de_frz (do_lc rfl sc__law_same.nd (di_zip rfl g.b_zip (de_varP (pv 0 rfl (Or.inl rfl))) (de_varP (pv 1 rfl (Or.inl rfl)))) (blkOk_by (N := (["got", "due", "mine", "its"] : List Str)) (sc := defScope (top 39)) (own := ([("mine", 2), ("its", 3)] : List (Str × Nat))) (by decide +kernel)) rfl (fun _ _ _ _ _ => (dg_t rfl (dgs_cons (dg_n sc__law_same.nd rfl (Or.inl rfl) rfl (Or.inr rfl)) (dgs_cons (dg_n sc__law_same.nd rfl (Or.inl rfl) rfl (Or.inr rfl)) dgs_nil)))) (fun _ _ _ _ _ => bif_nil) (fun _ _ _ _ _ => (de_frz (do_call hrec (hr.mono (Nat.le_refl _)) rfl passNo (dr_cons (ag_d (de_varP (pv 2 rfl (Or.inl rfl)))) (dr_cons (ag_d (de_varP (pv 3 rfl (Or.inl rfl)))) dr_nil)))))))))))))) dss_nil) (dss_cons (ds_if (dt_cm cm_isN (de_varP (pv 1 rfl (Or.inl rfl))) de_non rfl) (dss_one (ds_ret (do_d (de_cm cm_isN (de_varP (pv 0 rfl (Or.inl rfl))) de_non rfl)))) dss_nil) (dss_cons (ds_if (dt_tru (de_isi2 (t := .bool) (u := .str) rfl g.b_isinstance rfl g.b_bool boot_bool rfl g.b_str boot_str (de_varP (pv 1 rfl (Or.inl rfl)))) fun _ => rfl) (dss_one (ds_ret (do_d (de_andV (de_cm (cm_eq hr.units) (de_isi (t := .bool) rfl g.b_isinstance rfl g.b_bool boot_bool (de_varP (pv 0 rfl (Or.inl rfl)))) (de_isi (t := .bool) rfl g.b_isinstance rfl g.b_bool boot_bool (de_varP (pv 1 rfl (Or.inl rfl)))) rfl) (de_andV (de_cm (cm_eq hr.units) (de_isi (t := .str) rfl g.b_isinstance rfl g.b_str boot_str (de_varP (pv 0 rfl (Or.inl rfl)))) (de_isi (t := .str) rfl g.b_isinstance rfl g.b_str boot_str (de_varP (pv 1 rfl (Or.inl rfl)))) rfl) (de_one (de_cm (cm_eq hr.units) (de_varP (pv 0 rfl (Or.inl rfl))) (de_varP (pv 1 rfl (Or.inl rfl))) rfl))))))) dss_nil) (dss_one (ds_ret (do_d (de_andV (de_isi (t := .int) rfl g.b_isinstance rfl g.b_int boot_int (de_varP (pv 0 rfl (Or.inl rfl)))) (de_andV (de_notV (de_isi (t := .bool) rfl g.b_isinstance rfl g.b_bool boot_bool (de_varP (pv 0 rfl (Or.inl rfl))))) (de_one (de_cm (cm_eq hr.units) (de_varP (pv 0 rfl (Or.inl rfl))) (de_varP (pv 1 rfl (Or.inl rfl))) rfl))))))))))
theorem sc__law_joint : FnScope ["w", "head", "a", "b", "top_so", "rows_so", "low_so", "up_so"] ["w", "head", "a", "b"] (defScope (top 48)) := ⟨rfl, rfl, rfl, by decide +kernel, rfl, by decide +kernel, by decide +kernel⟩
theorem k__law_joint (g : G K w) : Kn P w K base 2 (erK K) "_law_joint" ["w", "head", "a", "b"] φ__law_joint := by
  show Kn P w K base (1 + 1) _ _ _ (run 4 8 [0, 1, 2, 3] m__law_joint)
  refine kn_of g.d__law_joint sc__law_joint (fun _ _ _ _ _ _ us hl => match us, hl with | [_, _, _, _], _ => rfl) fun f cdv A outer s H E hr => ?_
  exact (dss_cons (ds_set sc__law_joint.nd rfl (Or.inl rfl) rfl (do_d (de_sub (de_frz (do_call (k__law_two (P := P) (w := w) (base := base) g) (hr.mono (by decide : 1 ≤ 1)) rfl (passAt takesB) (dr_cons (ag_d (de_varP (pv 0 rfl (Or.inl rfl)))) dr_nil))) de_int)) rfl (Or.inr rfl)) (dss_cons (ds_set sc__law_joint.nd rfl (Or.inl rfl) rfl (do_disp (dps_cons de_str (de_tup (da_cons (de_add (de_ix (de_varP (pv 2 rfl (Or.inl rfl))) de_int fun _ _ => rfl) (de_ix (de_varP (pv 3 rfl (Or.inl rfl))) de_int fun _ _ => rfl)) (da_cons (de_add (de_ix (de_varP (pv 2 rfl (Or.inl rfl))) de_int fun _ _ => rfl) (de_ix (de_varP (pv 3 rfl (Or.inl rfl))) de_int fun _ _ => rfl)) da_nil))) (dps_cons de_str (de_tup (da_cons (de_sub (de_ix (de_varP (pv 2 rfl (Or.inl rfl))) de_int fun _ _ => rfl) (de_ix (de_varP (pv 3 rfl (Or.inl rfl))) de_int fun _ _ => rfl)) (da_cons (de_sub (de_ix (de_varP (pv 2 rfl (Or.inl rfl))) de_int fun _ _ => rfl) (de_ix (de_varP (pv 3 rfl (Or.inl rfl))) de_int fun _ _ => rfl)) da_nil))) (dps_cons de_str (de_tup (da_cons (de_mul (de_ix (de_varP (pv 2 rfl (Or.inl rfl))) de_int fun _ _ => rfl) (de_ix (de_varP (pv 3 rfl (Or.inl rfl))) de_int fun _ _ => rfl)) (da_cons (de_mul (de_ix (de_varP (pv 2 rfl (Or.inl rfl))) de_int fun _ _ => rfl) (de_ix (de_varP (pv 3 rfl (Or.inl rfl))) de_int fun _ _ => rfl)) da_nil))) dps_nil)))) rfl (Or.inr rfl)) (dss_cons (ds_if (dt_din (u1 hr.units) (de_varP (pv 1 rfl (Or.inl rfl))) (pv 5 rfl (Or.inl rfl)) rfl) (dss_cons (ds_asg (de_dix (u1 hr.units) (pv 5 rfl (Or.inl rfl)) (de_varP (pv 1 rfl (Or.inl rfl))) fun _ _ => rfl) (dg_t rfl (dgs_cons (dg_n sc__law_joint.nd rfl (Or.inl rfl) rfl (Or.inr rfl)) (dgs_cons (dg_n sc__law_joint.nd rfl (Or.inl rfl) rfl (Or.inr rfl)) dgs_nil)))) (dss_one (ds_ret (do_d (de_if (dt_w (dw_and (dt_cm cm_ge (de_varP (pv 6 rfl (Or.inl rfl))) de_int rfl) (dw_and1 (dt_cm cm_le (de_varP (pv 7 rfl (Or.inl rfl))) (de_varP (pv 4 rfl (Or.inl rfl))) rfl)))) (de_tup (da_cons (de_varP (pv 6 rfl (Or.inl rfl))) (da_cons (de_varP (pv 7 rfl (Or.inl rfl))) da_nil))) (de_tup (da_cons de_int (da_cons (de_varP (pv 4 rfl (Or.inl rfl))) da_nil)))))))) dss_nil) (dss_one (ds_ret (do_d (de_if (dt_cm (cm_eq hr.units) (de_varP (pv 1 rfl (Or.inl rfl))) de_str rfl) (de_tup (da_cons (bi_min rfl rfl g.b_min (de_ix (de_varP (pv 2 rfl (Or.inl rfl))) de_int fun _ _ => rfl) (de_ix (de_varP (pv 3 rfl (Or.inl rfl))) de_int fun _ _ => rfl)) (da_cons (bi_min rfl rfl g.b_min (de_ix (de_varP (pv 2 rfl (Or.inl rfl))) de_int fun _ _ => rfl) (de_ix (de_varP (pv 3 rfl (Or.inl rfl))) de_int fun _ _ => rfl)) da_nil))) (de_tup (da_cons (bi_max rfl rfl g.b_max (de_ix (de_varP (pv 2 rfl (Or.inl rfl))) de_int fun _ _ => rfl) (de_ix (de_varP (pv 3 rfl (Or.inl rfl))) de_int fun _ _ => rfl)) (da_cons (bi_max rfl rfl g.b_max (de_ix (de_varP (pv 2 rfl (Or.inl rfl))) de_int fun _ _ => rfl) (de_ix (de_varP (pv 3 rfl (Or.inl rfl))) de_int fun _ _ => rfl)) da_nil))))))))))
theorem sc__law_spans : FnScope ["w", "rows_so", "spans_so", "found", "row_so", "a", "b", "d"] ["w", "rows_so", "spans_so"] (defScope (top 49)) := ⟨rfl, rfl, rfl, by decide +kernel, rfl, by decide +kernel, by decide +kernel⟩
theorem k__law_spans (g : G K w) : Kn P w K base 3 (erK K) "_law_spans" ["w", "rows_so", "spans_so"] φ__law_spans := by
  show Kn P w K base (2 + 1) _ _ _ (run 3 8 [0, 1, 2] m__law_spans)
  refine kn_of g.d__law_spans sc__law_spans (fun _ _ _ _ _ _ us hl => match us, hl with | [_, _, _], _ => rfl) fun f cdv A outer s H E hr => ?_
  exact (dss_cons (ds_set sc__law_spans.nd rfl (Or.inl rfl) rfl (do_lst da_nil) rfl (Or.inr rfl)) (dss_cons (ds_for (passes_of rfl) rfl (di_seq (de_varP (pv 1 rfl (Or.inl rfl)))) (dg_n sc__law_spans.nd rfl (Or.inl rfl) rfl (Or.inr rfl)) (dss_one (ds_if (dt_cm cm_in (de_ix (de_varP (pv 4 rfl (Or.inl rfl))) de_int fun _ _ => rfl) (de_tup (da_cons de_str (da_cons de_str da_nil))) rfl) (dss_one (ds_app (pv 3 rfl (Or.inl rfl)) (de_if (dt_cm (cm_eq hr.units) (de_ix (de_varP (pv 4 rfl (Or.inl rfl))) de_int fun _ _ => rfl) de_str rfl) (de_ix (de_varP (pv 2 rfl (Or.inl rfl))) (de_ix (de_varP (pv 4 rfl (Or.inl rfl))) de_int fun _ _ => rfl) fun _ _ => rfl) (de_tup (da_cons (de_ix (de_varP (pv 4 rfl (Or.inl rfl))) de_int fun _ _ => rfl) (da_cons (de_ix (de_varP (pv 4 rfl (Or.inl rfl))) de_int fun _ _ => rfl) da_nil)))))) (dss_one (ds_if (dt_cm cm_in (de_ix (de_varP (pv 4 rfl (Or.inl rfl))) de_int fun _ _ => rfl) (de_tup (da_cons de_str (da_cons de_str da_nil))) rfl) (dss_cons (ds_asg (de_tup (da_cons (de_ixV (pv 3 rfl (Or.inl rfl)) (de_ix (de_varP (pv 4 rfl (Or.inl rfl))) de_int fun _ _ => rfl) fun _ _ => rfl) (da_cons (de_ix (de_varP (pv 4 rfl (Or.inl rfl))) de_int fun _ _ => rfl) da_nil))) (dg_t rfl (dgs_cons (dg_t rfl (dgs_cons (dg_n sc__law_spans.nd rfl (Or.inl rfl) rfl (Or.inr rfl)) (dgs_cons (dg_n sc__law_spans.nd rfl (Or.inl rfl) rfl (Or.inr rfl)) dgs_nil))) (dgs_cons (dg_n sc__law_spans.nd rfl (Or.inl rfl) rfl (Or.inr rfl)) dgs_nil)))) (dss_one (ds_if (dt_cm (cm_eq hr.units) (de_ix (de_varP (pv 4 rfl (Or.inl rfl))) de_int fun _ _ => rfl) de_str rfl) (dss_one (ds_app (pv 3 rfl (Or.inl rfl)) (de_tup (da_cons (de_div (de_varP (pv 5 rfl (Or.inl rfl))) (de_varP (pv 7 rfl (Or.inl rfl)))) (da_cons (de_div (de_varP (pv 6 rfl (Or.inl rfl))) (de_varP (pv 7 rfl (Or.inl rfl)))) da_nil))))) (dss_one (ds_app (pv 3 rfl (Or.inl rfl)) (de_if (dt_cm (cm_eq hr.units) (de_div (de_varP (pv 5 rfl (Or.inl rfl))) (de_varP (pv 7 rfl (Or.inl rfl)))) (de_div (de_varP (pv 6 rfl (Or.inl rfl))) (de_varP (pv 7 rfl (Or.inl rfl)))) rfl) (de_tup (da_cons (de_mod (de_varP (pv 5 rfl (Or.inl rfl))) (de_varP (pv 7 rfl (Or.inl rfl)))) (da_cons (de_mod (de_varP (pv 6 rfl (Or.inl rfl))) (de_varP (pv 7 rfl (Or.inl rfl)))) da_nil))) (de_tup (da_cons de_int (da_cons (de_sub (de_varP (pv 7 rfl (Or.inl rfl))) de_int) da_nil))))))))) (dss_one (ds_app (pv 3 rfl (Or.inl rfl)) (de_frz (do_call (k__law_joint (P := P) (w := w) (base := base) g) (hr.mono (by decide : 2 ≤ 2)) rfl (passAt takesB) (dr_cons (ag_d (de_varP (pv 0 rfl (Or.inl rfl)))) (dr_cons (ag_d (de_ix (de_varP (pv 4 rfl (Or.inl rfl))) de_int fun _ _ => rfl)) (dr_cons (ag_d (de_ixV (pv 3 rfl (Or.inl rfl)) (de_ix (de_varP (pv 4 rfl (Or.inl rfl))) de_int fun _ _ => rfl) fun _ _ => rfl)) (dr_cons (ag_d (de_ixV (pv 3 rfl (Or.inl rfl)) (de_ix (de_varP (pv 4 rfl (Or.inl rfl))) de_int fun _ _ => rfl) fun _ _ => rfl)) dr_nil))))))))))))) (dss_one (ds_ret (do_varMP rfl (pv 3 rfl (Or.inl rfl)))))))
theorem sc__law_divisor : FnScope ["tin", "w", "top_so", "found"] ["tin", "w"] (defScope (top 42)) := ⟨rfl, rfl, rfl, by decide +kernel, rfl, by decide +kernel, by decide +kernel⟩
theorem k__law_divisor (g : G K w) : Kn P w K base 3 (erK K) "_law_divisor" ["tin", "w"] φ__law_divisor := by
  show Kn P w K base (2 + 1) _ _ _ (run 2 4 [0, 1] m__law_divisor)
  refine kn_of g.d__law_divisor sc__law_divisor (fun _ _ _ _ _ _ us hl => match us, hl with | [_, _], _ => rfl) fun f cdv A outer s H E hr => ?_
  exact (dss_cons (ds_set sc__law_divisor.nd rfl (Or.inl rfl) rfl (do_d (de_sub (de_frz (do_call (k__law_two (P := P) (w := w) (base := base) g) (hr.mono (by decide : 1 ≤ 2)) rfl (passAt takesB) (dr_cons (ag_d (de_varP (pv 1 rfl (Or.inl rfl)))) dr_nil))) de_int)) rfl (Or.inr rfl)) (dss_cons (ds_set sc__law_divisor.nd rfl (Or.inl rfl) rfl (do_d (de_frz (do_call (k__law_of (P := P) (w := w) (base := base) g) (hr.mono (by decide : 2 ≤ 2)) rfl (passAt takesB) (dr_cons (ag_v (pv 0 rfl (Or.inl rfl))) (dr_cons (ag_d (de_frz (do_lst (da_cons (de_add de_int (de_frz (do_call (k__law_take (P := P) (w := w) (base := base) g) (hr.mono (by decide : 1 ≤ 2)) rfl (passAt takesB) (dr_cons (ag_v (pv 0 rfl (Or.inl rfl))) (dr_cons (ag_d de_int) dr_nil))))) (da_cons (de_add de_int (de_frz (do_call (k__law_take (P := P) (w := w) (base := base) g) (hr.mono (by decide : 1 ≤ 2)) rfl (passAt takesB) (dr_cons (ag_v (pv 0 rfl (Or.inl rfl))) (dr_cons (ag_d (de_varP (pv 2 rfl (Or.inl rfl)))) dr_nil))))) (da_cons (de_sub (de_varP (pv 2 rfl (Or.inl rfl))) (de_frz (do_call (k__law_take (P := P) (w := w) (base := base) g) (hr.mono (by decide : 1 ≤ 2)) rfl (passAt takesB) (dr_cons (ag_v (pv 0 rfl (Or.inl rfl))) (dr_cons (ag_d de_int) dr_nil))))) (da_cons (de_sub (de_add (de_frz (do_call (k__law_two (P := P) (w := w) (base := base) g) (hr.mono (by decide : 1 ≤ 2)) rfl (passAt takesB) (dr_cons (ag_d (de_frz (do_call (k__law_take (P := P) (w := w) (base := base) g) (hr.mono (by decide : 1 ≤ 2)) rfl (passAt takesB) (dr_cons (ag_v (pv 0 rfl (Or.inl rfl))) (dr_cons (ag_d (de_varP (pv 1 rfl (Or.inl rfl)))) dr_nil))))) dr_nil))) (de_frz (do_call (k__law_take (P := P) (w := w) (base := base) g) (hr.mono (by decide : 1 ≤ 2)) rfl (passAt takesB) (dr_cons (ag_v (pv 0 rfl (Or.inl rfl))) (dr_cons (ag_d de_int) dr_nil))))) de_int) (da_cons (de_add de_int (de_frz (do_call (k__law_take (P := P) (w := w) (base := base) g) (hr.mono (by decide : 1 ≤ 2)) rfl (passAt takesB) (dr_cons (ag_v (pv 0 rfl (Or.inl rfl))) (dr_cons (ag_d de_int) dr_nil))))) da_nil)))))))) dr_nil))))) rfl (Or.inr rfl)) (dss_one (ds_ret (do_d (bi_max rfl rfl g.b_max de_int (bi_min rfl rfl g.b_min (de_varP (pv 3 rfl (Or.inl rfl))) (de_varP (pv 2 rfl (Or.inl rfl))))))))))
theorem sc__law_rows : FnScope ["tin", "w", "many_so", "top_so", "rows_so", "lap", "head"] ["tin", "w", "many_so"] (defScope (top 43)) := ⟨rfl, rfl, rfl, by decide +kernel, rfl, by decide +kernel, by decide +kernel⟩
theorem k__law_rows (g : G K w) : Kn P w K base 4 (erK K) "_law_rows" ["tin", "w", "many_so"] φ__law_rows := by
  show Kn P w K base (3 + 1) _ _ _ (run 3 7 [0, 1, 2] m__law_rows)
  refine kn_of g.d__law_rows sc__law_rows (fun _ _ _ _ _ _ us hl => match us, hl with | [_, _, _], _ => rfl) fun f cdv A outer s H E hr => ?_
  exact (dss_cons (ds_set sc__law_rows.nd rfl (Or.inl rfl) rfl (do_d (de_sub (de_frz (do_call (k__law_two (P := P) (w := w) (base := base) g) (hr.mono (by decide : 1 ≤ 3)) rfl (passAt takesB) (dr_cons (ag_d (de_varP (pv 1 rfl (Or.inl rfl)))) dr_nil))) de_int)) rfl (Or.inr rfl)) (dss_cons (ds_set sc__law_rows.nd rfl (Or.inl rfl) rfl (do_lst (da_cons (de_tup (da_cons de_str (da_cons de_int da_nil))) (da_cons (de_tup (da_cons de_str (da_cons (de_frz (do_call (k__law_take (P := P) (w := w) (base := base) g) (hr.mono (by decide : 1 ≤ 3)) rfl (passAt takesB) (dr_cons (ag_v (pv 0 rfl (Or.inl rfl))) (dr_cons (ag_d de_int) dr_nil)))) da_nil))) (da_cons (de_tup (da_cons de_str (da_cons (bi_min rfl rfl g.b_min (de_varP (pv 3 rfl (Or.inl rfl))) (de_frz (do_call (k__law_of (P := P) (w := w) (base := base) g) (hr.mono (by decide : 2 ≤ 3)) rfl (passAt takesB) (dr_cons (ag_v (pv 0 rfl (Or.inl rfl))) (dr_cons (ag_d (de_frz (do_lst (da_cons (de_frz (do_call (k__law_take (P := P) (w := w) (base := base) g) (hr.mono (by decide : 1 ≤ 3)) rfl (passAt takesB) (dr_cons (ag_v (pv 0 rfl (Or.inl rfl))) (dr_cons (ag_d de_int) dr_nil)))) (da_cons (de_frz (do_call (k__law_take (P := P) (w := w) (base := base) g) (hr.mono (by decide : 1 ≤ 3)) rfl (passAt takesB) (dr_cons (ag_v (pv 0 rfl (Or.inl rfl))) (dr_cons (ag_d (de_add (de_varP (pv 3 rfl (Or.inl rfl))) de_int)) dr_nil)))) da_nil))))) dr_nil))))) da_nil))) da_nil)))) rfl (Or.inr rfl)) (dss_cons (ds_for (passes_of rfl) rfl (di_range1 rfl g.b_range (de_add de_int (de_frz (do_call (k__law_take (P := P) (w := w) (base := base) g) (hr.mono (by decide : 1 ≤ 3)) rfl (passAt takesB) (dr_cons (ag_v (pv 0 rfl (Or.inl rfl))) (dr_cons (ag_d (de_varP (pv 2 rfl (Or.inl rfl)))) dr_nil)))))) (dg_n sc__law_rows.nd rfl (Or.inl rfl) rfl (Or.inr rfl)) (dss_cons (ds_set sc__law_rows.nd rfl (Or.inl rfl) rfl (do_d (de_frz (do_call (k__law_of (P := P) (w := w) (base := base) g) (hr.mono (by decide : 2 ≤ 3)) rfl (passAt takesB) (dr_cons (ag_v (pv 0 rfl (Or.inl rfl))) (dr_cons (ag_d (de_frz (do_lst (da_cons de_str (da_cons de_str (da_cons de_str (da_cons de_str (da_cons de_str (da_cons de_str (da_cons de_str (da_cons de_str (da_cons de_str da_nil)))))))))))) dr_nil))))) rfl (Or.inr rfl)) (dss_one (ds_if (dt_cm cm_in (de_varP (pv 6 rfl (Or.inl rfl))) (de_tup (da_cons de_str (da_cons de_str da_nil))) rfl) (dss_one (ds_app (pv 4 rfl (Or.inl rfl)) (de_tup (da_cons (de_varP (pv 6 rfl (Or.inl rfl))) (da_cons (de_frz (do_call (k__law_take (P := P) (w := w) (base := base) g) (hr.mono (by decide : 1 ≤ 3)) rfl (passAt takesB) (dr_cons (ag_v (pv 0 rfl (Or.inl rfl))) (dr_cons (ag_d (de_lenV rfl g.b_len (pv 4 rfl (Or.inl rfl)))) dr_nil)))) (da_cons (de_frz (do_call (k__law_divisor (P := P) (w := w) (base := base) g) (hr.mono (by decide : 3 ≤ 3)) rfl (passAt takesB) (dr_cons (ag_v (pv 0 rfl (Or.inl rfl))) (dr_cons (ag_d (de_varP (pv 1 rfl (Or.inl rfl)))) dr_nil)))) da_nil)))))) (dss_one (ds_app (pv 4 rfl (Or.inl rfl)) (de_tup (da_cons (de_varP (pv 6 rfl (Or.inl rfl))) (da_cons (de_frz (do_call (k__law_take (P := P) (w := w) (base := base) g) (hr.mono (by decide : 1 ≤ 3)) rfl (passAt takesB) (dr_cons (ag_v (pv 0 rfl (Or.inl rfl))) (dr_cons (ag_d (de_lenV rfl g.b_len (pv 4 rfl (Or.inl rfl)))) dr_nil)))) (da_cons (de_frz (do_call (k__law_take (P := P) (w := w) (base := base) g) (hr.mono (by decide : 1 ≤ 3)) rfl (passAt takesB) (dr_cons (ag_v (pv 0 rfl (Or.inl rfl))) (dr_cons (ag_d (de_lenV rfl g.b_len (pv 4 rfl (Or.inl rfl)))) dr_nil)))) da_nil)))))))))) (dss_one (ds_ret (do_varMP rfl (pv 4 rfl (Or.inl rfl))))))))
theorem sc__law_sum : FnScope ["tin", "w", "lap", "rows_so", "own", "many_so", "deep_so"] ["tin", "w"] (defScope (top 45)) := ⟨rfl, rfl, rfl, by decide +kernel, rfl, by decide +kernel, by decide +kernel⟩
theorem k__law_sum (g : G K w) : Kn P w K base 5 (erK K) "_law_sum" ["tin", "w"] φ__law_sum := by
  show Kn P w K base (4 + 1) _ _ _ (run 2 7 [0, 1] m__law_sum)
  refine kn_of g.d__law_sum sc__law_sum (fun _ _ _ _ _ _ us hl => match us, hl with | [_, _], _ => rfl) fun f cdv A outer s H E hr => ?_
  exact (dss_cons (ds_for (passes_of rfl) rfl (di_range1 rfl g.b_range de_int) (dg_n sc__law_sum.nd rfl (Or.inl rfl) rfl (Or.inr rfl)) (dss_cons (ds_set sc__law_sum.nd rfl (Or.inl rfl) rfl (do_d (de_frz (do_call (k__law_rows (P := P) (w := w) (base := base) g) (hr.mono (by decide : 4 ≤ 4)) rfl (passAt takesB) (dr_cons (ag_v (pv 0 rfl (Or.inl rfl))) (dr_cons (ag_d (de_varP (pv 1 rfl (Or.inl rfl)))) (dr_cons (ag_d de_int) dr_nil)))))) rfl (Or.inr rfl)) (dss_cons (ds_asg (de_frz (do_call (k__law_built (P := P) (w := w) (base := base) g) (hr.mono (by decide : 1 ≤ 4)) rfl (passAt takesB) (dr_cons (ag_d (de_varP (pv 3 rfl (Or.inl rfl)))) dr_nil))) (dg_t rfl (dgs_cons (dg_n sc__law_sum.nd rfl (Or.inl rfl) rfl (Or.inr rfl)) (dgs_cons (dg_n sc__law_sum.nd rfl (Or.inl rfl) rfl (Or.inr rfl)) (dgs_cons (dg_n sc__law_sum.nd rfl (Or.inl rfl) rfl (Or.inr rfl)) dgs_nil))))) (dss_one (ds_if (dt_w (dw_and (dt_cm cm_le (de_varP (pv 5 rfl (Or.inl rfl))) de_int rfl) (dw_and1 (dt_cm cm_le (de_varP (pv 6 rfl (Or.inl rfl))) de_int rfl)))) (dss_one (ds_ret (do_d (de_tup (da_cons (de_varP (pv 4 rfl (Or.inl rfl))) (da_cons (de_varP (pv 3 rfl (Or.inl rfl))) da_nil)))))) dss_nil))))) (dss_cons (ds_set sc__law_sum.nd rfl (Or.inl rfl) rfl (do_d (de_frz (do_lst (da_cons (de_tup (da_cons de_str (da_cons de_int da_nil))) (da_cons (de_tup (da_cons de_str (da_cons de_int (da_cons (bi_min rfl rfl g.b_min de_int (de_sub (de_frz (do_call (k__law_two (P := P) (w := w) (base := base) g) (hr.mono (by decide : 1 ≤ 4)) rfl (passAt takesB) (dr_cons (ag_d (de_varP (pv 1 rfl (Or.inl rfl)))) dr_nil))) de_int)) da_nil)))) da_nil))))) rfl (Or.inr rfl)) (dss_one (ds_ret (do_d (de_tup (da_cons (de_ix (de_frz (do_call (k__law_built (P := P) (w := w) (base := base) g) (hr.mono (by decide : 1 ≤ 4)) rfl (passAt takesB) (dr_cons (ag_d (de_varP (pv 3 rfl (Or.inl rfl)))) dr_nil))) de_int fun _ _ => rfl) (da_cons (de_varP (pv 3 rfl (Or.inl rfl))) da_nil))))))))
theorem sc__law_wide : FnScope ["tin"] ["tin"] (defScope (top 41)) := ⟨rfl, rfl, rfl, by decide +kernel, rfl, by decide +kernel, by decide +kernel⟩
theorem k__law_wide (g : G K w) : Kn P w K base 3 (erK K) "_law_wide" ["tin"] φ__law_wide := by
  show Kn P w K base (2 + 1) _ _ _ (run 1 1 [0] m__law_wide)
  refine kn_of g.d__law_wide sc__law_wide (fun _ _ _ _ _ _ us hl => match us, hl with | [_], _ => rfl) fun f cdv A outer s H E hr => ?_
  exact (dss_one (ds_ret (do_call (k__law_of (P := P) (w := w) (base := base) g) (hr.mono (by decide : 2 ≤ 2)) rfl (passAt takesB) (dr_cons (ag_v (pv 0 rfl (Or.inl rfl))) (dr_cons (ag_d (de_frz (do_lst (da_cons de_int (da_cons de_int (da_cons de_int (da_cons de_int (da_cons (de_add de_int (de_frz (do_call (k__law_take (P := P) (w := w) (base := base) g) (hr.mono (by decide : 1 ≤ 2)) rfl (passAt takesB) (dr_cons (ag_v (pv 0 rfl (Or.inl rfl))) (dr_cons (ag_d de_int) dr_nil))))) (da_cons (de_add de_int (de_frz (do_call (k__law_take (P := P) (w := w) (base := base) g) (hr.mono (by decide : 1 ≤ 2)) rfl (passAt takesB) (dr_cons (ag_v (pv 0 rfl (Or.inl rfl))) (dr_cons (ag_d de_int) dr_nil))))) da_nil))))))))) dr_nil)))))
theorem sc__law_worths : FnScope ["w", "rows_so", "words_so", "found", "every_so", "row_so", "a", "b"] ["w", "rows_so", "words_so"] (defScope (top 46)) := ⟨rfl, rfl, rfl, by decide +kernel, rfl, by decide +kernel, by decide +kernel⟩
theorem k__law_worths (g : G K w) : Kn P w K base 2 (erK K) "_law_worths" ["w", "rows_so", "words_so"] φ__law_worths := by
  show Kn P w K base (1 + 1) _ _ _ (run 3 8 [0, 1, 2] m__law_worths)
  refine kn_of g.d__law_worths sc__law_worths (fun _ _ _ _ _ _ us hl => match us, hl with | [_, _, _], _ => rfl) fun f cdv A outer s H E hr => ?_
  exact (dss_cons (ds_set2 rfl sc__law_worths.nd rfl rfl (by decide) rfl rfl rfl rfl (do_lst da_nil) (do_d (de_frz (do_call (k__law_two (P := P) (w := w) (base := base) g) (hr.mono (by decide : 1 ≤ 1)) rfl (passAt takesB) (dr_cons (ag_d (de_varP (pv 0 rfl (Or.inl rfl)))) dr_nil)))) rfl) (dss_cons (ds_for (passes_of rfl) rfl (di_seq (de_varP (pv 1 rfl (Or.inl rfl)))) (dg_n sc__law_worths.nd rfl (Or.inl rfl) rfl (Or.inr rfl)) (dss_cons (ds_if (dt_cm cm_in (de_ix (de_varP (pv 5 rfl (Or.inl rfl))) de_int fun _ _ => rfl) (de_tup (da_cons de_str (da_cons de_str da_nil))) rfl) (dss_cons (ds_app (pv 3 rfl (Or.inl rfl)) (de_if (dt_cm (cm_eq hr.units) (de_ix (de_varP (pv 5 rfl (Or.inl rfl))) de_int fun _ _ => rfl) de_str rfl) (de_ix (de_varP (pv 2 rfl (Or.inl rfl))) (de_ix (de_varP (pv 5 rfl (Or.inl rfl))) de_int fun _ _ => rfl) fun _ _ => rfl) (de_ix (de_varP (pv 5 rfl (Or.inl rfl))) de_int fun _ _ => rfl))) (dss_one ds_cont)) dss_nil) (dss_cons (ds_set2 rfl sc__law_worths.nd rfl rfl (by decide) rfl rfl rfl rfl (do_d (de_ixV (pv 3 rfl (Or.inl rfl)) (de_ix (de_varP (pv 5 rfl (Or.inl rfl))) de_int fun _ _ => rfl) fun _ _ => rfl)) (do_d (de_if (dt_cm cm_in (de_ix (de_varP (pv 5 rfl (Or.inl rfl))) de_int fun _ _ => rfl) (de_tup (da_cons de_str (da_cons de_str da_nil))) rfl) (de_ix (de_varP (pv 5 rfl (Or.inl rfl))) de_int fun _ _ => rfl) (de_ixV (pv 3 rfl (Or.inl rfl)) (de_ix (de_varP (pv 5 rfl (Or.inl rfl))) de_int fun _ _ => rfl) fun _ _ => rfl))) rfl) (dss_one (ds_if (dt_cm cm_in (de_ix (de_varP (pv 5 rfl (Or.inl rfl))) de_int fun _ _ => rfl) (de_tup (da_cons de_str (da_cons de_str da_nil))) rfl) (dss_one (ds_app (pv 3 rfl (Or.inl rfl)) (de_if (dt_cm (cm_eq hr.units) (de_ix (de_varP (pv 5 rfl (Or.inl rfl))) de_int fun _ _ => rfl) de_str rfl) (de_div (de_varP (pv 6 rfl (Or.inl rfl))) (de_varP (pv 7 rfl (Or.inl rfl)))) (de_mod (de_varP (pv 6 rfl (Or.inl rfl))) (de_varP (pv 7 rfl (Or.inl rfl))))))) (dss_one (ds_app (pv 3 rfl (Or.inl rfl)) (de_dixN (u1 hr.units) (do_disp (dps_cons de_str (de_mod (de_add (de_varP (pv 6 rfl (Or.inl rfl))) (de_varP (pv 7 rfl (Or.inl rfl)))) (de_varP (pv 4 rfl (Or.inl rfl)))) (dps_cons de_str (de_mod (de_sub (de_varP (pv 6 rfl (Or.inl rfl))) (de_varP (pv 7 rfl (Or.inl rfl)))) (de_varP (pv 4 rfl (Or.inl rfl)))) (dps_cons de_str (de_mod (de_mul (de_varP (pv 6 rfl (Or.inl rfl))) (de_varP (pv 7 rfl (Or.inl rfl)))) (de_varP (pv 4 rfl (Or.inl rfl)))) (dps_cons de_str (bi_min rfl rfl g.b_min (de_varP (pv 6 rfl (Or.inl rfl))) (de_varP (pv 7 rfl (Or.inl rfl)))) (dps_cons de_str (bi_max rfl rfl g.b_max (de_varP (pv 6 rfl (Or.inl rfl))) (de_varP (pv 7 rfl (Or.inl rfl)))) dps_nil)))))) (de_ix (de_varP (pv 5 rfl (Or.inl rfl))) de_int fun _ _ => rfl) fun _ _ => rfl)))))))) (dss_one (ds_ret (do_varMP rfl (pv 3 rfl (Or.inl rfl)))))))
theorem sc_is_number : FnScope ["thing"] ["thing"] (defScope (top 3)) := ⟨rfl, rfl, rfl, by decide +kernel, rfl, by decide +kernel, by decide +kernel⟩
theorem k_is_number (g : G K w) : Kn P w K base 1 (erK K) "is_number" ["thing"] φ_is_number := by
  show Kn P w K base (0 + 1) _ _ _ (run 1 1 [0] m_is_number)
  refine kn_of g.d_is_number sc_is_number (fun _ _ _ _ _ _ us hl => match us, hl with | [_], _ => rfl) fun f cdv A outer s H E hr => ?_
  exact (dss_one (ds_ret (do_d (de_andV (de_isi (t := .int) rfl g.b_isinstance rfl g.b_int boot_int (de_varP (pv 0 rfl (Or.inl rfl)))) (de_one (de_notV (de_isi (t := .bool) rfl g.b_isinstance rfl g.b_bool boot_bool (de_varP (pv 0 rfl (Or.inl rfl))))))))))
theorem sc_is_within : FnScope ["thing", "least", "most"] ["thing", "least", "most"] (defScope (top 4)) := ⟨rfl, rfl, rfl, by decide +kernel, rfl, by decide +kernel, by decide +kernel⟩
theorem k_is_within (g : G K w) : Kn P w K base 2 (erK K) "is_within" ["thing", "least", "most"] φ_is_within := by
  show Kn P w K base (1 + 1) _ _ _ (run 3 3 [0, 1, 2] m_is_within)
  refine kn_of g.d_is_within sc_is_within (fun _ _ _ _ _ _ us hl => match us, hl with | [_, _, _], _ => rfl) fun f cdv A outer s H E hr => ?_
  exact (dss_one (ds_ret (do_d (de_andV (de_frz (do_call (k_is_number (P := P) (w := w) (base := base) g) (hr.mono (by decide : 1 ≤ 1)) rfl (passAt takesB) (dr_cons (ag_d (de_varP (pv 0 rfl (Or.inl rfl)))) dr_nil))) (de_one (de_chain cm_le cm_le (de_varP (pv 1 rfl (Or.inl rfl))) (de_varP (pv 0 rfl (Or.inl rfl))) (de_varP (pv 2 rfl (Or.inl rfl))) rfl))))))
theorem sc_top_in : FnScope ["width"] ["width"] (defScope (top 10)) := ⟨rfl, rfl, rfl, by decide +kernel, rfl, by decide +kernel, by decide +kernel⟩
theorem k_top_in (g : G K w) : Kn P w K base 1 (erK K) "top_in" ["width"] φ_top_in := by
  show Kn P w K base (0 + 1) _ _ _ (run 1 1 [0] m_top_in)
  refine kn_of g.d_top_in sc_top_in (fun _ _ _ _ _ _ us hl => match us, hl with | [_], _ => rfl) fun f cdv A outer s H E hr => ?_
  exact (dss_one (ds_ret (do_d (de_sub (de_shl de_int (de_varP (pv 0 rfl (Or.inl rfl)))) de_int))))
theorem sc_is_head_of : FnScope ["width", "thing", "many"] ["width", "thing"] (defScope (top 16)) := ⟨rfl, rfl, rfl, by decide +kernel, rfl, by decide +kernel, by decide +kernel⟩
theorem k_is_head_of (g : G K w) : Kn P w K base 3 (erK K) "is_head_of" ["width", "thing"] φ_is_head_of := by
  show Kn P w K base (2 + 1) _ _ _ (run 2 3 [0, 1] m_is_head_of)
  refine kn_of g.d_is_head_of sc_is_head_of (fun _ _ _ _ _ _ us hl => match us, hl with | [_, _], _ => rfl) fun f cdv A outer s H E hr => ?_
  exact (dss_cons (ds_if (dt_w (dw_or (dt_not (dt_tru (de_isi (t := .tuple) rfl g.b_isinstance rfl g.b_tuple boot_tuple (de_varP (pv 1 rfl (Or.inl rfl)))) fun _ => rfl)) (dw_or (dt_cm (cm_eq hr.units) (de_varP (pv 1 rfl (Or.inl rfl))) (de_tup da_nil) rfl) (dw_or (dt_not (dt_tru (de_isi (t := .str) rfl g.b_isinstance rfl g.b_str boot_str (de_ix (de_varP (pv 1 rfl (Or.inl rfl))) de_int fun _ _ => rfl)) fun _ => rfl)) (dw_or1 (dt_notInTab rfl g.t_PARTS (de_ix (de_varP (pv 1 rfl (Or.inl rfl))) de_int fun _ _ => rfl))))))) (dss_one (ds_ret (do_d de_bl))) dss_nil) (dss_cons (ds_set sc_is_head_of.nd rfl (Or.inl rfl) rfl (do_d (de_tab rfl g.t_PARTS (de_ix (de_varP (pv 1 rfl (Or.inl rfl))) de_int fun _ _ => rfl) fun _ _ => rfl)) rfl (Or.inr rfl)) (dss_cons (ds_if (dt_cm (cm_eq hr.units) (de_varP (pv 2 rfl (Or.inl rfl))) de_int rfl) (dss_one (ds_ret (do_d (de_cm (cm_eq hr.units) (bi_len rfl g.b_len (de_varP (pv 1 rfl (Or.inl rfl)))) de_int rfl)))) dss_nil) (dss_cons (ds_if (dt_cm (cm_eq hr.units) (de_varP (pv 2 rfl (Or.inl rfl))) de_int rfl) (dss_one (ds_ret (do_d (de_andV (de_cm (cm_eq hr.units) (bi_len rfl g.b_len (de_varP (pv 1 rfl (Or.inl rfl)))) de_int rfl) (de_one (de_frz (do_call (k_is_within (P := P) (w := w) (base := base) g) (hr.mono (by decide : 2 ≤ 2)) rfl (passAt takesB) (dr_cons (ag_d (de_ix (de_varP (pv 1 rfl (Or.inl rfl))) de_int fun _ _ => rfl)) (dr_cons (ag_d de_int) (dr_cons (ag_d (de_frz (do_call (k_top_in (P := P) (w := w) (base := base) g) (hr.mono (by decide : 1 ≤ 2)) rfl (passAt takesB) (dr_cons (ag_d (de_varP (pv 0 rfl (Or.inl rfl)))) dr_nil)))) dr_nil)))))))))) dss_nil) (dss_one (ds_ret (do_d (de_andV (de_cm (cm_eq hr.units) (bi_len rfl g.b_len (de_varP (pv 1 rfl (Or.inl rfl)))) de_int rfl) (de_one (de_frz (do_call (k_is_within (P := P) (w := w) (base := base) g) (hr.mono (by decide : 2 ≤ 2)) rfl (passAt takesB) (dr_cons (ag_d (de_ix (de_varP (pv 1 rfl (Or.inl rfl))) de_int fun _ _ => rfl)) (dr_cons (ag_d de_int) (dr_cons (ag_d (de_frz (do_if (dt_cm (cm_eq hr.units) (de_ix (de_varP (pv 1 rfl (Or.inl rfl))) de_int fun _ _ => rfl) de_str rfl) (do_d (de_sub (de_gint rfl g.c_MOST_WORDS) de_int)) (do_call (k_top_in (P := P) (w := w) (base := base) g) (hr.mono (by decide : 1 ≤ 2)) rfl (passAt takesB) (dr_cons (ag_d (de_varP (pv 0 rfl (Or.inl rfl)))) dr_nil))))) dr_nil))))))))))))))
theorem sc_is_sum_in : FnScope ["width", "thing", "line", "count", "own", "depth", "part"] ["width", "thing"] (defScope (top 17)) := ⟨rfl, rfl, rfl, by decide +kernel, rfl, by decide +kernel, by decide +kernel⟩
theorem k_is_sum_in (g : G K w) : Kn P w K base 4 (erK K) "is_sum_in" ["width", "thing"] φ_is_sum_in := by
  show Kn P w K base (3 + 1) _ _ _ (run 2 7 [0, 1] m_is_sum_in)
  refine kn_of g.d_is_sum_in sc_is_sum_in (fun _ _ _ _ _ _ us hl => match us, hl with | [_, _], _ => rfl) fun f cdv A outer s H E hr => ?_
  exact (dss_cons (ds_set2 rfl sc_is_sum_in.nd rfl rfl (by decide) rfl rfl rfl rfl (do_lst (da_cons (de_tup (da_cons (de_varP (pv 1 rfl (Or.inl rfl))) (da_cons de_int da_nil))) da_nil)) (do_d de_int) rfl) (dss_cons (ds_while (passes_of rfl) (dt_neV hr.units (pv 2 rfl (Or.inl rfl)) (de_frz (do_lst da_nil))) (dss_cons (ds_asg (de_pop (pv 2 rfl (Or.inl rfl))) (dg_t rfl (dgs_cons (dg_n sc_is_sum_in.nd rfl (Or.inl rfl) rfl (Or.inr rfl)) (dgs_cons (dg_n sc_is_sum_in.nd rfl (Or.inr rfl) rfl (Or.inl rfl)) dgs_nil)))) (dss_cons (ds_set sc_is_sum_in.nd rfl (Or.inl rfl) rfl (do_d (de_add (de_varP (pv 3 rfl (Or.inl rfl))) de_int)) rfl (Or.inr rfl)) (dss_cons (ds_if (dt_w (dw_or (dt_cm cm_gt (de_varP (pv 5 rfl (Or.inr (Or.inl rfl)))) (de_gint rfl g.c_MOST_DEPTH) rfl) (dw_or (dt_cm cm_gt (de_varP (pv 3 rfl (Or.inl rfl))) (de_gint rfl g.c_MOST_PARTS) rfl) (dw_or1 (dt_not (dt_tru (de_frz (do_call (k_is_head_of (P := P) (w := w) (base := base) g) (hr.mono (by decide : 3 ≤ 3)) rfl (passAt takesB) (dr_cons (ag_d (de_varP (pv 0 rfl (Or.inl rfl)))) (dr_cons (ag_d (de_varP (pv 4 rfl (Or.inl rfl)))) dr_nil)))) fun _ => rfl)))))) (dss_one (ds_ret (do_d de_bl))) dss_nil) (dss_one (ds_ext (pv 2 rfl (Or.inl rfl)) (do_lc rfl sc_is_sum_in.nd (di_seq (de_frz (do_slice (de_varP (pv 4 rfl (Or.inl rfl))) (dpo_some de_int) (dpo_some (de_add de_int (de_tab rfl g.t_PARTS (de_ix (de_varP (pv 4 rfl (Or.inl rfl))) de_int fun _ _ => rfl) fun _ _ => rfl)))))) (blkOk_by (N := (["width", "thing", "line", "count", "own", "depth", "part"] : List Str)) (sc := defScope (top 17)) (own := ([("part", 6)] : List (Str × Nat))) (by decide +kernel)) rfl (fun _ _ _ _ _ => (dg_n sc_is_sum_in.nd rfl (Or.inl rfl) rfl (Or.inr rfl))) (fun _ _ _ _ _ => bif_nil) (fun _ _ _ _ _ => (de_tup (da_cons (de_varP (pv 6 rfl (Or.inl rfl))) (da_cons (de_add (de_varP (pv 5 rfl (Or.inr (Or.inl rfl)))) de_int) da_nil))))))))))) (dss_one (ds_ret (do_d de_bl)))))
theorem sc_sure_within : FnScope ["thing", "least", "most"] ["thing", "least", "most"] (defScope (top 6)) := ⟨rfl, rfl, rfl, by decide +kernel, rfl, by decide +kernel, by decide +kernel⟩
theorem k_sure_within (g : G K w) : Kn P w K base 3 (erK K) "sure_within" ["thing", "least", "most"] φ_sure_within := by
  show Kn P w K base (2 + 1) _ _ _ (run 3 3 [0, 1, 2] m_sure_within)
  refine kn_of g.d_sure_within sc_sure_within (fun _ _ _ _ _ _ us hl => match us, hl with | [_, _, _], _ => rfl) fun f cdv A outer s H E hr => ?_
  exact (dss_cons (ds_if (dt_not (dt_tru (de_frz (do_call (k_is_within (P := P) (w := w) (base := base) g) (hr.mono (by decide : 2 ≤ 2)) rfl (passAt takesB) (dr_cons (ag_d (de_varP (pv 0 rfl (Or.inl rfl)))) (dr_cons (ag_d (de_varP (pv 1 rfl (Or.inl rfl)))) (dr_cons (ag_d (de_varP (pv 2 rfl (Or.inl rfl)))) dr_nil))))) fun _ => rfl)) (dss_one (ds_raise rfl takesB g.x_Unfit rfl (fun _ => ⟨rfl, rfl⟩))) dss_nil) (dss_one (ds_ret (do_d (de_varP (pv 0 rfl (Or.inl rfl)))))))
theorem sc_sure_width : FnScope ["value"] ["value"] (defScope (top 9)) := ⟨rfl, rfl, rfl, by decide +kernel, rfl, by decide +kernel, by decide +kernel⟩
theorem k_sure_width (g : G K w) : Kn P w K base 4 (erK K) "sure_width" ["value"] φ_sure_width := by
  show Kn P w K base (3 + 1) _ _ _ (run 1 1 [0] m_sure_width)
  refine kn_of g.d_sure_width sc_sure_width (fun _ _ _ _ _ _ us hl => match us, hl with | [_], _ => rfl) fun f cdv A outer s H E hr => ?_
  exact (dss_one (ds_ret (do_call (k_sure_within (P := P) (w := w) (base := base) g) (hr.mono (by decide : 3 ≤ 3)) rfl (passAt takesB) (dr_cons (ag_d (de_varP (pv 0 rfl (Or.inl rfl)))) (dr_cons (ag_d de_int) (dr_cons (ag_d (de_gint rfl g.c_MOST_WIDTH)) dr_nil))))))
theorem sc_is_sum : FnScope ["width", "thing"] ["width", "thing"] (defScope (top 29)) := ⟨rfl, rfl, rfl, by decide +kernel, rfl, by decide +kernel, by decide +kernel⟩
theorem k_is_sum (g : G K w) : Kn P w K base 5 (erK K) "is_sum" ["width", "thing"] φ_is_sum := by
  show Kn P w K base (4 + 1) _ _ _ (run 2 2 [0, 1] m_is_sum)
  refine kn_of g.d_is_sum sc_is_sum (fun _ _ _ _ _ _ us hl => match us, hl with | [_, _], _ => rfl) fun f cdv A outer s H E hr => ?_
  exact (dss_one (ds_ret (do_call (k_is_sum_in (P := P) (w := w) (base := base) g) (hr.mono (by decide : 4 ≤ 4)) rfl (passAt takesB) (dr_cons (ag_d (de_frz (do_call (k_sure_width (P := P) (w := w) (base := base) g) (hr.mono (by decide : 4 ≤ 4)) rfl (passAt takesB) (dr_cons (ag_d (de_varP (pv 0 rfl (Or.inl rfl)))) dr_nil)))) (dr_cons (ag_d (de_varP (pv 1 rfl (Or.inl rfl)))) dr_nil)))))
theorem sc_rows_in : FnScope ["own", "rows", "line", "done", "part", "ready", "many", "second", "its"] ["own"] (defScope (top 19)) := ⟨rfl, rfl, rfl, by decide +kernel, rfl, by decide +kernel, by decide +kernel⟩
theorem k_rows_in (g : G K w) : Kn P w K base 1 (erK K) "rows_in" ["own"] φ_rows_in := by
  show Kn P w K base (0 + 1) _ _ _ (run 1 9 [0] m_rows_in)
  refine kn_of g.d_rows_in sc_rows_in (fun _ _ _ _ _ _ us hl => match us, hl with | [_], _ => rfl) fun f cdv A outer s H E hr => ?_
  exact (dss_cons (ds_set3 rfl sc_rows_in.nd rfl rfl rfl (by decide) (by decide) (by decide) rfl rfl rfl rfl rfl rfl (do_lst da_nil) (do_lst (da_cons (de_tup (da_cons (de_varP (pv 0 rfl (Or.inl rfl))) (da_cons de_bl da_nil))) da_nil)) (do_lst da_nil) rfl) (dss_cons (ds_while (passes_of rfl) (dt_neV hr.units (pv 2 rfl (Or.inl rfl)) (de_frz (do_lst da_nil))) (dss_cons (ds_asg (de_pop (pv 2 rfl (Or.inl rfl))) (dg_t rfl (dgs_cons (dg_n sc_rows_in.nd rfl (Or.inl rfl) rfl (Or.inr rfl)) (dgs_cons (dg_n sc_rows_in.nd rfl (Or.inl rfl) rfl (Or.inr rfl)) dgs_nil)))) (dss_cons (ds_set sc_rows_in.nd rfl (Or.inl rfl) rfl (do_d (de_tab rfl g.t_PARTS (de_ix (de_varP (pv 4 rfl (Or.inl rfl))) de_int fun _ _ => rfl) fun _ _ => rfl)) rfl (Or.inr rfl)) (dss_cons (ds_if (dt_w (dw_and (dt_cm cm_gt (de_varP (pv 6 rfl (Or.inl rfl))) de_int rfl) (dw_and1 (dt_not (dt_tru (de_varP (pv 5 rfl (Or.inl rfl))) fun _ => rfl))))) (dss_cons (ds_app (pv 2 rfl (Or.inl rfl)) (de_tup (da_cons (de_varP (pv 4 rfl (Or.inl rfl))) (da_cons de_bl da_nil)))) (dss_cons (ds_ext (pv 2 rfl (Or.inl rfl)) (do_lc rfl sc_rows_in.nd (di_seq (de_frz (do_rev (de_frz (do_slice (de_varP (pv 4 rfl (Or.inl rfl))) (dpo_some de_int) (dpo_some (de_add de_int (de_varP (pv 6 rfl (Or.inl rfl)))))))))) (blkOk_by (N := (["own", "rows", "line", "done", "part", "ready", "many", "second", "its"] : List Str)) (sc := defScope (top 19)) (own := ([("its", 8)] : List (Str × Nat))) (by decide +kernel)) rfl (fun _ _ _ _ _ => (dg_n sc_rows_in.nd rfl (Or.inl rfl) rfl (Or.inr rfl))) (fun _ _ _ _ _ => bif_nil) (fun _ _ _ _ _ => (de_tup (da_cons (de_varP (pv 8 rfl (Or.inl rfl))) (da_cons de_bl da_nil)))))) (dss_one ds_cont))) dss_nil) (dss_cons (ds_if (dt_cm (cm_eq hr.units) (de_varP (pv 6 rfl (Or.inl rfl))) de_int rfl) (dss_one (ds_app (pv 1 rfl (Or.inl rfl)) (de_varP (pv 4 rfl (Or.inl rfl))))) (dss_one (ds_if (dt_cm (cm_eq hr.units) (de_varP (pv 6 rfl (Or.inl rfl))) de_int rfl) (dss_one (ds_app (pv 1 rfl (Or.inl rfl)) (de_tup (da_cons (de_ix (de_varP (pv 4 rfl (Or.inl rfl))) de_int fun _ _ => rfl) (da_cons (de_pop (pv 3 rfl (Or.inl rfl))) (da_cons (de_ix (de_varP (pv 4 rfl (Or.inl rfl))) de_int fun _ _ => rfl) da_nil)))))) (dss_cons (ds_set sc_rows_in.nd rfl (Or.inl rfl) rfl (do_d (de_pop (pv 3 rfl (Or.inl rfl)))) rfl (Or.inr rfl)) (dss_one (ds_app (pv 1 rfl (Or.inl rfl)) (de_tup (da_cons (de_ix (de_varP (pv 4 rfl (Or.inl rfl))) de_int fun _ _ => rfl) (da_cons (de_pop (pv 3 rfl (Or.inl rfl))) (da_cons (de_varP (pv 7 rfl (Or.inl rfl))) da_nil)))))))))) (dss_one (ds_app (pv 3 rfl (Or.inl rfl)) (de_sub (de_lenV rfl g.b_len (pv 1 rfl (Or.inl rfl))) de_int)))))))) (dss_one (ds_ret (do_varMP rfl (pv 1 rfl (Or.inl rfl)))))))
theorem sc_tupled : FnScope ["value", "own"] ["value"] (defScope (top 5)) := ⟨rfl, rfl, rfl, by decide +kernel, rfl, by decide +kernel, by decide +kernel⟩
theorem k_tupled (g : G K w) : ∀ n, Kn P w K base (1 + n) (erK K) "tupled" ["value"] (φ_tupled n)
  | 0 => kn_stuck g.d_tupled (fun _ _ _ _ _ _ us hl => match us, hl with | [_], _ => rfl)
  | n + 1 => by
    have hrec := k_tupled g n
    show Kn P w K base (1 + n + 1) _ _ _ (run 1 2 [0] (m_tupled (φ_tupled n)))
    refine kn_of g.d_tupled sc_tupled (fun _ _ _ _ _ _ us hl => match us, hl with | [_], _ => rfl) fun f cdv A outer s H E hr => ?_
    exact (dss_one (ds_ret (do_d (de_if (dt_tru (de_isi2 (t := .list) (u := .tuple) rfl g.b_isinstance rfl g.b_list boot_list rfl g.b_tuple boot_tuple (de_varP (pv 0 rfl (Or.inl rfl)))) fun _ => rfl) (bi_tuple rfl g.b_tuple (de_frz (do_lc rfl sc_tupled.nd (di_seq (de_varP (pv 0 rfl (Or.inl rfl)))) (blkOk_by (N := (["value", "own"] : List Str)) (sc := defScope (top 5)) (own := ([("own", 1)] : List (Str × Nat))) (by decide +kernel)) rfl (fun _ _ _ _ _ => (dg_n sc_tupled.nd rfl (Or.inl rfl) rfl (Or.inr rfl))) (fun _ _ _ _ _ => bif_nil) (fun _ _ _ _ _ => (de_frz (do_call hrec (hr.mono (Nat.le_refl _)) rfl passNo (dr_cons (ag_d (de_varP (pv 1 rfl (Or.inl rfl)))) dr_nil))))))) (de_varP (pv 0 rfl (Or.inl rfl)))))))
theorem sc_sure_sum : FnScope ["width", "value", "own"] ["width", "value"] (defScope (top 18)) := ⟨rfl, rfl, rfl, by decide +kernel, rfl, by decide +kernel, by decide +kernel⟩
theorem k_sure_sum (g : G K w) : Kn P w K base 26 (erK K) "sure_sum" ["width", "value"] φ_sure_sum := by
  show Kn P w K base (25 + 1) _ _ _ (run 2 3 [0, 1] m_sure_sum)
  refine kn_of g.d_sure_sum sc_sure_sum (fun _ _ _ _ _ _ us hl => match us, hl with | [_, _], _ => rfl) fun f cdv A outer s H E hr => ?_
  exact (dss_cons (ds_set sc_sure_sum.nd rfl (Or.inl rfl) rfl (do_d (de_frz (do_call (k_tupled (P := P) (w := w) (base := base) g 24) (hr.mono (by decide : 25 ≤ 25)) rfl (passAt takesB) (dr_cons (ag_d (de_varP (pv 1 rfl (Or.inl rfl)))) dr_nil)))) rfl (Or.inr rfl)) (dss_cons (ds_if (dt_not (dt_tru (de_frz (do_call (k_is_sum_in (P := P) (w := w) (base := base) g) (hr.mono (by decide : 4 ≤ 25)) rfl (passAt takesB) (dr_cons (ag_d (de_varP (pv 0 rfl (Or.inl rfl)))) (dr_cons (ag_d (de_varP (pv 2 rfl (Or.inl rfl)))) dr_nil)))) fun _ => rfl)) (dss_one (ds_raise rfl takesB g.x_Unfit rfl (fun _ => ⟨rfl, rfl⟩))) dss_nil) (dss_one (ds_ret (do_d (de_varP (pv 2 rfl (Or.inl rfl))))))))
theorem sc_words_in : FnScope ["rows", "row"] ["rows"] (defScope (top 20)) := ⟨rfl, rfl, rfl, by decide +kernel, rfl, by decide +kernel, by decide +kernel⟩
theorem k_words_in (g : G K w) : Kn P w K base 1 (erK K) "words_in" ["rows"] φ_words_in := by
  show Kn P w K base (0 + 1) _ _ _ (run 1 2 [0] m_words_in)
  refine kn_of g.d_words_in sc_words_in (fun _ _ _ _ _ _ us hl => match us, hl with | [_], _ => rfl) fun f cdv A outer s H E hr => ?_
  exact (dss_one (ds_ret (do_d (bi_maxL rfl rfl g.b_max (de_frz (do_cat (do_lst (da_cons de_int da_nil)) (do_lc rfl sc_words_in.nd (di_seq (de_varP (pv 0 rfl (Or.inl rfl)))) (blkOk_by (N := (["rows", "row"] : List Str)) (sc := defScope (top 20)) (own := ([("row", 1)] : List (Str × Nat))) (by decide +kernel)) rfl (fun _ _ _ _ _ => (dg_n sc_words_in.nd rfl (Or.inl rfl) rfl (Or.inr rfl))) (fun _ _ _ _ _ => (bif_one (dt_cm (cm_eq hr.units) (de_ix (de_varP (pv 1 rfl (Or.inl rfl))) de_int fun _ _ => rfl) de_str rfl))) (fun _ _ _ _ _ => (de_add (de_ix (de_varP (pv 1 rfl (Or.inl rfl))) de_int fun _ _ => rfl) de_int)))))))))
theorem sc_put_into : FnScope ["width", "own", "parts", "wide", "told", "given", "rows", "found", "row", "its"] ["width", "own", "parts"] (defScope (top 33)) := ⟨rfl, rfl, rfl, by decide +kernel, rfl, by decide +kernel, by decide +kernel⟩
theorem k_put_into (g : G K w) : KnK P w K base 27 (erK K) "put_into" ["width", "own", "parts"] φ_put_into := by
  show KnK P w K base (26 + 1) _ _ _ (run 3 10 [0, 1, 2] m_put_into)
  refine knK_of g.d_put_into sc_put_into (fun _ _ _ _ _ _ us hl => match us, hl with | [_, _, _], _ => rfl) (fun _ _ _ _ _ _ us hl => match us, hl with | [_, _, _], _ => rfl) fun f cdv A outer s H E hr => ?_
  exact (dss_cons (ds_set sc_put_into.nd rfl (Or.inr rfl) rfl (do_d (de_frz (do_call (k_sure_width (P := P) (w := w) (base := base) g) (hr.mono (by decide : 4 ≤ 26)) rfl (passAt takesB) (dr_cons (ag_d (de_varP (pv 0 rfl (Or.inl rfl)))) dr_nil)))) rfl (Or.inl rfl)) (dss_cons (ds_set2 rfl sc_put_into.nd rfl rfl (by decide) rfl rfl rfl rfl (do_d (de_frz (do_call (k_sure_sum (P := P) (w := w) (base := base) g) (hr.mono (by decide : 26 ≤ 26)) rfl (passAt takesB) (dr_cons (ag_d (de_varP (pv 3 rfl (Or.inr (Or.inl rfl))))) (dr_cons (ag_d (de_varP (pv 1 rfl (Or.inl rfl)))) dr_nil))))) (do_d (de_frz (do_call (k_tupled (P := P) (w := w) (base := base) g 24) (hr.mono (by decide : 25 ≤ 26)) rfl (passAt takesB) (dr_cons (ag_d (de_varP (pv 2 rfl (Or.inl rfl)))) dr_nil)))) rfl) (dss_cons (ds_set sc_put_into.nd rfl (Or.inl rfl) rfl (do_d (de_frz (do_call (k_rows_in (P := P) (w := w) (base := base) g) (hr.mono (by decide : 1 ≤ 26)) rfl (passAt takesB) (dr_cons (ag_d (de_varP (pv 4 rfl (Or.inl rfl)))) dr_nil)))) rfl (Or.inr rfl)) (dss_cons (ds_if (dt_w (dw_or (dt_not (dt_tru (de_isi (t := .tuple) rfl g.b_isinstance rfl g.b_tuple boot_tuple (de_varP (pv 5 rfl (Or.inl rfl)))) fun _ => rfl)) (dw_or1 (dt_not (dt_chain cm_le cm_le (de_frz (do_call (k_words_in (P := P) (w := w) (base := base) g) (hr.mono (by decide : 1 ≤ 26)) rfl (passAt takesB) (dr_cons (ag_d (de_varP (pv 6 rfl (Or.inl rfl)))) dr_nil))) (bi_len rfl g.b_len (de_varP (pv 5 rfl (Or.inl rfl)))) (de_gint rfl g.c_MOST_WORDS) rfl))))) (dss_one (ds_raise rfl takesB g.x_Unfit rfl (fun _ => ⟨rfl, rfl⟩))) dss_nil) (dss_cons (ds_set sc_put_into.nd rfl (Or.inl rfl) rfl (do_d (bi_tuple rfl g.b_tuple (de_frz (do_lc rfl sc_put_into.nd (di_seq (de_varP (pv 5 rfl (Or.inl rfl)))) (blkOk_by (N := (["width", "own", "parts", "wide", "told", "given", "rows", "found", "row", "its"] : List Str)) (sc := defScope (top 33)) (own := ([("its", 9)] : List (Str × Nat))) (by decide +kernel)) rfl (fun _ _ _ _ _ => (dg_n sc_put_into.nd rfl (Or.inl rfl) rfl (Or.inr rfl))) (fun _ _ _ _ _ => bif_nil) (fun _ _ _ _ _ => (de_frz (do_call (k_sure_sum (P := P) (w := w) (base := base) g) (hr.mono (by decide : 26 ≤ 26)) rfl passNo (dr_cons (ag_d (de_varP (pv 3 rfl (Or.inr (Or.inl rfl))))) (dr_cons (ag_d (de_varP (pv 9 rfl (Or.inl rfl)))) dr_nil))))))))) rfl (Or.inr rfl)) (dss_cons (ds_set sc_put_into.nd rfl (Or.inl rfl) rfl (do_lst da_nil) rfl (Or.inr rfl)) (dss_cons (ds_for (passes_of rfl) rfl (di_seq (de_varP (pv 6 rfl (Or.inl rfl)))) (dg_n sc_put_into.nd rfl (Or.inl rfl) rfl (Or.inr rfl)) (dss_one (ds_if (dt_cm cm_in (de_ix (de_varP (pv 8 rfl (Or.inl rfl))) de_int fun _ _ => rfl) (de_tup (da_cons de_str (da_cons de_str da_nil))) rfl) (dss_one (ds_app (pv 7 rfl (Or.inl rfl)) (de_if (dt_cm (cm_eq hr.units) (de_ix (de_varP (pv 8 rfl (Or.inl rfl))) de_int fun _ _ => rfl) de_str rfl) (de_ix (de_varP (pv 5 rfl (Or.inl rfl))) (de_ix (de_varP (pv 8 rfl (Or.inl rfl))) de_int fun _ _ => rfl) fun _ _ => rfl) (de_varP (pv 8 rfl (Or.inl rfl)))))) (dss_one (ds_if (dt_cm cm_in (de_ix (de_varP (pv 8 rfl (Or.inl rfl))) de_int fun _ _ => rfl) (de_tup (da_cons de_str (da_cons de_str da_nil))) rfl) (dss_one (ds_app (pv 7 rfl (Or.inl rfl)) (de_tup (da_cons (de_ix (de_varP (pv 8 rfl (Or.inl rfl))) de_int fun _ _ => rfl) (da_cons (de_ixV (pv 7 rfl (Or.inl rfl)) (de_ix (de_varP (pv 8 rfl (Or.inl rfl))) de_int fun _ _ => rfl) fun _ _ => rfl) (da_cons (de_ix (de_varP (pv 8 rfl (Or.inl rfl))) de_int fun _ _ => rfl) da_nil)))))) (dss_one (ds_app (pv 7 rfl (Or.inl rfl)) (de_tup (da_cons (de_ix (de_varP (pv 8 rfl (Or.inl rfl))) de_int fun _ _ => rfl) (da_cons (de_ixV (pv 7 rfl (Or.inl rfl)) (de_ix (de_varP (pv 8 rfl (Or.inl rfl))) de_int fun _ _ => rfl) fun _ _ => rfl) (da_cons (de_ixV (pv 7 rfl (Or.inl rfl)) (de_ix (de_varP (pv 8 rfl (Or.inl rfl))) de_int fun _ _ => rfl) fun _ _ => rfl) da_nil))))))))))) (dss_one (ds_ret (do_call (k_sure_sum (P := P) (w := w) (base := base) g) (hr.mono (by decide : 26 ≤ 26)) rfl (passAt takesB) (dr_cons (ag_d (de_varP (pv 3 rfl (Or.inr (Or.inl rfl))))) (dr_cons (ag_d (de_ixV (pv 7 rfl (Or.inl rfl)) (de_neg de_int) fun _ _ => rfl)) dr_nil))))))))))))
theorem sc_wide_most : FnScope ["one", "other"] ["one", "other"] (defScope (top 24)) := ⟨rfl, rfl, rfl, by decide +kernel, rfl, by decide +kernel, by decide +kernel⟩
theorem k_wide_most (g : G K w) : Kn P w K base 1 (erK K) "wide_most" ["one", "other"] φ_wide_most := by
  show Kn P w K base (0 + 1) _ _ _ (run 2 2 [0, 1] m_wide_most)
  refine kn_of g.d_wide_most sc_wide_most (fun _ _ _ _ _ _ us hl => match us, hl with | [_, _], _ => rfl) fun f cdv A outer s H E hr => ?_
  exact (dss_one (ds_ret (do_d (de_tup (da_cons (bi_max rfl rfl g.b_max (de_ix (de_varP (pv 0 rfl (Or.inl rfl))) de_int fun _ _ => rfl) (de_ix (de_varP (pv 1 rfl (Or.inl rfl))) de_int fun _ _ => rfl)) (da_cons (bi_max rfl rfl g.b_max (de_ix (de_varP (pv 0 rfl (Or.inl rfl))) de_int fun _ _ => rfl) (de_ix (de_varP (pv 1 rfl (Or.inl rfl))) de_int fun _ _ => rfl)) da_nil))))))
theorem sc_span_of : FnScope ["width", "head", "one", "other", "top"] ["width", "head", "one", "other"] (defScope (top 23)) := ⟨rfl, rfl, rfl, by decide +kernel, rfl, by decide +kernel, by decide +kernel⟩
theorem k_span_of (g : G K w) : Kn P w K base 2 (erK K) "span_of" ["width", "head", "one", "other"] φ_span_of := by
  show Kn P w K base (1 + 1) _ _ _ (run 4 5 [0, 1, 2, 3] m_span_of)
  refine kn_of g.d_span_of sc_span_of (fun _ _ _ _ _ _ us hl => match us, hl with | [_, _, _, _], _ => rfl) fun f cdv A outer s H E hr => ?_
  exact (dss_cons (ds_set sc_span_of.nd rfl (Or.inl rfl) rfl (do_d (de_frz (do_call (k_top_in (P := P) (w := w) (base := base) g) (hr.mono (by decide : 1 ≤ 1)) rfl (passAt takesB) (dr_cons (ag_d (de_varP (pv 0 rfl (Or.inl rfl)))) dr_nil)))) rfl (Or.inr rfl)) (dss_cons (ds_if (dt_cm (cm_eq hr.units) (de_varP (pv 1 rfl (Or.inl rfl))) de_str rfl) (dss_one (ds_ret (do_d (de_if (dt_cm cm_le (de_add (de_ix (de_varP (pv 2 rfl (Or.inl rfl))) de_int fun _ _ => rfl) (de_ix (de_varP (pv 3 rfl (Or.inl rfl))) de_int fun _ _ => rfl)) (de_varP (pv 4 rfl (Or.inl rfl))) rfl) (de_tup (da_cons (de_add (de_ix (de_varP (pv 2 rfl (Or.inl rfl))) de_int fun _ _ => rfl) (de_ix (de_varP (pv 3 rfl (Or.inl rfl))) de_int fun _ _ => rfl)) (da_cons (de_add (de_ix (de_varP (pv 2 rfl (Or.inl rfl))) de_int fun _ _ => rfl) (de_ix (de_varP (pv 3 rfl (Or.inl rfl))) de_int fun _ _ => rfl)) da_nil))) (de_tup (da_cons de_int (da_cons (de_varP (pv 4 rfl (Or.inl rfl))) da_nil))))))) dss_nil) (dss_cons (ds_if (dt_cm (cm_eq hr.units) (de_varP (pv 1 rfl (Or.inl rfl))) de_str rfl) (dss_one (ds_ret (do_d (de_if (dt_cm cm_ge (de_ix (de_varP (pv 2 rfl (Or.inl rfl))) de_int fun _ _ => rfl) (de_ix (de_varP (pv 3 rfl (Or.inl rfl))) de_int fun _ _ => rfl) rfl) (de_tup (da_cons (de_sub (de_ix (de_varP (pv 2 rfl (Or.inl rfl))) de_int fun _ _ => rfl) (de_ix (de_varP (pv 3 rfl (Or.inl rfl))) de_int fun _ _ => rfl)) (da_cons (de_sub (de_ix (de_varP (pv 2 rfl (Or.inl rfl))) de_int fun _ _ => rfl) (de_ix (de_varP (pv 3 rfl (Or.inl rfl))) de_int fun _ _ => rfl)) da_nil))) (de_tup (da_cons de_int (da_cons (de_varP (pv 4 rfl (Or.inl rfl))) da_nil))))))) dss_nil) (dss_cons (ds_if (dt_cm (cm_eq hr.units) (de_varP (pv 1 rfl (Or.inl rfl))) de_str rfl) (dss_one (ds_ret (do_d (de_if (dt_cm cm_le (de_mul (de_ix (de_varP (pv 2 rfl (Or.inl rfl))) de_int fun _ _ => rfl) (de_ix (de_varP (pv 3 rfl (Or.inl rfl))) de_int fun _ _ => rfl)) (de_varP (pv 4 rfl (Or.inl rfl))) rfl) (de_tup (da_cons (de_mul (de_ix (de_varP (pv 2 rfl (Or.inl rfl))) de_int fun _ _ => rfl) (de_ix (de_varP (pv 3 rfl (Or.inl rfl))) de_int fun _ _ => rfl)) (da_cons (de_mul (de_ix (de_varP (pv 2 rfl (Or.inl rfl))) de_int fun _ _ => rfl) (de_ix (de_varP (pv 3 rfl (Or.inl rfl))) de_int fun _ _ => rfl)) da_nil))) (de_tup (da_cons de_int (da_cons (de_varP (pv 4 rfl (Or.inl rfl))) da_nil))))))) dss_nil) (dss_cons (ds_if (dt_cm (cm_eq hr.units) (de_varP (pv 1 rfl (Or.inl rfl))) de_str rfl) (dss_one (ds_ret (do_d (de_tup (da_cons (de_div (de_ix (de_varP (pv 2 rfl (Or.inl rfl))) de_int fun _ _ => rfl) (de_varP (pv 3 rfl (Or.inl rfl)))) (da_cons (de_div (de_ix (de_varP (pv 2 rfl (Or.inl rfl))) de_int fun _ _ => rfl) (de_varP (pv 3 rfl (Or.inl rfl)))) da_nil)))))) dss_nil) (dss_cons (ds_if (dt_cm (cm_eq hr.units) (de_varP (pv 1 rfl (Or.inl rfl))) de_str rfl) (dss_one (ds_ret (do_d (de_if (dt_cm (cm_eq hr.units) (de_div (de_ix (de_varP (pv 2 rfl (Or.inl rfl))) de_int fun _ _ => rfl) (de_varP (pv 3 rfl (Or.inl rfl)))) (de_div (de_ix (de_varP (pv 2 rfl (Or.inl rfl))) de_int fun _ _ => rfl) (de_varP (pv 3 rfl (Or.inl rfl)))) rfl) (de_tup (da_cons (de_mod (de_ix (de_varP (pv 2 rfl (Or.inl rfl))) de_int fun _ _ => rfl) (de_varP (pv 3 rfl (Or.inl rfl)))) (da_cons (de_mod (de_ix (de_varP (pv 2 rfl (Or.inl rfl))) de_int fun _ _ => rfl) (de_varP (pv 3 rfl (Or.inl rfl)))) da_nil))) (de_tup (da_cons de_int (da_cons (de_sub (de_varP (pv 3 rfl (Or.inl rfl))) de_int) da_nil))))))) dss_nil) (dss_one (ds_ret (do_if (dt_cm (cm_eq hr.units) (de_varP (pv 1 rfl (Or.inl rfl))) de_str rfl) (do_d (de_tup (da_cons (bi_min rfl rfl g.b_min (de_ix (de_varP (pv 2 rfl (Or.inl rfl))) de_int fun _ _ => rfl) (de_ix (de_varP (pv 3 rfl (Or.inl rfl))) de_int fun _ _ => rfl)) (da_cons (bi_min rfl rfl g.b_min (de_ix (de_varP (pv 2 rfl (Or.inl rfl))) de_int fun _ _ => rfl) (de_ix (de_varP (pv 3 rfl (Or.inl rfl))) de_int fun _ _ => rfl)) da_nil)))) (do_call (k_wide_most (P := P) (w := w) (base := base) g) (hr.mono (by decide : 1 ≤ 1)) rfl (passAt takesB) (dr_cons (ag_d (de_varP (pv 2 rfl (Or.inl rfl)))) (dr_cons (ag_d (de_varP (pv 3 rfl (Or.inl rfl)))) dr_nil))))))))))))
theorem sc_spans_in : FnScope ["width", "rows", "spans", "found", "row", "other"] ["width", "rows", "spans"] (defScope (top 25)) := ⟨rfl, rfl, rfl, by decide +kernel, rfl, by decide +kernel, by decide +kernel⟩
theorem k_spans_in (g : G K w) : Kn P w K base 3 (erK K) "spans_in" ["width", "rows", "spans"] φ_spans_in := by
  show Kn P w K base (2 + 1) _ _ _ (run 3 6 [0, 1, 2] m_spans_in)
  refine kn_of g.d_spans_in sc_spans_in (fun _ _ _ _ _ _ us hl => match us, hl with | [_, _, _], _ => rfl) fun f cdv A outer s H E hr => ?_
  exact (dss_cons (ds_set sc_spans_in.nd rfl (Or.inl rfl) rfl (do_lst da_nil) rfl (Or.inr rfl)) (dss_cons (ds_for (passes_of rfl) rfl (di_seq (de_varP (pv 1 rfl (Or.inl rfl)))) (dg_n sc_spans_in.nd rfl (Or.inl rfl) rfl (Or.inr rfl)) (dss_one (ds_if (dt_cm cm_in (de_ix (de_varP (pv 4 rfl (Or.inl rfl))) de_int fun _ _ => rfl) (de_tup (da_cons de_str (da_cons de_str da_nil))) rfl) (dss_one (ds_app (pv 3 rfl (Or.inl rfl)) (de_if (dt_cm (cm_eq hr.units) (de_ix (de_varP (pv 4 rfl (Or.inl rfl))) de_int fun _ _ => rfl) de_str rfl) (de_ix (de_varP (pv 2 rfl (Or.inl rfl))) (de_ix (de_varP (pv 4 rfl (Or.inl rfl))) de_int fun _ _ => rfl) fun _ _ => rfl) (de_tup (da_cons (de_ix (de_varP (pv 4 rfl (Or.inl rfl))) de_int fun _ _ => rfl) (da_cons (de_ix (de_varP (pv 4 rfl (Or.inl rfl))) de_int fun _ _ => rfl) da_nil)))))) (dss_cons (ds_set sc_spans_in.nd rfl (Or.inl rfl) rfl (do_d (de_if (dt_cm cm_in (de_ix (de_varP (pv 4 rfl (Or.inl rfl))) de_int fun _ _ => rfl) (de_tup (da_cons de_str (da_cons de_str da_nil))) rfl) (de_ix (de_varP (pv 4 rfl (Or.inl rfl))) de_int fun _ _ => rfl) (de_ixV (pv 3 rfl (Or.inl rfl)) (de_ix (de_varP (pv 4 rfl (Or.inl rfl))) de_int fun _ _ => rfl) fun _ _ => rfl))) rfl (Or.inr rfl)) (dss_one (ds_app (pv 3 rfl (Or.inl rfl)) (de_frz (do_call (k_span_of (P := P) (w := w) (base := base) g) (hr.mono (by decide : 2 ≤ 2)) rfl (passAt takesB) (dr_cons (ag_d (de_varP (pv 0 rfl (Or.inl rfl)))) (dr_cons (ag_d (de_ix (de_varP (pv 4 rfl (Or.inl rfl))) de_int fun _ _ => rfl)) (dr_cons (ag_d (de_ixV (pv 3 rfl (Or.inl rfl)) (de_ix (de_varP (pv 4 rfl (Or.inl rfl))) de_int fun _ _ => rfl) fun _ _ => rfl)) (dr_cons (ag_d (de_varP (pv 5 rfl (Or.inl rfl)))) dr_nil)))))))))))) (dss_one (ds_ret (do_varMP rfl (pv 3 rfl (Or.inl rfl)))))))
theorem sc_is_span : FnScope ["width", "thing", "own"] ["width", "thing"] (defScope (top 27)) := ⟨rfl, rfl, rfl, by decide +kernel, rfl, by decide +kernel, by decide +kernel⟩
theorem k_is_span (g : G K w) : Kn P w K base 2 (erK K) "is_span" ["width", "thing"] φ_is_span := by
  show Kn P w K base (1 + 1) _ _ _ (run 2 3 [0, 1] m_is_span)
  refine kn_of g.d_is_span sc_is_span (fun _ _ _ _ _ _ us hl => match us, hl with | [_, _], _ => rfl) fun f cdv A outer s H E hr => ?_
  exact (dss_cons (ds_if (dt_w (dw_or (dt_not (dt_tru (de_isi (t := .tuple) rfl g.b_isinstance rfl g.b_tuple boot_tuple (de_varP (pv 1 rfl (Or.inl rfl)))) fun _ => rfl)) (dw_or (dt_cm (cm_ne hr.units) (bi_len rfl g.b_len (de_varP (pv 1 rfl (Or.inl rfl)))) de_int rfl) (dw_or1 (dt_not (dt_tru (bi_all rfl rfl g.b_all (de_frz (do_lc rfl sc_is_span.nd (di_seq (de_varP (pv 1 rfl (Or.inl rfl)))) (blkOk_by (N := (["width", "thing", "own"] : List Str)) (sc := defScope (top 27)) (own := ([("own", 2)] : List (Str × Nat))) (by decide +kernel)) rfl (fun _ _ _ _ _ => (dg_n sc_is_span.nd rfl (Or.inl rfl) rfl (Or.inr rfl))) (fun _ _ _ _ _ => bif_nil) (fun _ _ _ _ _ => (de_frz (do_call (k_is_number (P := P) (w := w) (base := base) g) (hr.mono (by decide : 1 ≤ 1)) rfl passNo (dr_cons (ag_d (de_varP (pv 2 rfl (Or.inl rfl)))) dr_nil))))))) fun _ => rfl)))))) (dss_one (ds_ret (do_d de_bl))) dss_nil) (dss_one (ds_ret (do_d (de_chain3 cm_le cm_le cm_le de_int (de_ix (de_varP (pv 1 rfl (Or.inl rfl))) de_int fun _ _ => rfl) (de_ix (de_varP (pv 1 rfl (Or.inl rfl))) de_int fun _ _ => rfl) (de_frz (do_call (k_top_in (P := P) (w := w) (base := base) g) (hr.mono (by decide : 1 ≤ 1)) rfl (passAt takesB) (dr_cons (ag_d (de_varP (pv 0 rfl (Or.inl rfl)))) dr_nil))) rfl)))))
theorem sc_sure_spans : FnScope ["width", "many", "value", "own", "its"] ["width", "many", "value"] (defScope (top 28)) := ⟨rfl, rfl, rfl, by decide +kernel, rfl, by decide +kernel, by decide +kernel⟩
theorem k_sure_spans (g : G K w) : Kn P w K base 26 (erK K) "sure_spans" ["width", "many", "value"] φ_sure_spans := by
  show Kn P w K base (25 + 1) _ _ _ (run 3 5 [0, 1, 2] m_sure_spans)
  refine kn_of g.d_sure_spans sc_sure_spans (fun _ _ _ _ _ _ us hl => match us, hl with | [_, _, _], _ => rfl) fun f cdv A outer s H E hr => ?_
  exact (dss_cons (ds_set sc_sure_spans.nd rfl (Or.inl rfl) rfl (do_d (de_frz (do_call (k_tupled (P := P) (w := w) (base := base) g 24) (hr.mono (by decide : 25 ≤ 25)) rfl (passAt takesB) (dr_cons (ag_d (de_varP (pv 2 rfl (Or.inl rfl)))) dr_nil)))) rfl (Or.inr rfl)) (dss_cons (ds_if (dt_w (dw_or (dt_not (dt_tru (de_isi (t := .tuple) rfl g.b_isinstance rfl g.b_tuple boot_tuple (de_varP (pv 3 rfl (Or.inl rfl)))) fun _ => rfl)) (dw_or1 (dt_not (dt_chain cm_le cm_le (de_varP (pv 1 rfl (Or.inl rfl))) (bi_len rfl g.b_len (de_varP (pv 3 rfl (Or.inl rfl)))) (de_gint rfl g.c_MOST_WORDS) rfl))))) (dss_one (ds_raise rfl takesB g.x_Unfit rfl (fun _ => ⟨rfl, rfl⟩))) dss_nil) (dss_cons (ds_if (dt_not (dt_tru (bi_all rfl rfl g.b_all (de_frz (do_lc rfl sc_sure_spans.nd (di_seq (de_varP (pv 3 rfl (Or.inl rfl)))) (blkOk_by (N := (["width", "many", "value", "own", "its"] : List Str)) (sc := defScope (top 28)) (own := ([("its", 4)] : List (Str × Nat))) (by decide +kernel)) rfl (fun _ _ _ _ _ => (dg_n sc_sure_spans.nd rfl (Or.inl rfl) rfl (Or.inr rfl))) (fun _ _ _ _ _ => bif_nil) (fun _ _ _ _ _ => (de_frz (do_call (k_is_span (P := P) (w := w) (base := base) g) (hr.mono (by decide : 2 ≤ 25)) rfl passNo (dr_cons (ag_d (de_varP (pv 0 rfl (Or.inr (Or.inl rfl))))) (dr_cons (ag_d (de_varP (pv 4 rfl (Or.inl rfl)))) dr_nil)))))))) fun _ => rfl)) (dss_one (ds_raise rfl takesB g.x_Unfit rfl (fun _ => ⟨rfl, rfl⟩))) dss_nil) (dss_one (ds_ret (do_d (de_varP (pv 3 rfl (Or.inl rfl)))))))))
theorem sc_sum_span : FnScope ["width", "own", "spans", "wide", "rows"] ["width", "own", "spans"] (defScope (top 32)) := ⟨rfl, rfl, rfl, by decide +kernel, rfl, by decide +kernel, by decide +kernel⟩
theorem k_sum_span (g : G K w) : KnK P w K base 27 (erK K) "sum_span" ["width", "own", "spans"] φ_sum_span := by
  show KnK P w K base (26 + 1) _ _ _ (run 3 5 [0, 1, 2] m_sum_span)
  refine knK_of g.d_sum_span sc_sum_span (fun _ _ _ _ _ _ us hl => match us, hl with | [_, _, _], _ => rfl) (fun _ _ _ _ _ _ us hl => match us, hl with | [_, _, _], _ => rfl) fun f cdv A outer s H E hr => ?_
  exact (dss_cons (ds_set sc_sum_span.nd rfl (Or.inl rfl) rfl (do_d (de_frz (do_call (k_sure_width (P := P) (w := w) (base := base) g) (hr.mono (by decide : 4 ≤ 26)) rfl (passAt takesB) (dr_cons (ag_d (de_varP (pv 0 rfl (Or.inl rfl)))) dr_nil)))) rfl (Or.inr rfl)) (dss_cons (ds_set sc_sum_span.nd rfl (Or.inl rfl) rfl (do_d (de_frz (do_call (k_rows_in (P := P) (w := w) (base := base) g) (hr.mono (by decide : 1 ≤ 26)) rfl (passAt takesB) (dr_cons (ag_d (de_frz (do_call (k_sure_sum (P := P) (w := w) (base := base) g) (hr.mono (by decide : 26 ≤ 26)) rfl (passAt takesB) (dr_cons (ag_d (de_varP (pv 3 rfl (Or.inl rfl)))) (dr_cons (ag_d (de_varP (pv 1 rfl (Or.inl rfl)))) dr_nil))))) dr_nil)))) rfl (Or.inr rfl)) (dss_one (ds_ret (do_d (de_ix (de_frz (do_call (k_spans_in (P := P) (w := w) (base := base) g) (hr.mono (by decide : 3 ≤ 26)) rfl (passAt takesB) (dr_cons (ag_d (de_varP (pv 3 rfl (Or.inl rfl)))) (dr_cons (ag_d (de_varP (pv 4 rfl (Or.inl rfl)))) (dr_cons (ag_d (de_frz (do_call (k_sure_spans (P := P) (w := w) (base := base) g) (hr.mono (by decide : 26 ≤ 26)) rfl (passAt takesB) (dr_cons (ag_d (de_varP (pv 3 rfl (Or.inl rfl)))) (dr_cons (ag_d (de_frz (do_call (k_words_in (P := P) (w := w) (base := base) g) (hr.mono (by decide : 1 ≤ 26)) rfl (passAt takesB) (dr_cons (ag_d (de_varP (pv 4 rfl (Or.inl rfl)))) dr_nil)))) (dr_cons (ag_d (de_varP (pv 2 rfl (Or.inl rfl)))) dr_nil)))))) dr_nil))))) (de_neg de_int) fun _ _ => rfl))))))
theorem sc_sure_words : FnScope ["width", "many", "value", "own", "its"] ["width", "many", "value"] (defScope (top 26)) := ⟨rfl, rfl, rfl, by decide +kernel, rfl, by decide +kernel, by decide +kernel⟩
theorem k_sure_words (g : G K w) : Kn P w K base 26 (erK K) "sure_words" ["width", "many", "value"] φ_sure_words := by
  show Kn P w K base (25 + 1) _ _ _ (run 3 5 [0, 1, 2] m_sure_words)
  refine kn_of g.d_sure_words sc_sure_words (fun _ _ _ _ _ _ us hl => match us, hl with | [_, _, _], _ => rfl) fun f cdv A outer s H E hr => ?_
  exact (dss_cons (ds_set sc_sure_words.nd rfl (Or.inl rfl) rfl (do_d (de_frz (do_call (k_tupled (P := P) (w := w) (base := base) g 24) (hr.mono (by decide : 25 ≤ 25)) rfl (passAt takesB) (dr_cons (ag_d (de_varP (pv 2 rfl (Or.inl rfl)))) dr_nil)))) rfl (Or.inr rfl)) (dss_cons (ds_if (dt_w (dw_or (dt_not (dt_tru (de_isi (t := .tuple) rfl g.b_isinstance rfl g.b_tuple boot_tuple (de_varP (pv 3 rfl (Or.inl rfl)))) fun _ => rfl)) (dw_or1 (dt_not (dt_chain cm_le cm_le (de_varP (pv 1 rfl (Or.inl rfl))) (bi_len rfl g.b_len (de_varP (pv 3 rfl (Or.inl rfl)))) (de_gint rfl g.c_MOST_WORDS) rfl))))) (dss_one (ds_raise rfl takesB g.x_Unfit rfl (fun _ => ⟨rfl, rfl⟩))) dss_nil) (dss_cons (ds_if (dt_not (dt_tru (bi_all rfl rfl g.b_all (de_frz (do_lc rfl sc_sure_words.nd (di_seq (de_varP (pv 3 rfl (Or.inl rfl)))) (blkOk_by (N := (["width", "many", "value", "own", "its"] : List Str)) (sc := defScope (top 26)) (own := ([("its", 4)] : List (Str × Nat))) (by decide +kernel)) rfl (fun _ _ _ _ _ => (dg_n sc_sure_words.nd rfl (Or.inl rfl) rfl (Or.inr rfl))) (fun _ _ _ _ _ => bif_nil) (fun _ _ _ _ _ => (de_frz (do_call (k_is_within (P := P) (w := w) (base := base) g) (hr.mono (by decide : 2 ≤ 25)) rfl passNo (dr_cons (ag_d (de_varP (pv 4 rfl (Or.inl rfl)))) (dr_cons (ag_d de_int) (dr_cons (ag_d (de_frz (do_call (k_top_in (P := P) (w := w) (base := base) g) (hr.mono (by decide : 1 ≤ 25)) rfl passNo (dr_cons (ag_d (de_varP (pv 0 rfl (Or.inr (Or.inl rfl))))) dr_nil)))) dr_nil))))))))) fun _ => rfl)) (dss_one (ds_raise rfl takesB g.x_Unfit rfl (fun _ => ⟨rfl, rfl⟩))) dss_nil) (dss_one (ds_ret (do_d (de_varP (pv 3 rfl (Or.inl rfl)))))))))
theorem sc_joined : FnScope ["width", "head", "one", "other", "top"] ["width", "head", "one", "other"] (defScope (top 21)) := ⟨rfl, rfl, rfl, by decide +kernel, rfl, by decide +kernel, by decide +kernel⟩
theorem k_joined (g : G K w) : Kn P w K base 2 (erK K) "joined" ["width", "head", "one", "other"] φ_joined := by
  show Kn P w K base (1 + 1) _ _ _ (run 4 5 [0, 1, 2, 3] m_joined)
  refine kn_of g.d_joined sc_joined (fun _ _ _ _ _ _ us hl => match us, hl with | [_, _, _, _], _ => rfl) fun f cdv A outer s H E hr => ?_
  exact (dss_cons (ds_set sc_joined.nd rfl (Or.inl rfl) rfl (do_d (de_frz (do_call (k_top_in (P := P) (w := w) (base := base) g) (hr.mono (by decide : 1 ≤ 1)) rfl (passAt takesB) (dr_cons (ag_d (de_varP (pv 0 rfl (Or.inl rfl)))) dr_nil)))) rfl (Or.inr rfl)) (dss_cons (ds_if (dt_cm (cm_eq hr.units) (de_varP (pv 1 rfl (Or.inl rfl))) de_str rfl) (dss_one (ds_ret (do_d (de_and (de_add (de_varP (pv 2 rfl (Or.inl rfl))) (de_varP (pv 3 rfl (Or.inl rfl)))) (de_varP (pv 4 rfl (Or.inl rfl))))))) dss_nil) (dss_cons (ds_if (dt_cm (cm_eq hr.units) (de_varP (pv 1 rfl (Or.inl rfl))) de_str rfl) (dss_one (ds_ret (do_d (de_and (de_sub (de_varP (pv 2 rfl (Or.inl rfl))) (de_varP (pv 3 rfl (Or.inl rfl)))) (de_varP (pv 4 rfl (Or.inl rfl))))))) dss_nil) (dss_cons (ds_if (dt_cm (cm_eq hr.units) (de_varP (pv 1 rfl (Or.inl rfl))) de_str rfl) (dss_one (ds_ret (do_d (de_and (de_mul (de_varP (pv 2 rfl (Or.inl rfl))) (de_varP (pv 3 rfl (Or.inl rfl)))) (de_varP (pv 4 rfl (Or.inl rfl))))))) dss_nil) (dss_cons (ds_if (dt_cm cm_in (de_varP (pv 1 rfl (Or.inl rfl))) (de_tup (da_cons de_str (da_cons de_str da_nil))) rfl) (dss_one (ds_ret (do_d (de_if (dt_cm (cm_eq hr.units) (de_varP (pv 1 rfl (Or.inl rfl))) de_str rfl) (de_div (de_varP (pv 2 rfl (Or.inl rfl))) (de_varP (pv 3 rfl (Or.inl rfl)))) (de_mod (de_varP (pv 2 rfl (Or.inl rfl))) (de_varP (pv 3 rfl (Or.inl rfl)))))))) dss_nil) (dss_one (ds_ret (do_d (de_if (dt_cm (cm_eq hr.units) (de_varP (pv 1 rfl (Or.inl rfl))) de_str rfl) (bi_min rfl rfl g.b_min (de_varP (pv 2 rfl (Or.inl rfl))) (de_varP (pv 3 rfl (Or.inl rfl)))) (bi_max rfl rfl g.b_max (de_varP (pv 2 rfl (Or.inl rfl))) (de_varP (pv 3 rfl (Or.inl rfl)))))))))))))
theorem sc_values_in : FnScope ["width", "rows", "words", "found", "row"] ["width", "rows", "words"] (defScope (top 22)) := ⟨rfl, rfl, rfl, by decide +kernel, rfl, by decide +kernel, by decide +kernel⟩
theorem k_values_in (g : G K w) : Kn P w K base 3 (erK K) "values_in" ["width", "rows", "words"] φ_values_in := by
  show Kn P w K base (2 + 1) _ _ _ (run 3 5 [0, 1, 2] m_values_in)
  refine kn_of g.d_values_in sc_values_in (fun _ _ _ _ _ _ us hl => match us, hl with | [_, _, _], _ => rfl) fun f cdv A outer s H E hr => ?_
  exact (dss_cons (ds_set sc_values_in.nd rfl (Or.inl rfl) rfl (do_lst da_nil) rfl (Or.inr rfl)) (dss_cons (ds_for (passes_of rfl) rfl (di_seq (de_varP (pv 1 rfl (Or.inl rfl)))) (dg_n sc_values_in.nd rfl (Or.inl rfl) rfl (Or.inr rfl)) (dss_one (ds_if (dt_cm cm_in (de_ix (de_varP (pv 4 rfl (Or.inl rfl))) de_int fun _ _ => rfl) (de_tup (da_cons de_str (da_cons de_str da_nil))) rfl) (dss_one (ds_app (pv 3 rfl (Or.inl rfl)) (de_if (dt_cm (cm_eq hr.units) (de_ix (de_varP (pv 4 rfl (Or.inl rfl))) de_int fun _ _ => rfl) de_str rfl) (de_ix (de_varP (pv 2 rfl (Or.inl rfl))) (de_ix (de_varP (pv 4 rfl (Or.inl rfl))) de_int fun _ _ => rfl) fun _ _ => rfl) (de_ix (de_varP (pv 4 rfl (Or.inl rfl))) de_int fun _ _ => rfl)))) (dss_one (ds_app (pv 3 rfl (Or.inl rfl)) (de_frz (do_call (k_joined (P := P) (w := w) (base := base) g) (hr.mono (by decide : 2 ≤ 2)) rfl (passAt takesB) (dr_cons (ag_d (de_varP (pv 0 rfl (Or.inl rfl)))) (dr_cons (ag_d (de_ix (de_varP (pv 4 rfl (Or.inl rfl))) de_int fun _ _ => rfl)) (dr_cons (ag_d (de_ixV (pv 3 rfl (Or.inl rfl)) (de_ix (de_varP (pv 4 rfl (Or.inl rfl))) de_int fun _ _ => rfl) fun _ _ => rfl)) (dr_cons (ag_d (de_if (dt_cm cm_in (de_ix (de_varP (pv 4 rfl (Or.inl rfl))) de_int fun _ _ => rfl) (de_tup (da_cons de_str (da_cons de_str da_nil))) rfl) (de_ix (de_varP (pv 4 rfl (Or.inl rfl))) de_int fun _ _ => rfl) (de_ixV (pv 3 rfl (Or.inl rfl)) (de_ix (de_varP (pv 4 rfl (Or.inl rfl))) de_int fun _ _ => rfl) fun _ _ => rfl))) dr_nil))))))))))) (dss_one (ds_ret (do_varMP rfl (pv 3 rfl (Or.inl rfl)))))))
theorem sc_sum_value : FnScope ["width", "own", "words", "wide", "rows"] ["width", "own", "words"] (defScope (top 31)) := ⟨rfl, rfl, rfl, by decide +kernel, rfl, by decide +kernel, by decide +kernel⟩
theorem k_sum_value (g : G K w) : KnK P w K base 27 (erK K) "sum_value" ["width", "own", "words"] φ_sum_value := by
  show KnK P w K base (26 + 1) _ _ _ (run 3 5 [0, 1, 2] m_sum_value)
  refine knK_of g.d_sum_value sc_sum_value (fun _ _ _ _ _ _ us hl => match us, hl with | [_, _, _], _ => rfl) (fun _ _ _ _ _ _ us hl => match us, hl with | [_, _, _], _ => rfl) fun f cdv A outer s H E hr => ?_
  exact (dss_cons (ds_set sc_sum_value.nd rfl (Or.inl rfl) rfl (do_d (de_frz (do_call (k_sure_width (P := P) (w := w) (base := base) g) (hr.mono (by decide : 4 ≤ 26)) rfl (passAt takesB) (dr_cons (ag_d (de_varP (pv 0 rfl (Or.inl rfl)))) dr_nil)))) rfl (Or.inr rfl)) (dss_cons (ds_set sc_sum_value.nd rfl (Or.inl rfl) rfl (do_d (de_frz (do_call (k_rows_in (P := P) (w := w) (base := base) g) (hr.mono (by decide : 1 ≤ 26)) rfl (passAt takesB) (dr_cons (ag_d (de_frz (do_call (k_sure_sum (P := P) (w := w) (base := base) g) (hr.mono (by decide : 26 ≤ 26)) rfl (passAt takesB) (dr_cons (ag_d (de_varP (pv 3 rfl (Or.inl rfl)))) (dr_cons (ag_d (de_varP (pv 1 rfl (Or.inl rfl)))) dr_nil))))) dr_nil)))) rfl (Or.inr rfl)) (dss_one (ds_ret (do_d (de_ix (de_frz (do_call (k_values_in (P := P) (w := w) (base := base) g) (hr.mono (by decide : 3 ≤ 26)) rfl (passAt takesB) (dr_cons (ag_d (de_varP (pv 3 rfl (Or.inl rfl)))) (dr_cons (ag_d (de_varP (pv 4 rfl (Or.inl rfl)))) (dr_cons (ag_d (de_frz (do_call (k_sure_words (P := P) (w := w) (base := base) g) (hr.mono (by decide : 26 ≤ 26)) rfl (passAt takesB) (dr_cons (ag_d (de_varP (pv 3 rfl (Or.inl rfl)))) (dr_cons (ag_d (de_frz (do_call (k_words_in (P := P) (w := w) (base := base) g) (hr.mono (by decide : 1 ≤ 26)) rfl (passAt takesB) (dr_cons (ag_d (de_varP (pv 4 rfl (Or.inl rfl)))) dr_nil)))) (dr_cons (ag_d (de_varP (pv 2 rfl (Or.inl rfl)))) dr_nil)))))) dr_nil))))) (de_neg de_int) fun _ _ => rfl))))))
theorem sc_words_of : FnScope ["width", "own"] ["width", "own"] (defScope (top 30)) := ⟨rfl, rfl, rfl, by decide +kernel, rfl, by decide +kernel, by decide +kernel⟩
theorem k_words_of (g : G K w) : KnK P w K base 27 (erK K) "words_of" ["width", "own"] φ_words_of := by
  show KnK P w K base (26 + 1) _ _ _ (run 2 2 [0, 1] m_words_of)
  refine knK_of g.d_words_of sc_words_of (fun _ _ _ _ _ _ us hl => match us, hl with | [_, _], _ => rfl) (fun _ _ _ _ _ _ us hl => match us, hl with | [_, _], _ => rfl) fun f cdv A outer s H E hr => ?_
  exact (dss_one (ds_ret (do_call (k_words_in (P := P) (w := w) (base := base) g) (hr.mono (by decide : 1 ≤ 26)) rfl (passAt takesB) (dr_cons (ag_d (de_frz (do_call (k_rows_in (P := P) (w := w) (base := base) g) (hr.mono (by decide : 1 ≤ 26)) rfl (passAt takesB) (dr_cons (ag_d (de_frz (do_call (k_sure_sum (P := P) (w := w) (base := base) g) (hr.mono (by decide : 26 ≤ 26)) rfl (passAt takesB) (dr_cons (ag_d (de_frz (do_call (k_sure_width (P := P) (w := w) (base := base) g) (hr.mono (by decide : 4 ≤ 26)) rfl (passAt takesB) (dr_cons (ag_d (de_varP (pv 0 rfl (Or.inl rfl)))) dr_nil)))) (dr_cons (ag_d (de_varP (pv 1 rfl (Or.inl rfl)))) dr_nil))))) dr_nil)))) dr_nil))))
theorem sc_law : FnScope ["script", "tin", "lap", "w", "top_so", "own", "rows_so", "words_so", "many_so", "spans_so", "k", "pair_so", "wide_so", "turn", "drawn_so", "parts_so", "small_so", "sizes_so", "far_so", "a", "b", "c", "deep_so", "bads_so", "goods_so", "its"] ["script"] (defScope (top 50)) := ⟨rfl, rfl, rfl, by decide +kernel, rfl, by decide +kernel, by decide +kernel⟩
theorem law_ok {f : Addr} {fd : FuncData} (g : G K w) (hd : FunD K.fr "law" "law" (defArgs (top 50)) (defBody (top 50)) (defScope (top 50)) [] [] f fd) : FnOk P w K.fr K.mg base (L2.CX P w) 28 f fd ["script"] (spF K (erK K) 1 φ_law) := by
  show FnOk P w K.fr K.mg base (L2.CX P w) (27 + 1) f fd ["script"] (spF K (erK K) 1 (run 1 26 [0] m_law))
  refine fn_by hd sc_law fun cdv A outer s H E hr => ?_
  exact (dss_cons (ds_set sc_law.nd rfl (Or.inr rfl) rfl (do_call (k__law_box (P := P) (w := w) (base := base) g) (hr.mono (by decide : 1 ≤ 27)) rfl (passAt takesB) (dr_cons (ag_d (de_frz (do_call (k__law_cells (P := P) (w := w) (base := base) g) (hr.mono (by decide : 1 ≤ 27)) rfl (passAt takesB) (dr_cons (ag_d (de_varP (pv 0 rfl (Or.inl rfl)))) (dr_cons (ag_d de_int) dr_nil))))) (dr_cons (ag_d de_int) dr_nil))) rfl (Or.inl rfl)) (dss_cons (ds_for (passes_of rfl) rfl (di_range1 rfl g.b_range de_int) (dg_n sc_law.nd rfl (Or.inl rfl) rfl (Or.inr rfl)) (dss_cons (ds_set sc_law.nd rfl (Or.inr rfl) rfl (do_d (de_frz (do_call (k__law_wide (P := P) (w := w) (base := base) g) (hr.mono (by decide : 3 ≤ 27)) rfl (passAt takesB) (dr_cons (ag_v (pv 1 rfl (Or.inr (Or.inl rfl)))) dr_nil)))) rfl (Or.inl rfl)) (dss_cons (ds_set sc_law.nd rfl (Or.inl rfl) rfl (do_d (de_sub (de_frz (do_call (k__law_two (P := P) (w := w) (base := base) g) (hr.mono (by decide : 1 ≤ 27)) rfl (passAt takesB) (dr_cons (ag_d (de_varP (pv 3 rfl (Or.inr (Or.inl rfl))))) dr_nil))) de_int)) rfl (Or.inr rfl)) (dss_cons (ds_asg (de_frz (do_call (k__law_sum (P := P) (w := w) (base := base) g) (hr.mono (by decide : 5 ≤ 27)) rfl (passAt takesB) (dr_cons (ag_v (pv 1 rfl (Or.inr (Or.inl rfl)))) (dr_cons (ag_d (de_varP (pv 3 rfl (Or.inr (Or.inl rfl))))) dr_nil)))) (dg_t rfl (dgs_cons (dg_n sc_law.nd rfl (Or.inl rfl) rfl (Or.inr rfl)) (dgs_cons (dg_n sc_law.nd rfl (Or.inl rfl) rfl (Or.inr rfl)) dgs_nil)))) (dss_cons (ds_set sc_law.nd rfl (Or.inr rfl) rfl (do_d (de_frz (do_call (k__law_edges (P := P) (w := w) (base := base) g) (hr.mono (by decide : 3 ≤ 27)) rfl (passAt takesB) (dr_cons (ag_v (pv 1 rfl (Or.inr (Or.inl rfl)))) (dr_cons (ag_d (de_varP (pv 3 rfl (Or.inr (Or.inl rfl))))) (dr_cons (ag_d (de_add de_int (de_frz (do_call (k__law_take (P := P) (w := w) (base := base) g) (hr.mono (by decide : 1 ≤ 27)) rfl (passAt takesB) (dr_cons (ag_v (pv 1 rfl (Or.inr (Or.inl rfl)))) (dr_cons (ag_d de_int) dr_nil)))))) dr_nil)))))) rfl (Or.inl rfl)) (dss_cons (ds_if (dt_not (dt_tru (de_frz (do_call (k__law_same (P := P) (w := w) (base := base) g 24) (hr.mono (by decide : 25 ≤ 27)) rfl (passAt takesB) (dr_cons (ag_d (de_frz (do_lst (da_cons (de_frz (do_call (k_is_sum (P := P) (w := w) (base := base) g) (hr.mono (by decide : 5 ≤ 27)) rfl (passAt takesB) (dr_cons (ag_d (de_varP (pv 3 rfl (Or.inr (Or.inl rfl))))) (dr_cons (ag_d (de_varP (pv 5 rfl (Or.inl rfl)))) dr_nil)))) (da_cons (de_frz (do_callK (k_sum_value (P := P) (w := w) (base := base) g) (hr.mono (by decide : 27 ≤ 27)) rfl (passAt takesB) (dk_cons (ag_d (de_varP (pv 3 rfl (Or.inr (Or.inl rfl))))) (dk_cons (ag_d (de_varP (pv 5 rfl (Or.inl rfl)))) (dk_cons (ag_d (de_varP (pv 7 rfl (Or.inr (Or.inl rfl))))) dk_nil))))) da_nil))))) (dr_cons (ag_d (de_frz (do_lst (da_cons de_bl (da_cons (de_ix (de_frz (do_call (k__law_worths (P := P) (w := w) (base := base) g) (hr.mono (by decide : 2 ≤ 27)) rfl (passAt takesB) (dr_cons (ag_d (de_varP (pv 3 rfl (Or.inr (Or.inl rfl))))) (dr_cons (ag_d (de_varP (pv 6 rfl (Or.inl rfl)))) (dr_cons (ag_d (de_varP (pv 7 rfl (Or.inr (Or.inl rfl))))) dr_nil))))) (de_neg de_int) fun _ _ => rfl) da_nil))))) dr_nil)))) fun _ => rfl)) (dss_one (ds_ret (do_d de_bl))) dss_nil) (dss_cons (ds_set sc_law.nd rfl (Or.inl rfl) rfl (do_d (de_frz (do_callK (k_words_of (P := P) (w := w) (base := base) g) (hr.mono (by decide : 27 ≤ 27)) rfl (passAt takesB) (dk_cons (ag_d (de_varP (pv 3 rfl (Or.inr (Or.inl rfl))))) (dk_cons (ag_d (de_varP (pv 5 rfl (Or.inl rfl)))) dk_nil))))) rfl (Or.inr rfl)) (dss_cons (ds_if (dt_w (dw_or (dt_not (dt_chain cm_le cm_le de_int (de_varP (pv 8 rfl (Or.inl rfl))) de_int rfl)) (dw_or1 (dt_not (dt_tru (de_frz (do_call (k__law_same (P := P) (w := w) (base := base) g 24) (hr.mono (by decide : 25 ≤ 27)) rfl (passAt takesB) (dr_cons (ag_d (de_frz (do_call (k_sum_value (P := P) (w := w) (base := base) g).kn (hr.mono (by decide : 27 ≤ 27)) rfl (passAt takesB) (dr_cons (ag_d (de_varP (pv 3 rfl (Or.inr (Or.inl rfl))))) (dr_cons (ag_d (de_varP (pv 5 rfl (Or.inl rfl)))) (dr_cons (ag_d (de_frz (do_slice (de_varP (pv 7 rfl (Or.inr (Or.inl rfl)))) dpo_none (dpo_some (de_varP (pv 8 rfl (Or.inl rfl))))))) dr_nil)))))) (dr_cons (ag_d (de_frz (do_call (k_sum_value (P := P) (w := w) (base := base) g).kn (hr.mono (by decide : 27 ≤ 27)) rfl (passAt takesB) (dr_cons (ag_d (de_varP (pv 3 rfl (Or.inr (Or.inl rfl))))) (dr_cons (ag_d (de_varP (pv 5 rfl (Or.inl rfl)))) (dr_cons (ag_d (de_varP (pv 7 rfl (Or.inr (Or.inl rfl))))) dr_nil)))))) dr_nil)))) fun _ => rfl))))) (dss_one (ds_ret (do_d de_bl))) dss_nil) (dss_cons (ds_set sc_law.nd rfl (Or.inl rfl) rfl (do_lst da_nil) rfl (Or.inr rfl)) (dss_cons (ds_for (passes_of rfl) rfl (di_range1 rfl g.b_range de_int) (dg_n sc_law.nd rfl (Or.inl rfl) rfl (Or.inr rfl)) (dss_cons (ds_set sc_law.nd rfl (Or.inl rfl) rfl (do_d (de_frz (do_sortT rfl g.b_sorted (de_frz (do_call (k__law_edges (P := P) (w := w) (base := base) g) (hr.mono (by decide : 3 ≤ 27)) rfl (passAt takesB) (dr_cons (ag_v (pv 1 rfl (Or.inr (Or.inl rfl)))) (dr_cons (ag_d (de_varP (pv 3 rfl (Or.inr (Or.inl rfl))))) (dr_cons (ag_d de_int) dr_nil)))))))) rfl (Or.inr rfl)) (dss_one (ds_app (pv 9 rfl (Or.inl rfl)) (de_tup (da_cons (de_ix (de_varP (pv 11 rfl (Or.inl rfl))) de_int fun _ _ => rfl) (da_cons (de_frz (do_call (k__law_of (P := P) (w := w) (base := base) g) (hr.mono (by decide : 2 ≤ 27)) rfl (passAt takesB) (dr_cons (ag_v (pv 1 rfl (Or.inr (Or.inl rfl)))) (dr_cons (ag_d (de_frz (do_lst (da_cons (de_ix (de_varP (pv 11 rfl (Or.inl rfl))) de_int fun _ _ => rfl) (da_cons (bi_min rfl rfl g.b_min (de_varP (pv 4 rfl (Or.inl rfl))) (de_add (de_ix (de_varP (pv 11 rfl (Or.inl rfl))) de_int fun _ _ => rfl) (de_frz (do_call (k__law_take (P := P) (w := w) (base := base) g) (hr.mono (by decide : 1 ≤ 27)) rfl (passAt takesB) (dr_cons (ag_v (pv 1 rfl (Or.inr (Or.inl rfl)))) (dr_cons (ag_d de_int) dr_nil)))))) da_nil))))) dr_nil)))) da_nil))))))) (dss_cons (ds_set sc_law.nd rfl (Or.inl rfl) rfl (do_d (de_ix (de_frz (do_call (k__law_spans (P := P) (w := w) (base := base) g) (hr.mono (by decide : 3 ≤ 27)) rfl (passAt takesB) (dr_cons (ag_d (de_varP (pv 3 rfl (Or.inr (Or.inl rfl))))) (dr_cons (ag_d (de_varP (pv 6 rfl (Or.inl rfl)))) (dr_cons (ag_d (de_varFP rfl (pv 9 rfl (Or.inl rfl)))) dr_nil))))) (de_neg de_int) fun _ _ => rfl)) rfl (Or.inr rfl)) (dss_cons (ds_if (dt_not (dt_tru (de_frz (do_call (k__law_same (P := P) (w := w) (base := base) g 24) (hr.mono (by decide : 25 ≤ 27)) rfl (passAt takesB) (dr_cons (ag_d (de_frz (do_callK (k_sum_span (P := P) (w := w) (base := base) g) (hr.mono (by decide : 27 ≤ 27)) rfl (passAt takesB) (dk_cons (ag_d (de_varP (pv 3 rfl (Or.inr (Or.inl rfl))))) (dk_cons (ag_d (de_varP (pv 5 rfl (Or.inl rfl)))) (dk_cons (ag_d (bi_tuple rfl g.b_tuple (de_varFP rfl (pv 9 rfl (Or.inl rfl))))) dk_nil)))))) (dr_cons (ag_d (de_varP (pv 12 rfl (Or.inl rfl)))) dr_nil)))) fun _ => rfl)) (dss_one (ds_ret (do_d de_bl))) dss_nil) (dss_cons (ds_for (passes_of rfl) rfl (di_range1 rfl g.b_range de_int) (dg_n sc_law.nd rfl (Or.inl rfl) rfl (Or.inr rfl)) (dss_cons (ds_set sc_law.nd rfl (Or.inl rfl) rfl (do_d (bi_tuple rfl g.b_tuple (de_frz (do_lc rfl sc_law.nd (di_seq (de_varFP rfl (pv 9 rfl (Or.inl rfl)))) (blkOk_by (N := (["script", "tin", "lap", "w", "top_so", "own", "rows_so", "words_so", "many_so", "spans_so", "k", "pair_so", "wide_so", "turn", "drawn_so", "parts_so", "small_so", "sizes_so", "far_so", "a", "b", "c", "deep_so", "bads_so", "goods_so", "its"] : List Str)) (sc := defScope (top 50)) (own := ([("a", 19), ("b", 20)] : List (Str × Nat))) (by decide +kernel)) rfl (fun _ _ _ _ _ => (dg_t rfl (dgs_cons (dg_n sc_law.nd rfl (Or.inl rfl) rfl (Or.inr rfl)) (dgs_cons (dg_n sc_law.nd rfl (Or.inl rfl) rfl (Or.inr rfl)) dgs_nil)))) (fun _ _ _ _ _ => bif_nil) (fun _ _ _ _ _ => (de_frz (do_call (k__law_of (P := P) (w := w) (base := base) g) (hr.mono (by decide : 2 ≤ 27)) rfl passNo (dr_cons (ag_v (pv 1 rfl (Or.inr (Or.inl rfl)))) (dr_cons (ag_d (de_frz (do_lst (da_cons (de_varP (pv 19 rfl (Or.inl rfl))) (da_cons (de_varP (pv 20 rfl (Or.inl rfl))) (da_cons (de_add (de_varP (pv 19 rfl (Or.inl rfl))) (de_frz (do_call (k__law_take (P := P) (w := w) (base := base) g) (hr.mono (by decide : 1 ≤ 27)) rfl passNo (dr_cons (ag_v (pv 1 rfl (Or.inr (Or.inl rfl)))) (dr_cons (ag_d (de_add (de_sub (de_varP (pv 20 rfl (Or.inl rfl))) (de_varP (pv 19 rfl (Or.inl rfl)))) de_int)) dr_nil))))) da_nil)))))) dr_nil))))))))) rfl (Or.inr rfl)) (dss_one (ds_if (dt_not (dt_chain cm_le cm_le (de_ix (de_varP (pv 12 rfl (Or.inl rfl))) de_int fun _ _ => rfl) (de_ix (de_frz (do_call (k__law_worths (P := P) (w := w) (base := base) g) (hr.mono (by decide : 2 ≤ 27)) rfl (passAt takesB) (dr_cons (ag_d (de_varP (pv 3 rfl (Or.inr (Or.inl rfl))))) (dr_cons (ag_d (de_varP (pv 6 rfl (Or.inl rfl)))) (dr_cons (ag_d (de_varP (pv 14 rfl (Or.inl rfl)))) dr_nil))))) (de_neg de_int) fun _ _ => rfl) (de_ix (de_varP (pv 12 rfl (Or.inl rfl))) de_int fun _ _ => rfl) rfl)) (dss_one (ds_ret (do_d de_bl))) dss_nil)))) (dss_cons (ds_setLcF rfl sc_law.nd rfl rfl rfl (sw_true rfl rfl rfl (by decide +kernel)) (di_range1 rfl g.b_range de_int) (blkOk_by (N := (["script", "tin", "lap", "w", "top_so", "own", "rows_so", "words_so", "many_so", "spans_so", "k", "pair_so", "wide_so", "turn", "drawn_so", "parts_so", "small_so", "sizes_so", "far_so", "a", "b", "c", "deep_so", "bads_so", "goods_so", "its"] : List Str)) (sc := defScope (top 50)) (own := ([("k", 10)] : List (Str × Nat))) (by decide +kernel)) rfl (fun _ _ _ _ _ => (dg_n sc_law.nd rfl (Or.inl rfl) rfl (Or.inr rfl))) (fun _ _ _ _ _ => bif_nil) (fun _ _ _ _ _ => (de_frz (do_call (k__law_sum (P := P) (w := w) (base := base) g) (hr.mono (by decide : 5 ≤ 27)) rfl passNo (dr_cons (ag_v (pv 1 rfl (Or.inr (Or.inl rfl)))) (dr_cons (ag_d (de_varP (pv 3 rfl (Or.inr (Or.inl rfl))))) dr_nil)))))) (dss_cons (ds_set sc_law.nd rfl (Or.inl rfl) rfl (do_d (de_tup (da_cons de_str (da_cons (de_tup (da_cons de_str (da_cons (de_tup (da_cons de_str (da_cons de_int da_nil))) (da_cons (de_add de_int (de_frz (do_call (k__law_take (P := P) (w := w) (base := base) g) (hr.mono (by decide : 1 ≤ 27)) rfl (passAt takesB) (dr_cons (ag_v (pv 1 rfl (Or.inr (Or.inl rfl)))) (dr_cons (ag_d (bi_min rfl rfl g.b_min de_int (de_varP (pv 4 rfl (Or.inl rfl))))) dr_nil))))) da_nil)))) (da_cons (de_tup (da_cons de_str (da_cons (de_tup (da_cons de_str (da_cons de_int da_nil))) (da_cons (de_tup (da_cons de_str (da_cons de_int da_nil))) da_nil)))) da_nil))))) rfl (Or.inr rfl)) (dss_cons (ds_setLcF rfl sc_law.nd rfl rfl rfl (sw_true rfl rfl rfl (by decide +kernel)) (di_seq (de_varP (pv 15 rfl (Or.inl rfl)))) (blkOk_by (N := (["script", "tin", "lap", "w", "top_so", "own", "rows_so", "words_so", "many_so", "spans_so", "k", "pair_so", "wide_so", "turn", "drawn_so", "parts_so", "small_so", "sizes_so", "far_so", "a", "b", "c", "deep_so", "bads_so", "goods_so", "its"] : List Str)) (sc := defScope (top 50)) (own := ([("its", 25)] : List (Str × Nat))) (by decide +kernel)) rfl (fun _ _ _ _ _ => (dg_n sc_law.nd rfl (Or.inl rfl) rfl (Or.inr rfl))) (fun _ _ _ _ _ => bif_nil) (fun _ _ _ _ _ => (de_frz (do_call (k__law_built (P := P) (w := w) (base := base) g) (hr.mono (by decide : 1 ≤ 27)) rfl passNo (dr_cons (ag_d (de_ix (de_varP (pv 25 rfl (Or.inl rfl))) de_int fun _ _ => rfl)) dr_nil))))) (dss_one (ds_if (dt_w (dw_and (dt_cm cm_lt (bi_sum rfl rfl g.b_sum (de_frz (do_lc rfl sc_law.nd (di_seq (de_varP (pv 17 rfl (Or.inl rfl)))) (blkOk_by (N := (["script", "tin", "lap", "w", "top_so", "own", "rows_so", "words_so", "many_so", "spans_so", "k", "pair_so", "wide_so", "turn", "drawn_so", "parts_so", "small_so", "sizes_so", "far_so", "a", "b", "c", "deep_so", "bads_so", "goods_so", "its"] : List Str)) (sc := defScope (top 50)) (own := ([("its", 25)] : List (Str × Nat))) (by decide +kernel)) rfl (fun _ _ _ _ _ => (dg_n sc_law.nd rfl (Or.inl rfl) rfl (Or.inr rfl))) (fun _ _ _ _ _ => bif_nil) (fun _ _ _ _ _ => (de_ix (de_varP (pv 25 rfl (Or.inl rfl))) de_int fun _ _ => rfl))))) de_int rfl) (dw_and1 (dt_cm cm_lt (bi_maxL rfl rfl g.b_max (de_frz (do_lc rfl sc_law.nd (di_seq (de_varP (pv 17 rfl (Or.inl rfl)))) (blkOk_by (N := (["script", "tin", "lap", "w", "top_so", "own", "rows_so", "words_so", "many_so", "spans_so", "k", "pair_so", "wide_so", "turn", "drawn_so", "parts_so", "small_so", "sizes_so", "far_so", "a", "b", "c", "deep_so", "bads_so", "goods_so", "its"] : List Str)) (sc := defScope (top 50)) (own := ([("its", 25)] : List (Str × Nat))) (by decide +kernel)) rfl (fun _ _ _ _ _ => (dg_n sc_law.nd rfl (Or.inl rfl) rfl (Or.inr rfl))) (fun _ _ _ _ _ => bif_nil) (fun _ _ _ _ _ => (de_ix (de_varP (pv 25 rfl (Or.inl rfl))) de_int fun _ _ => rfl))))) de_int rfl)))) (dss_cons (ds_set sc_law.nd rfl (Or.inl rfl) rfl (do_d (de_frz (do_callK (k_put_into (P := P) (w := w) (base := base) g) (hr.mono (by decide : 27 ≤ 27)) rfl (passAt takesB) (dk_cons (ag_d (de_varP (pv 3 rfl (Or.inr (Or.inl rfl))))) (dk_cons (ag_d (de_varP (pv 16 rfl (Or.inl rfl)))) (dk_cons (ag_d (bi_tuple rfl g.b_tuple (de_frz (do_lc rfl sc_law.nd (di_seq (de_varP (pv 15 rfl (Or.inl rfl)))) (blkOk_by (N := (["script", "tin", "lap", "w", "top_so", "own", "rows_so", "words_so", "many_so", "spans_so", "k", "pair_so", "wide_so", "turn", "drawn_so", "parts_so", "small_so", "sizes_so", "far_so", "a", "b", "c", "deep_so", "bads_so", "goods_so", "its"] : List Str)) (sc := defScope (top 50)) (own := ([("its", 25)] : List (Str × Nat))) (by decide +kernel)) rfl (fun _ _ _ _ _ => (dg_n sc_law.nd rfl (Or.inl rfl) rfl (Or.inr rfl))) (fun _ _ _ _ _ => bif_nil) (fun _ _ _ _ _ => (de_ix (de_varP (pv 25 rfl (Or.inl rfl))) de_int fun _ _ => rfl)))))) dk_nil)))))) rfl (Or.inr rfl)) (dss_cons (ds_asg (de_frz (do_lc rfl sc_law.nd (di_seq (de_varP (pv 15 rfl (Or.inl rfl)))) (blkOk_by (N := (["script", "tin", "lap", "w", "top_so", "own", "rows_so", "words_so", "many_so", "spans_so", "k", "pair_so", "wide_so", "turn", "drawn_so", "parts_so", "small_so", "sizes_so", "far_so", "a", "b", "c", "deep_so", "bads_so", "goods_so", "its"] : List Str)) (sc := defScope (top 50)) (own := ([("its", 25)] : List (Str × Nat))) (by decide +kernel)) rfl (fun _ _ _ _ _ => (dg_n sc_law.nd rfl (Or.inl rfl) rfl (Or.inr rfl))) (fun _ _ _ _ _ => bif_nil) (fun _ _ _ _ _ => (de_ix (de_frz (do_call (k__law_worths (P := P) (w := w) (base := base) g) (hr.mono (by decide : 2 ≤ 27)) rfl passNo (dr_cons (ag_d (de_varP (pv 3 rfl (Or.inr (Or.inl rfl))))) (dr_cons (ag_d (de_ix (de_varP (pv 25 rfl (Or.inl rfl))) de_int fun _ _ => rfl)) (dr_cons (ag_d (de_varP (pv 7 rfl (Or.inr (Or.inl rfl))))) dr_nil))))) (de_neg de_int) fun _ _ => rfl)))) (dg_tl rfl (dgs_cons (dg_n sc_law.nd rfl (Or.inl rfl) rfl (Or.inr rfl)) (dgs_cons (dg_n sc_law.nd rfl (Or.inl rfl) rfl (Or.inr rfl)) (dgs_cons (dg_n sc_law.nd rfl (Or.inl rfl) rfl (Or.inr rfl)) dgs_nil))))) (dss_one (ds_if (dt_not (dt_tru (de_frz (do_call (k__law_same (P := P) (w := w) (base := base) g 24) (hr.mono (by decide : 25 ≤ 27)) rfl (passAt takesB) (dr_cons (ag_d (de_frz (do_call (k_sum_value (P := P) (w := w) (base := base) g).kn (hr.mono (by decide : 27 ≤ 27)) rfl (passAt takesB) (dr_cons (ag_d (de_varP (pv 3 rfl (Or.inr (Or.inl rfl))))) (dr_cons (ag_d (de_varP (pv 18 rfl (Or.inl rfl)))) (dr_cons (ag_d (de_varP (pv 7 rfl (Or.inr (Or.inl rfl))))) dr_nil)))))) (dr_cons (ag_d (de_mod (de_add (de_mod (de_varP (pv 19 rfl (Or.inl rfl))) (de_ix (de_ix (de_varP (pv 16 rfl (Or.inl rfl))) de_int fun _ _ => rfl) de_int fun _ _ => rfl)) (bi_min rfl rfl g.b_min (de_varP (pv 20 rfl (Or.inl rfl))) (de_varP (pv 21 rfl (Or.inl rfl))))) (de_add (de_varP (pv 4 rfl (Or.inl rfl))) de_int))) dr_nil)))) fun _ => rfl)) (dss_one (ds_ret (do_d de_bl))) dss_nil)))) dss_nil)))))))))))))))))) (dss_cons (ds_set sc_law.nd rfl (Or.inl rfl) rfl (do_d (de_tup (da_cons de_str (da_cons de_int da_nil)))) rfl (Or.inr rfl)) (dss_cons (ds_for (passes_of rfl) rfl (di_range1 rfl g.b_range de_int) (dg_n sc_law.nd rfl (Or.inl rfl) rfl (Or.inr rfl)) (dss_one (ds_set sc_law.nd rfl (Or.inl rfl) rfl (do_d (de_tup (da_cons de_str (da_cons (de_varP (pv 22 rfl (Or.inl rfl))) (da_cons de_int da_nil))))) rfl (Or.inr rfl)))) (dss_cons (ds_set sc_law.nd rfl (Or.inl rfl) rfl (do_d (de_tup (da_cons de_str (da_cons de_int da_nil)))) rfl (Or.inr rfl)) (dss_cons (ds_for (passes_of rfl) rfl (di_range1 rfl g.b_range de_int) (dg_n sc_law.nd rfl (Or.inl rfl) rfl (Or.inr rfl)) (dss_one (ds_set sc_law.nd rfl (Or.inl rfl) rfl (do_d (de_tup (da_cons de_str (da_cons (de_varP (pv 12 rfl (Or.inl rfl))) (da_cons (de_varP (pv 12 rfl (Or.inl rfl))) da_nil))))) rfl (Or.inr rfl)))) (dss_cons (ds_set sc_law.nd rfl (Or.inl rfl) rfl (do_d (de_frz (do_lst (da_cons de_non (da_cons (de_tup da_nil) (da_cons (de_tup (da_cons de_str da_nil)) (da_cons (de_tup (da_cons de_str (da_cons de_int da_nil))) (da_cons (de_tup (da_cons de_str (da_cons (de_sub de_int de_int) da_nil))) (da_cons (de_tup (da_cons de_str (da_cons de_int da_nil))) (da_cons (de_tup (da_cons de_str (da_cons (de_tup (da_cons de_str (da_cons de_int da_nil))) (da_cons de_int da_nil)))) (da_cons (de_tup (da_cons de_str (da_cons (de_tup (da_cons de_str (da_cons de_int da_nil))) da_nil))) (da_cons (de_tup (da_cons de_str (da_cons (de_tup (da_cons de_str (da_cons de_int da_nil))) da_nil))) (da_cons (de_frz (do_lst (da_cons de_str (da_cons de_int da_nil)))) (da_cons (de_tup (da_cons de_str (da_cons de_int (da_cons de_int da_nil)))) da_nil)))))))))))))) rfl (Or.inr rfl)) (dss_cons (ds_set sc_law.nd rfl (Or.inl rfl) rfl (do_d (de_frz (do_cat (do_d (de_varP (pv 23 rfl (Or.inl rfl)))) (do_lst (da_cons (de_tup (da_cons de_str (da_cons (de_varP (pv 22 rfl (Or.inl rfl))) (da_cons de_int da_nil)))) (da_cons (de_tup (da_cons de_str (da_cons (de_tup (da_cons de_str (da_cons de_int da_nil))) (da_cons (de_tup (da_cons de_str (da_cons de_int da_nil))) da_nil)))) (da_cons (de_tup (da_cons de_str (da_cons (de_tup (da_cons de_str (da_cons de_int da_nil))) (da_cons de_int da_nil)))) (da_cons (de_tup (da_cons de_str (da_cons de_bl da_nil))) da_nil)))))))) rfl (Or.inr rfl)) (dss_cons (ds_set sc_law.nd rfl (Or.inl rfl) rfl (do_d (de_frz (do_cat (do_d (de_varP (pv 23 rfl (Or.inl rfl)))) (do_lst (da_cons (de_tup (da_cons de_str (da_cons (de_tup (da_cons de_str (da_cons de_int da_nil))) (da_cons (de_frz (do_lst (da_cons de_str (da_cons de_int da_nil)))) da_nil)))) (da_cons (de_tup (da_cons de_str (da_cons (de_varP (pv 12 rfl (Or.inl rfl))) (da_cons (de_tup (da_cons de_str (da_cons de_int da_nil))) (da_cons de_int da_nil))))) da_nil)))))) rfl (Or.inr rfl)) (dss_cons (ds_set sc_law.nd rfl (Or.inl rfl) rfl (do_d (de_frz (do_lst (da_cons (de_varP (pv 22 rfl (Or.inl rfl))) (da_cons (de_tup (da_cons de_str (da_cons (de_tup (da_cons de_str (da_cons de_int da_nil))) (da_cons (de_tup (da_cons de_str (da_cons de_int da_nil))) da_nil)))) da_nil))))) rfl (Or.inr rfl)) (dss_one (ds_ret (do_call (k__law_same (P := P) (w := w) (base := base) g 24) (hr.mono (by decide : 25 ≤ 27)) rfl (passAt takesB) (dr_cons (ag_d (de_frz (do_lc rfl sc_law.nd (di_seq (de_frz (do_cat (do_cat (do_d (de_varP (pv 23 rfl (Or.inl rfl)))) (do_lst (da_cons (de_varP (pv 12 rfl (Or.inl rfl))) da_nil))) (do_d (de_varP (pv 24 rfl (Or.inl rfl))))))) (blkOk_by (N := (["script", "tin", "lap", "w", "top_so", "own", "rows_so", "words_so", "many_so", "spans_so", "k", "pair_so", "wide_so", "turn", "drawn_so", "parts_so", "small_so", "sizes_so", "far_so", "a", "b", "c", "deep_so", "bads_so", "goods_so", "its"] : List Str)) (sc := defScope (top 50)) (own := ([("own", 5)] : List (Str × Nat))) (by decide +kernel)) rfl (fun _ _ _ _ _ => (dg_n sc_law.nd rfl (Or.inl rfl) rfl (Or.inr rfl))) (fun _ _ _ _ _ => bif_nil) (fun _ _ _ _ _ => (de_frz (do_call (k_is_sum (P := P) (w := w) (base := base) g) (hr.mono (by decide : 5 ≤ 27)) rfl passNo (dr_cons (ag_d de_int) (dr_cons (ag_d (de_varP (pv 5 rfl (Or.inl rfl)))) dr_nil)))))))) (dr_cons (ag_d (de_frz (do_cat (do_rep (do_lst (da_cons de_bl da_nil)) (de_add (bi_len rfl g.b_len (de_varP (pv 23 rfl (Or.inl rfl)))) de_int)) (do_lst (da_cons de_bl (da_cons de_bl da_nil)))))) dr_nil)))))))))))))))
end L41

set_option Elab.async false
set_option linter.all false
set_option maxRecDepth 100000
set_option maxHeartbeats 0
namespace L41
open PySem PySem.Spec PyProof.Rows L2 DL

def dd_is_number : He.DefD := ⟨("is_number", none), "is_number", "is_number", defArgs (top 3), defBody (top 3), defScope (top 3), [], []⟩
def dd_is_within : He.DefD := ⟨("is_within", none), "is_within", "is_within", defArgs (top 4), defBody (top 4), defScope (top 4), [], []⟩
def dd_tupled : He.DefD := ⟨("tupled", none), "tupled", "tupled", defArgs (top 5), defBody (top 5), defScope (top 5), [], []⟩
def dd_sure_within : He.DefD := ⟨("sure_within", none), "sure_within", "sure_within", defArgs (top 6), defBody (top 6), defScope (top 6), [], []⟩
def dd_sure_width : He.DefD := ⟨("sure_width", none), "sure_width", "sure_width", defArgs (top 9), defBody (top 9), defScope (top 9), [], []⟩
def dd_top_in : He.DefD := ⟨("top_in", none), "top_in", "top_in", defArgs (top 10), defBody (top 10), defScope (top 10), [], []⟩
def dd_is_head_of : He.DefD := ⟨("is_head_of", none), "is_head_of", "is_head_of", defArgs (top 16), defBody (top 16), defScope (top 16), [], []⟩
def dd_is_sum_in : He.DefD := ⟨("is_sum_in", none), "is_sum_in", "is_sum_in", defArgs (top 17), defBody (top 17), defScope (top 17), [], []⟩
def dd_sure_sum : He.DefD := ⟨("sure_sum", none), "sure_sum", "sure_sum", defArgs (top 18), defBody (top 18), defScope (top 18), [], []⟩
def dd_rows_in : He.DefD := ⟨("rows_in", none), "rows_in", "rows_in", defArgs (top 19), defBody (top 19), defScope (top 19), [], []⟩
def dd_words_in : He.DefD := ⟨("words_in", none), "words_in", "words_in", defArgs (top 20), defBody (top 20), defScope (top 20), [], []⟩
def dd_joined : He.DefD := ⟨("joined", none), "joined", "joined", defArgs (top 21), defBody (top 21), defScope (top 21), [], []⟩
def dd_values_in : He.DefD := ⟨("values_in", none), "values_in", "values_in", defArgs (top 22), defBody (top 22), defScope (top 22), [], []⟩
def dd_span_of : He.DefD := ⟨("span_of", none), "span_of", "span_of", defArgs (top 23), defBody (top 23), defScope (top 23), [], []⟩
def dd_wide_most : He.DefD := ⟨("wide_most", none), "wide_most", "wide_most", defArgs (top 24), defBody (top 24), defScope (top 24), [], []⟩
def dd_spans_in : He.DefD := ⟨("spans_in", none), "spans_in", "spans_in", defArgs (top 25), defBody (top 25), defScope (top 25), [], []⟩
def dd_sure_words : He.DefD := ⟨("sure_words", none), "sure_words", "sure_words", defArgs (top 26), defBody (top 26), defScope (top 26), [], []⟩
def dd_is_span : He.DefD := ⟨("is_span", none), "is_span", "is_span", defArgs (top 27), defBody (top 27), defScope (top 27), [], []⟩
def dd_sure_spans : He.DefD := ⟨("sure_spans", none), "sure_spans", "sure_spans", defArgs (top 28), defBody (top 28), defScope (top 28), [], []⟩
def dd_is_sum : He.DefD := ⟨("is_sum", none), "is_sum", "is_sum", defArgs (top 29), defBody (top 29), defScope (top 29), [], []⟩
def dd_words_of : He.DefD := ⟨("words_of", none), "words_of", "words_of", defArgs (top 30), defBody (top 30), defScope (top 30), [], []⟩
def dd_sum_value : He.DefD := ⟨("sum_value", none), "sum_value", "sum_value", defArgs (top 31), defBody (top 31), defScope (top 31), [], []⟩
def dd_sum_span : He.DefD := ⟨("sum_span", none), "sum_span", "sum_span", defArgs (top 32), defBody (top 32), defScope (top 32), [], []⟩
def dd_put_into : He.DefD := ⟨("put_into", none), "put_into", "put_into", defArgs (top 33), defBody (top 33), defScope (top 33), [], []⟩
def dd__law_box : He.DefD := ⟨("_law_box", none), "_law_box", "_law_box", defArgs (top 35), defBody (top 35), defScope (top 35), [], []⟩
def dd__law_take : He.DefD := ⟨("_law_take", none), "_law_take", "_law_take", defArgs (top 36), defBody (top 36), defScope (top 36), [], []⟩
def dd__law_cells : He.DefD := ⟨("_law_cells", none), "_law_cells", "_law_cells", defArgs (top 37), defBody (top 37), defScope (top 37), [], []⟩
def dd__law_of : He.DefD := ⟨("_law_of", none), "_law_of", "_law_of", defArgs (top 38), defBody (top 38), defScope (top 38), [], []⟩
def dd__law_same : He.DefD := ⟨("_law_same", none), "_law_same", "_law_same", defArgs (top 39), defBody (top 39), defScope (top 39), [], []⟩
def dd__law_two : He.DefD := ⟨("_law_two", none), "_law_two", "_law_two", defArgs (top 40), defBody (top 40), defScope (top 40), [], []⟩
def dd__law_wide : He.DefD := ⟨("_law_wide", none), "_law_wide", "_law_wide", defArgs (top 41), defBody (top 41), defScope (top 41), [], []⟩
def dd__law_divisor : He.DefD := ⟨("_law_divisor", none), "_law_divisor", "_law_divisor", defArgs (top 42), defBody (top 42), defScope (top 42), [], []⟩
def dd__law_rows : He.DefD := ⟨("_law_rows", none), "_law_rows", "_law_rows", defArgs (top 43), defBody (top 43), defScope (top 43), [], []⟩
def dd__law_built : He.DefD := ⟨("_law_built", none), "_law_built", "_law_built", defArgs (top 44), defBody (top 44), defScope (top 44), [], []⟩
def dd__law_sum : He.DefD := ⟨("_law_sum", none), "_law_sum", "_law_sum", defArgs (top 45), defBody (top 45), defScope (top 45), [], []⟩
def dd__law_worths : He.DefD := ⟨("_law_worths", none), "_law_worths", "_law_worths", defArgs (top 46), defBody (top 46), defScope (top 46), [], []⟩
def dd__law_edges : He.DefD := ⟨("_law_edges", none), "_law_edges", "_law_edges", defArgs (top 47), defBody (top 47), defScope (top 47), [], []⟩
def dd__law_joint : He.DefD := ⟨("_law_joint", none), "_law_joint", "_law_joint", defArgs (top 48), defBody (top 48), defScope (top 48), [], []⟩
def dd__law_spans : He.DefD := ⟨("_law_spans", none), "_law_spans", "_law_spans", defArgs (top 49), defBody (top 49), defScope (top 49), [], []⟩
def dd_law : He.DefD := ⟨("law", none), "law", "law", defArgs (top 50), defBody (top 50), defScope (top 50), [], []⟩
def fn : List He.DefD := ([dd_is_number, dd_is_within, dd_tupled, dd_sure_within, dd_sure_width, dd_top_in, dd_is_head_of, dd_is_sum_in, dd_sure_sum, dd_rows_in, dd_words_in, dd_joined, dd_values_in, dd_span_of, dd_wide_most, dd_spans_in, dd_sure_words, dd_is_span, dd_sure_spans, dd_is_sum, dd_words_of, dd_sum_value, dd_sum_span, dd_put_into] : List He.DefD) ++ ([dd__law_box, dd__law_take, dd__law_cells, dd__law_of, dd__law_same, dd__law_two, dd__law_wide, dd__law_divisor, dd__law_rows, dd__law_built, dd__law_sum, dd__law_worths, dd__law_edges, dd__law_joint, dd__law_spans, dd_law] : List He.DefD)
def fa : List He.Fa := ([.glo "is_number", .glo "is_within", .glo "tupled", .glo "sure_within", .glo "sure_width", .glo "top_in", .glo "is_head_of", .glo "is_sum_in", .glo "sure_sum", .glo "rows_in", .glo "words_in", .glo "joined", .glo "values_in", .glo "span_of", .glo "wide_most", .glo "spans_in", .glo "sure_words", .glo "is_span", .glo "sure_spans", .glo "is_sum", .glo "words_of", .glo "sum_value", .glo "sum_span", .glo "put_into"] : List He.Fa) ++ ([.glo "_law_box", .glo "_law_take", .glo "_law_cells", .glo "_law_of", .glo "_law_same", .glo "_law_two", .glo "_law_wide", .glo "_law_divisor", .glo "_law_rows", .glo "_law_built", .glo "_law_sum", .glo "_law_worths", .glo "_law_edges", .glo "_law_joint", .glo "_law_spans", .glo "law", .free "ValueError", .free "abs", .free "all", .free "bool", .free "enumerate", .free "int", .free "isinstance", .free "len"] : List He.Fa) ++ ([.free "list", .free "max", .free "min", .free "range", .free "sorted", .free "str", .free "sum", .free "tuple", .free "zip", .glo "Unfit", .exc "Unfit", .int "MOST_WIDTH" 64, .int "MOST_DEPTH" 18, .int "MOST_PARTS" 100, .int "MOST_WORDS" 10, .glo "PARTS"] : List He.Fa)
def loose : List PySem.Str := (["is_number", "is_within", "tupled", "sure_within", "sure_width", "top_in", "is_head_of", "is_sum_in", "sure_sum", "rows_in", "words_in", "joined", "values_in", "span_of", "wide_most", "spans_in", "sure_words", "is_span", "sure_spans", "is_sum", "words_of", "sum_value", "sum_span", "put_into"] : List PySem.Str) ++ (["_law_box", "_law_take", "_law_cells", "_law_of", "_law_same", "_law_two", "_law_wide", "_law_divisor", "_law_rows", "_law_built", "_law_sum", "_law_worths", "_law_edges", "_law_joint", "_law_spans", "Unfit", "MOST_WIDTH", "PARTS", "MOST_DEPTH", "MOST_PARTS", "MOST_WORDS"] : List PySem.Str)
def ts : List He.Tab := [(fun K => He.ga K "PARTS", ["word", "number", "plus", "less", "times", "over", "rest", "least", "most"])]
def exF (K : PySem.W.Frag) : Bool := noLists K && tabB K "PARTS" k_PARTS
abbrev R : PySem.W.OpenRow := PySem.W.OpenLaw.row PySem.Challenge.rw_dividedbytimes_k41_main_sums_and_their_s
abbrev hk : PySem.W.Hook := He.hookX 4 fa fn ts [] exF
def ob (s : PySem.W.SharedT) : He.AlX := He.obsX 4 fa fn ts [] exF (HandSHeadRun.getT s)
theorem ob_eq (s : PySem.W.SharedT) : ob s = hk.obs s.abs := He.obsX_eq (HandSHeadRun.getT_eq s)
theorem runF (w : World) : HandSHeadRun.RunEq R (PySem.W.view R.prog [50]) hk ob 6000 loose (w.withFollow "special-get-raises" false) := by
  intro os
  kernel_rfl
theorem runT (w : World) : HandSHeadRun.RunEq R (PySem.W.view R.prog [50]) hk ob 6000 loose (w.withFollow "special-get-raises" true) := by
  intro os
  kernel_rfl
theorem run (w : World) : HandSHeadRun.RunEq R (PySem.W.view R.prog [50]) hk ob 6000 loose w :=
  PySem.W.byRow2 "special-get-raises" (P := fun w => HandSHeadRun.RunEq R (PySem.W.view R.prog [50]) hk ob 6000 loose w) runF runT w
theorem ends (hc : PySem.W.WalkO (PySem.W.view R.prog [50]) loose (PySem.W.XL (PySem.W.view R.prog [50]) []) hk.says R.toRowW (HandSHeadRun.topDef R.prog 50) [] fun f vs => PySem.call f vs) : PySem.Challenge.rw_dividedbytimes_k41_main_sums_and_their_s.Holds := by
  w_on; o_law
  refine HandSHeadRun.head_any (r := R) (q := PySem.W.view R.prog [50]) (H := hk) (ob := ob) (M := 6000) (loose := loose) (d := HandSHeadRun.topDef R.prog 50) (kwd := []) ob_eq
    (by kernel_rfl) (fun s => by kernel_rfl) run (by kernel_rfl) (by kernel_rfl) (by kernel_rfl) (by rfl) (by first | assumption | decide +kernel) (by decide +kernel) ⟨rfl, rfl, rfl, rfl, rfl, by decide +kernel⟩ ?hw ?hc
  case hw => w_witness2
  case hc => exact hc
theorem facts {w : World} {K : PySem.W.Frag} {h : Heap} {mg : Str → Option Value} (X : K.In h) (N : h.Ns mainGlobals mg) (c : He.SaysX fa fn ts [] exF w h K) : G ⟨K, mg⟩ w where
  d_is_number := by
    obtain ⟨fd, h⟩ := c.t.d.def_ 0 (d := dd_is_number) rfl
    exact ⟨_, fd, h, He.glo_ok X N (c.t.d.fact 0 (f := .glo "is_number") rfl)⟩
  d_is_within := by
    obtain ⟨fd, h⟩ := c.t.d.def_ 1 (d := dd_is_within) rfl
    exact ⟨_, fd, h, He.glo_ok X N (c.t.d.fact 1 (f := .glo "is_within") rfl)⟩
  d_tupled := by
    obtain ⟨fd, h⟩ := c.t.d.def_ 2 (d := dd_tupled) rfl
    exact ⟨_, fd, h, He.glo_ok X N (c.t.d.fact 2 (f := .glo "tupled") rfl)⟩
  d_sure_within := by
    obtain ⟨fd, h⟩ := c.t.d.def_ 3 (d := dd_sure_within) rfl
    exact ⟨_, fd, h, He.glo_ok X N (c.t.d.fact 3 (f := .glo "sure_within") rfl)⟩
  d_sure_width := by
    obtain ⟨fd, h⟩ := c.t.d.def_ 4 (d := dd_sure_width) rfl
    exact ⟨_, fd, h, He.glo_ok X N (c.t.d.fact 4 (f := .glo "sure_width") rfl)⟩
  d_top_in := by
    obtain ⟨fd, h⟩ := c.t.d.def_ 5 (d := dd_top_in) rfl
    exact ⟨_, fd, h, He.glo_ok X N (c.t.d.fact 5 (f := .glo "top_in") rfl)⟩
  d_is_head_of := by
    obtain ⟨fd, h⟩ := c.t.d.def_ 6 (d := dd_is_head_of) rfl
    exact ⟨_, fd, h, He.glo_ok X N (c.t.d.fact 6 (f := .glo "is_head_of") rfl)⟩
  d_is_sum_in := by
    obtain ⟨fd, h⟩ := c.t.d.def_ 7 (d := dd_is_sum_in) rfl
    exact ⟨_, fd, h, He.glo_ok X N (c.t.d.fact 7 (f := .glo "is_sum_in") rfl)⟩
  d_sure_sum := by
    obtain ⟨fd, h⟩ := c.t.d.def_ 8 (d := dd_sure_sum) rfl
    exact ⟨_, fd, h, He.glo_ok X N (c.t.d.fact 8 (f := .glo "sure_sum") rfl)⟩
  d_rows_in := by
    obtain ⟨fd, h⟩ := c.t.d.def_ 9 (d := dd_rows_in) rfl
    exact ⟨_, fd, h, He.glo_ok X N (c.t.d.fact 9 (f := .glo "rows_in") rfl)⟩
  d_words_in := by
    obtain ⟨fd, h⟩ := c.t.d.def_ 10 (d := dd_words_in) rfl
    exact ⟨_, fd, h, He.glo_ok X N (c.t.d.fact 10 (f := .glo "words_in") rfl)⟩
  d_joined := by
    obtain ⟨fd, h⟩ := c.t.d.def_ 11 (d := dd_joined) rfl
    exact ⟨_, fd, h, He.glo_ok X N (c.t.d.fact 11 (f := .glo "joined") rfl)⟩
  d_values_in := by
    obtain ⟨fd, h⟩ := c.t.d.def_ 12 (d := dd_values_in) rfl
    exact ⟨_, fd, h, He.glo_ok X N (c.t.d.fact 12 (f := .glo "values_in") rfl)⟩
  d_span_of := by
    obtain ⟨fd, h⟩ := c.t.d.def_ 13 (d := dd_span_of) rfl
    exact ⟨_, fd, h, He.glo_ok X N (c.t.d.fact 13 (f := .glo "span_of") rfl)⟩
  d_wide_most := by
    obtain ⟨fd, h⟩ := c.t.d.def_ 14 (d := dd_wide_most) rfl
    exact ⟨_, fd, h, He.glo_ok X N (c.t.d.fact 14 (f := .glo "wide_most") rfl)⟩
  d_spans_in := by
    obtain ⟨fd, h⟩ := c.t.d.def_ 15 (d := dd_spans_in) rfl
    exact ⟨_, fd, h, He.glo_ok X N (c.t.d.fact 15 (f := .glo "spans_in") rfl)⟩
  d_sure_words := by
    obtain ⟨fd, h⟩ := c.t.d.def_ 16 (d := dd_sure_words) rfl
    exact ⟨_, fd, h, He.glo_ok X N (c.t.d.fact 16 (f := .glo "sure_words") rfl)⟩
  d_is_span := by
    obtain ⟨fd, h⟩ := c.t.d.def_ 17 (d := dd_is_span) rfl
    exact ⟨_, fd, h, He.glo_ok X N (c.t.d.fact 17 (f := .glo "is_span") rfl)⟩
  d_sure_spans := by
    obtain ⟨fd, h⟩ := c.t.d.def_ 18 (d := dd_sure_spans) rfl
    exact ⟨_, fd, h, He.glo_ok X N (c.t.d.fact 18 (f := .glo "sure_spans") rfl)⟩
  d_is_sum := by
    obtain ⟨fd, h⟩ := c.t.d.def_ 19 (d := dd_is_sum) rfl
    exact ⟨_, fd, h, He.glo_ok X N (c.t.d.fact 19 (f := .glo "is_sum") rfl)⟩
  d_words_of := by
    obtain ⟨fd, h⟩ := c.t.d.def_ 20 (d := dd_words_of) rfl
    exact ⟨_, fd, h, He.glo_ok X N (c.t.d.fact 20 (f := .glo "words_of") rfl)⟩
  d_sum_value := by
    obtain ⟨fd, h⟩ := c.t.d.def_ 21 (d := dd_sum_value) rfl
    exact ⟨_, fd, h, He.glo_ok X N (c.t.d.fact 21 (f := .glo "sum_value") rfl)⟩
  d_sum_span := by
    obtain ⟨fd, h⟩ := c.t.d.def_ 22 (d := dd_sum_span) rfl
    exact ⟨_, fd, h, He.glo_ok X N (c.t.d.fact 22 (f := .glo "sum_span") rfl)⟩
  d_put_into := by
    obtain ⟨fd, h⟩ := c.t.d.def_ 23 (d := dd_put_into) rfl
    exact ⟨_, fd, h, He.glo_ok X N (c.t.d.fact 23 (f := .glo "put_into") rfl)⟩
  d__law_box := by
    obtain ⟨fd, h⟩ := c.t.d.def_ 24 (d := dd__law_box) rfl
    exact ⟨_, fd, h, He.glo_ok X N (c.t.d.fact 24 (f := .glo "_law_box") rfl)⟩
  d__law_take := by
    obtain ⟨fd, h⟩ := c.t.d.def_ 25 (d := dd__law_take) rfl
    exact ⟨_, fd, h, He.glo_ok X N (c.t.d.fact 25 (f := .glo "_law_take") rfl)⟩
  d__law_cells := by
    obtain ⟨fd, h⟩ := c.t.d.def_ 26 (d := dd__law_cells) rfl
    exact ⟨_, fd, h, He.glo_ok X N (c.t.d.fact 26 (f := .glo "_law_cells") rfl)⟩
  d__law_of := by
    obtain ⟨fd, h⟩ := c.t.d.def_ 27 (d := dd__law_of) rfl
    exact ⟨_, fd, h, He.glo_ok X N (c.t.d.fact 27 (f := .glo "_law_of") rfl)⟩
  d__law_same := by
    obtain ⟨fd, h⟩ := c.t.d.def_ 28 (d := dd__law_same) rfl
    exact ⟨_, fd, h, He.glo_ok X N (c.t.d.fact 28 (f := .glo "_law_same") rfl)⟩
  d__law_two := by
    obtain ⟨fd, h⟩ := c.t.d.def_ 29 (d := dd__law_two) rfl
    exact ⟨_, fd, h, He.glo_ok X N (c.t.d.fact 29 (f := .glo "_law_two") rfl)⟩
  d__law_wide := by
    obtain ⟨fd, h⟩ := c.t.d.def_ 30 (d := dd__law_wide) rfl
    exact ⟨_, fd, h, He.glo_ok X N (c.t.d.fact 30 (f := .glo "_law_wide") rfl)⟩
  d__law_divisor := by
    obtain ⟨fd, h⟩ := c.t.d.def_ 31 (d := dd__law_divisor) rfl
    exact ⟨_, fd, h, He.glo_ok X N (c.t.d.fact 31 (f := .glo "_law_divisor") rfl)⟩
  d__law_rows := by
    obtain ⟨fd, h⟩ := c.t.d.def_ 32 (d := dd__law_rows) rfl
    exact ⟨_, fd, h, He.glo_ok X N (c.t.d.fact 32 (f := .glo "_law_rows") rfl)⟩
  d__law_built := by
    obtain ⟨fd, h⟩ := c.t.d.def_ 33 (d := dd__law_built) rfl
    exact ⟨_, fd, h, He.glo_ok X N (c.t.d.fact 33 (f := .glo "_law_built") rfl)⟩
  d__law_sum := by
    obtain ⟨fd, h⟩ := c.t.d.def_ 34 (d := dd__law_sum) rfl
    exact ⟨_, fd, h, He.glo_ok X N (c.t.d.fact 34 (f := .glo "_law_sum") rfl)⟩
  d__law_worths := by
    obtain ⟨fd, h⟩ := c.t.d.def_ 35 (d := dd__law_worths) rfl
    exact ⟨_, fd, h, He.glo_ok X N (c.t.d.fact 35 (f := .glo "_law_worths") rfl)⟩
  d__law_edges := by
    obtain ⟨fd, h⟩ := c.t.d.def_ 36 (d := dd__law_edges) rfl
    exact ⟨_, fd, h, He.glo_ok X N (c.t.d.fact 36 (f := .glo "_law_edges") rfl)⟩
  d__law_joint := by
    obtain ⟨fd, h⟩ := c.t.d.def_ 37 (d := dd__law_joint) rfl
    exact ⟨_, fd, h, He.glo_ok X N (c.t.d.fact 37 (f := .glo "_law_joint") rfl)⟩
  d__law_spans := by
    obtain ⟨fd, h⟩ := c.t.d.def_ 38 (d := dd__law_spans) rfl
    exact ⟨_, fd, h, He.glo_ok X N (c.t.d.fact 38 (f := .glo "_law_spans") rfl)⟩
  d_law := by
    obtain ⟨fd, h⟩ := c.t.d.def_ 39 (d := dd_law) rfl
    exact ⟨_, fd, h, He.glo_ok X N (c.t.d.fact 39 (f := .glo "law") rfl)⟩
  b_ValueError := He.free_ok X N (c.t.d.fact 40 (f := .free "ValueError") rfl)
  b_abs := He.free_ok X N (c.t.d.fact 41 (f := .free "abs") rfl)
  b_all := He.free_ok X N (c.t.d.fact 42 (f := .free "all") rfl)
  b_bool := He.free_ok X N (c.t.d.fact 43 (f := .free "bool") rfl)
  b_enumerate := He.free_ok X N (c.t.d.fact 44 (f := .free "enumerate") rfl)
  b_int := He.free_ok X N (c.t.d.fact 45 (f := .free "int") rfl)
  b_isinstance := He.free_ok X N (c.t.d.fact 46 (f := .free "isinstance") rfl)
  b_len := He.free_ok X N (c.t.d.fact 47 (f := .free "len") rfl)
  b_list := He.free_ok X N (c.t.d.fact 48 (f := .free "list") rfl)
  b_max := He.free_ok X N (c.t.d.fact 49 (f := .free "max") rfl)
  b_min := He.free_ok X N (c.t.d.fact 50 (f := .free "min") rfl)
  b_range := He.free_ok X N (c.t.d.fact 51 (f := .free "range") rfl)
  b_sorted := He.free_ok X N (c.t.d.fact 52 (f := .free "sorted") rfl)
  b_str := He.free_ok X N (c.t.d.fact 53 (f := .free "str") rfl)
  b_sum := He.free_ok X N (c.t.d.fact 54 (f := .free "sum") rfl)
  b_tuple := He.free_ok X N (c.t.d.fact 55 (f := .free "tuple") rfl)
  b_zip := He.free_ok X N (c.t.d.fact 56 (f := .free "zip") rfl)
  c_MOST_WIDTH := He.int_ok X N (c.t.d.fact 59 (f := .int "MOST_WIDTH" 64) rfl)
  c_MOST_DEPTH := He.int_ok X N (c.t.d.fact 60 (f := .int "MOST_DEPTH" 18) rfl)
  c_MOST_PARTS := He.int_ok X N (c.t.d.fact 61 (f := .int "MOST_PARTS" 100) rfl)
  c_MOST_WORDS := He.int_ok X N (c.t.d.fact 62 (f := .int "MOST_WORDS" 10) rfl)
  x_Unfit := by
    obtain ⟨h1, h2, h3, h4⟩ := He.exc_ok (c.t.d.fact 58 (f := .exc "Unfit") rfl)
    exact ⟨He.glo_ok X N (c.t.d.fact 57 (f := .glo "Unfit") rfl), h1, h2, h3, h4⟩
  t_PARTS := by
    have m : exF K = true := c.more
    unfold exF at m
    simp only [Bool.and_eq_true] at m
    obtain ⟨es, n, D⟩ := c.t.tab 0
    exact tabB_ok (K := ⟨K, mg⟩) X N m.2 (He.glo_ok X N (c.t.d.fact 63 (f := .glo "PARTS") rfl)) D
theorem holds : PySem.Challenge.rw_dividedbytimes_k41_main_sums_and_their_s.Holds := by
  refine ends ?_
  refine dl_walk (l := PySem.Challenge.rw_dividedbytimes_k41_main_sums_and_their_s) (n := 63) (k := 28) (x := "script") rfl (by decide) (by kernel_rfl) ⟨rfl, by decide, by decide⟩ ?_
  intro w mg fa' h Y N hmg0
  obtain ⟨K, KX, c⟩ := Y
  have hmg : mg ("law" : PySem.Str) = some (.ref fa') := by
    have e : (HandSHeadRun.topDef R.prog 50).name = ("law" : PySem.Str) := by kernel_rfl
    rw [← e]
    exact hmg0
  obtain ⟨fd, hd⟩ := c.t.d.def_ 39 (d := dd_law) rfl
  have e := hmg.symm.trans (He.glo_ok KX N (c.t.d.fact 39 (f := .glo "law") rfl))
  cases e
  have g := facts KX N c
  have nl : noLists K = true := (by
    have m : exF K = true := c.more
    unfold exF at m
    simp only [Bool.and_eq_true] at m
    exact m.1)
  have b := FunD.bindsA (ps := ["script"]) hd fun _ _ _ _ _ _ us hl => match us, hl with | [_], _ => rfl
  refine ⟨K, fd, φ_law, KX, nl, fun s v => b s [v] rfl, good, fun base _ _ => ⟨erK ⟨K, mg⟩, ?_⟩⟩
  exact law_ok (K := ⟨K, mg⟩) g hd
end L41

theorem PySem.Challenge.cw_dividedbytimes_k41_main_sums_and_their_s_holds : PySem.Challenge.rw_dividedbytimes_k41_main_sums_and_their_s.Holds := by
  exact L41.holds
