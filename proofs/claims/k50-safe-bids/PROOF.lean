import PyProof.Rows.All
import Wide.All
import OpenK.AllK
import Wide.FinOn
import HandS.ForMost
import HandS.Wide
import HandS.Walk
import HandS.More
import HandS.IsInst
import HandS.Property
import HandS.Zip
import HandS.NoneIn
import HandS.Style
import HandS.Defaults
import HandS.Ends
import HandS.HeadEnd
import HandS.TupAny
import HandS.Head0
import HandS.Head1
import HandS.Head2
import HandS.HeadHook1
import HandS.HeadHook2
import KE.KStateDown
import PySem.Challenge.RW_placeworths_k50_whole_ranges_of_safe_bid
/-! ## DSem -/
section
set_option Elab.async false
set_option linter.all false
set_option maxRecDepth 100000
/-! The data layer's meaning: plain data, a state of slots, and what each construct makes of them. No program in sight. -/
namespace Dl
open PySem L2

/-- data that never changes -/
inductive D where
  | non | bl (b : Bool) | int (i : Int) | str (s : Str)
  | tup (xs : List D) | lst (xs : List D) | dic (kvs : List (Str × D)) | web (fs : List (Str × D)) | scr (ns : List Int)
instance : Inhabited D := ⟨.non⟩
/-- what a slot holds: data, or a list, a dict of its own that may still change, or the borrowed object -/
inductive A where
  | d (x : D) | own (xs : List D) | dct (kvs : List (Str × D)) | brw
/-- the borrowed object: a keg of three ints, an instance that is being made -/
inductive G where
  | no | keg (a b c : Int) | obj (fs : List (Str × D))
structure S where
  e : List (Option A)
  g : G
/-- a value just made: data, or a new list or dict that nothing else names -/
inductive R where
  | d (x : D) | fr (xs : List D) | fd (kvs : List (Str × D))
inductive O where
  | nx (s : S) | rt (d : D) (s : S)

abbrev M (α : Type) := S → Option (α × S)
def mRet {α : Type} (a : α) : M α := fun s => some (a, s)
def mFail {α : Type} : M α := fun _ => none
def mBind {α β : Type} (m : M α) (k : α → M β) : M β := fun s => match m s with
  | some (a, s') => k a s'
  | none => none
def mLift {α : Type} (o : Option α) : M α := fun s => match o with
  | some a => some (a, s)
  | none => none

def setA (s : S) (i : Nat) (a : A) : S := { s with e := s.e.set i (some a) }
def getA (s : S) (i : Nat) : Option A := match s.e[i]? with
  | some (some a) => some a
  | _ => none
def isOwn : A → Bool
  | .own _ => true
  | .dct _ => true
  | _ => false
def clrA (s : S) (i : Nat) : S := { s with e := s.e.set i none }
def wipeS (s : S) : List Nat → S
  | [] => s
  | i :: r => clrA (wipeS s r) i
/-- the slots vs as they were in s0 -/
def backS (s s0 : S) : List Nat → S
  | [] => s
  | i :: r => { backS s s0 r with e := (backS s s0 r).e.set i (match s0.e[i]? with | some a => a | none => none) }
def freeOf (s : S) (vs : List Nat) : Bool := vs.all fun i => match getA s i with
  | some a => !isOwn a
  | none => true

/-! ### values -/
def xC (d : D) : M D := mRet d
/-- a name's value, as data: what was its own is frozen -/
def xVar (i : Nat) : M D := fun s => match getA s i with
  | some (.d x) => some (x, s)
  | some (.own xs) => some (.lst xs, setA s i (.d (.lst xs)))
  | some (.dct kvs) => some (.dic kvs, setA s i (.d (.dic kvs)))
  | _ => none
def xUn (f : D → Option D) (a : M D) : M D := mBind a fun x => mLift (f x)
def xBin (f : D → D → Option D) (a b : M D) : M D := mBind a fun x => mBind b fun y => mLift (f x y)
def xFrz (m : M R) : M D := mBind m fun r => match r with
  | .d x => mRet x
  | .fr xs => mRet (.lst xs)
  | .fd kvs => mRet (.dic kvs)

def big : Nat := 2 ^ 8000
def mulOk (i j : Int) : Bool := decide (i.natAbs < 2 ^ 60) || (decide (j.natAbs < 2 ^ 60) || (decide (i.natAbs < big) && decide (j.natAbs < big)))
def oAdd : D → D → Option D
  | .int i, .int j => some (.int (i + j))
  | _, _ => none
def oSub : D → D → Option D
  | .int i, .int j => some (.int (i - j))
  | _, _ => none
def oMul : D → D → Option D
  | .int i, .int j => if mulOk i j = true then some (.int (i * j)) else none
  | _, _ => none
def oDiv : D → D → Option D
  | .int i, .int j => if 0 < j ∧ j.natAbs < big then some (.int (i / j)) else none
  | _, _ => none
def oMod : D → D → Option D
  | .int i, .int j => if 0 < j then some (.int (i % j)) else none
  | _, _ => none
def oPow : D → D → Option D
  | .int i, .int j => if 0 ≤ j ∧ j ≤ 1000 ∧ i.natAbs < 2 ^ 60 then some (.int (i ^ j.toNat)) else none
  | _, _ => none
/-- a tuple and another, the right one not empty -/
def oCatT : D → D → Option D
  | .tup xs, .tup ys => if xs ≠ [] ∧ ys ≠ [] ∧ xs.length + ys.length ≤ 1000 then some (.tup (xs ++ ys)) else none
  | _, _ => none
def oLt : D → D → Option Bool
  | .int i, .int j => some (decide (i < j))
  | .str x, .str y => some (decide (x.cps.toList < y.cps.toList))
  | _, _ => none
def oLe : D → D → Option Bool
  | .int i, .int j => some (decide (i ≤ j))
  | _, _ => none
def oGt : D → D → Option Bool
  | .int i, .int j => some (decide (j < i))
  | _, _ => none
def oGe : D → D → Option Bool
  | .int i, .int j => some (decide (j ≤ i))
  | _, _ => none
mutual
def D.py : D → Option PyData
  | .non => some .none
  | .bl b => some (.bool b)
  | .int i => some (.int i)
  | .str x => some (.str x)
  | .tup xs => match D.pys xs with
    | some ys => some (.tuple ys)
    | none => none
  | .lst xs => match D.pys xs with
    | some ys => some (.list ys)
    | none => none
  | _ => none
def D.pys : List D → Option (List PyData)
  | [] => some []
  | x :: xs => match D.py x, D.pys xs with
    | some y, some ys => some (y :: ys)
    | _, _ => none
end
def oEq (a b : D) : Option Bool := match a.py, b.py with
  | some x, some y => if SeqAt.shaped x = true ∧ SeqAt.shaped y = true then some (PyData.eqv x y) else none
  | _, _ => none
def strsOf : List D → Option (List Str)
  | [] => some []
  | .str x :: r => match strsOf r with
    | some ys => some (x :: ys)
    | none => none
  | _ :: _ => none
def blsOf : List D → Option (List Bool)
  | [] => some []
  | .bl x :: r => match blsOf r with
    | some ys => some (x :: ys)
    | none => none
  | _ :: _ => none
def oNe (a b : D) : Option Bool := match oEq a b with
  | some k => some (!k)
  | none => none
/-- a text among texts, a sign in a text -/
def oIn : D → D → Option Bool
  | .str x, .lst ys => match strsOf ys with
    | some zs => some (decide (x ∈ zs))
    | none => none
  | .str x, .tup ys => match strsOf ys with
    | some zs => some (decide (x ∈ zs))
    | none => none
  | _, _ => none
def oSign : D → D → Option Bool
  | .str x, .str y => match x.cps.toList with
    | [c] => some (decide (c ∈ y.cps.toList))
    | _ => none
  | _, _ => none
/-- a text among a dict's keys -/
def dGet (kvs : List (Str × D)) (k : Str) : Option D := match kvs with
  | [] => none
  | (j, v) :: r => if j = k then some v else dGet r k
def dPut (kvs : List (Str × D)) (k : Str) (v : D) : List (Str × D) := match kvs with
  | [] => [(k, v)]
  | (j, u) :: r => if j = k then (j, v) :: r else (j, u) :: dPut r k v
def oInD : D → D → Option Bool
  | .str k, .dic kvs => some (dGet kvs k).isSome
  | _, _ => none
def oIsN : D → Option Bool
  | .non => some true
  | .web _ => some false
  | .dic _ => some false
  | .tup _ => some false
  | .int _ => some false
  | .str _ => some false
  | _ => none
def oNotIn (a b : D) : Option Bool := match oIn a b with
  | some k => some (!k)
  | none => none
def oNotInD (a b : D) : Option Bool := match oInD a b with
  | some k => some (!k)
  | none => none
def oNotN (a : D) : Option Bool := match oIsN a with
  | some k => some (!k)
  | none => none
def asBl (o : Option Bool) : Option D := match o with
  | some b => some (.bl b)
  | none => none
def asNot (o : Option Bool) : Option Bool := match o with
  | some b => some (!b)
  | none => none
def oIx : D → D → Option D
  | .lst xs, .int i => atI xs i
  | .tup xs, .int i => atI xs i
  | .scr ns, .int i => match atI ns i with
    | some n => some (.int n)
    | none => none
  | .str x, .int i => if x.length ≤ 1000 then (match atI x.cps.toList i with
    | some c => some (.str ⟨#[c]⟩)
    | none => none) else none
  | _, _ => none
def oDix : D → D → Option D
  | .dic kvs, .str k => dGet kvs k
  | _, _ => none
def oFld (f : Str) : D → Option D
  | .web fs => dGet fs f
  | _ => none
def oLen : D → Option D
  | .lst xs => some (.int xs.length)
  | .tup xs => some (.int xs.length)
  | .scr xs => some (.int xs.length)
  | .str x => if x.length ≤ 1000 then some (.int x.length) else none
  | _ => none
def oAbs : D → Option D
  | .int i => some (.int (if i < 0 then -i else i))
  | _ => none
def oInt : D → Option D
  | .int i => some (.int i)
  | _ => none
def oMin : D → D → Option D
  | .int i, .int j => some (.int (if j < i then j else i))
  | _, _ => none
def oMax : D → D → Option D
  | .int i, .int j => some (.int (if j > i then j else i))
  | _, _ => none
def oAll : D → Option D
  | .lst xs => match blsOf xs with
    | some bs => some (.bl (bs.all id))
    | none => none
  | _ => none
def oAny : D → Option D
  | .lst xs => match blsOf xs with
    | some bs => some (.bl (bs.any id))
    | none => none
  | _ => none
def oTuple : D → Option D
  | .lst xs => some (.tup xs)
  | _ => none
/-- texts in order -/
def insS (x : Str) : List Str → List Str
  | [] => [x]
  | y :: r => if y.cps.toList < x.cps.toList then y :: insS x r else x :: y :: r
def srtS : List Str → List Str
  | [] => []
  | x :: r => insS x (srtS r)
def oSort : D → Option (List D)
  | .lst xs => match strsOf xs with
    | some ys => if ys.length < 64 then some ((srtS ys).map .str) else none
    | none => none
  | .tup xs => match strsOf xs with
    | some ys => if ys.length < 64 then some ((srtS ys).map .str) else none
    | none => none
  | _ => none
def oIsInt : D → Option Bool
  | .int _ => some true
  | .bl _ => some true
  | .non => some false
  | .str _ => some false
  | .tup _ => some false
  | .lst _ => some false
  | _ => none
def oIsBool : D → Option Bool
  | .bl _ => some true
  | .int _ => some false
  | .non => some false
  | .str _ => some false
  | .tup _ => some false
  | .lst _ => some false
  | _ => none
def oIsStr : D → Option Bool
  | .str _ => some true
  | .bl _ => some false
  | .int _ => some false
  | .non => some false
  | .tup _ => some false
  | .lst _ => some false
  | _ => none
def oIsTup : D → Option Bool
  | .tup _ => some true
  | .str _ => some false
  | .bl _ => some false
  | .int _ => some false
  | .non => some false
  | .lst _ => some false
  | _ => none
def oIsWeb : D → Option Bool
  | .web _ => some true
  | _ => none

/-! ### tests, and, or -/
def tVal (a : M D) : M Bool := mBind a fun x => match x with
  | .bl b => mRet b
  | _ => mFail
def tUn (f : D → Option Bool) (a : M D) : M Bool := mBind a fun x => mLift (f x)
def tBin (f : D → D → Option Bool) (a b : M D) : M Bool := mBind a fun x => mBind b fun y => mLift (f x y)
def tNot (a : M Bool) : M Bool := mBind a fun b => mRet (!b)
def tAnd (a b : M Bool) : M Bool := mBind a fun x => if x = true then b else mRet false
def tOr (a b : M Bool) : M Bool := mBind a fun x => if x = true then mRet true else b
def xB (t : M Bool) : M D := mBind t fun b => mRet (.bl b)
def xIf (t : M Bool) (a b : M D) : M D := mBind t fun c => if c = true then a else b
def rIf (t : M Bool) (a b : M R) : M R := mBind t fun c => if c = true then a else b
/-- a < b <= c by two comparisons, b once -/
def tChain (f g : D → D → Option Bool) (a b c : M D) : M Bool := mBind a fun x => mBind b fun y => mBind (mLift (f x y)) fun k => if k = true then mBind c fun z => mLift (g y z) else mRet false

/-! ### slots of their own, read where they stand -/
def vLen (i : Nat) : M D := fun s => match getA s i with
  | some (.d x) => match oLen x with
    | some d => some (d, s)
    | none => none
  | some (.own xs) => some (.int xs.length, s)
  | _ => none
/-- the slot holds something; a list -/
def hasA (i : Nat) (s : S) : Bool := (getA s i).isSome
def hasL (i : Nat) (s : S) : Bool := match getA s i with
  | some (.own _) => true
  | some (.d (.lst _)) => true
  | _ => false
def mIf {α : Type} (c : S → Bool) (m : M α) : M α := fun s => if c s = true then m s else none
def vIx (i : Nat) (b : M D) : M D := mIf (hasA i) <| mBind b fun k s => match getA s i with
  | some (.d x) => match oIx x k with
    | some d => some (d, s)
    | none => none
  | some (.own xs) => match oIx (.lst xs) k with
    | some d => some (d, s)
    | none => none
  | _ => none
def vDix (i : Nat) (b : M D) : M D := mIf (hasA i) <| mBind b fun k s => match getA s i with
  | some (.d x) => match oDix x k with
    | some d => some (d, s)
    | none => none
  | some (.dct kvs) => match oDix (.dic kvs) k with
    | some d => some (d, s)
    | none => none
  | _ => none
def vIn (a : M D) (i : Nat) : M Bool := mBind a fun k s => match getA s i with
  | some (.d x) => match oIn k x with
    | some d => some (d, s)
    | none => none
  | some (.own xs) => match oIn k (.lst xs) with
    | some d => some (d, s)
    | none => none
  | _ => none
def vInD (a : M D) (i : Nat) : M Bool := mBind a fun k s => match getA s i with
  | some (.d x) => match oInD k x with
    | some d => some (d, s)
    | none => none
  | some (.dct kvs) => match oInD k (.dic kvs) with
    | some d => some (d, s)
    | none => none
  | _ => none
/-- list(x) of a name -/
def vList (i : Nat) : M R := fun s => match getA s i with
  | some (.d (.lst xs)) => some (.fr xs, s)
  | some (.d (.tup xs)) => some (.fr xs, s)
  | some (.d (.dic kvs)) => some (.fr (kvs.map fun kv => .str kv.1), s)
  | some (.own xs) => some (.fr xs, s)
  | _ => none
/-- dict(x) of a name -/
def vDict (i : Nat) : M R := fun s => match getA s i with
  | some (.d (.dic kvs)) => some (.fd kvs, s)
  | some (.dct kvs) => some (.fd kvs, s)
  | _ => none
/-- x.pop(e) of a list of its own -/
def vPop (i : Nat) (b : M D) : M D := mIf (hasL i) <| mBind b fun k s => match getA s i, k with
  | some (.own xs), .int j => if 0 ≤ j ∧ j < 1000 then (match xs[j.toNat]? with
    | some d => some (d, setA s i (.own (xs.eraseIdx j.toNat)))
    | none => none) else none
  | _, _ => none
/-- x.index(e) of a list of texts -/
def ixOf (x : Str) : List Str → Option Nat
  | [] => none
  | y :: r => if y = x then some 0 else (match ixOf x r with
    | some n => some (n + 1)
    | none => none)
def vIndex (i : Nat) (b : M D) : M D := mIf (hasL i) <| mBind b fun k s => match getA s i, k with
  | some (.d (.lst xs)), .str x => match strsOf xs with
    | some ys => match ixOf x ys with
      | some n => some (.int n, s)
      | none => none
    | none => none
  | some (.own xs), .str x => match strsOf xs with
    | some ys => match ixOf x ys with
      | some n => some (.int n, s)
      | none => none
    | none => none
  | _, _ => none

/-! ### displays, calls -/
def mAll : List (M D) → M (List D)
  | [] => mRet []
  | a :: r => mBind a fun x => mBind (mAll r) fun xs => mRet (x :: xs)
def xTup (es : List (M D)) : M D := mBind (mAll es) fun xs => if xs.length ≤ 1000 then mRet (.tup xs) else mFail
def rLst (es : List (M D)) : M R := mBind (mAll es) fun xs => if xs.length ≤ 1000 then mRet (.fr xs) else mFail
def rDnew : M R := mRet (.fd [])
/-- xs[lo:hi] of a list -/
def cutD {α : Type} (xs : List α) (lo hi : Option Int) : List α := (xs.drop (HT.sIx xs.length 0 lo)).take (HT.sIx xs.length xs.length hi - HT.sIx xs.length 0 lo)
def mOpt (o : Option (M D)) : M (Option Int) := match o with
  | none => mRet none
  | some a => mBind a fun x => match x with
    | .int i => mRet (some i)
    | _ => mFail
def rSl (a : M D) (lo hi : Option (M D)) : M R := mBind a fun x => mBind (mOpt lo) fun l => mBind (mOpt hi) fun h => match x with
  | .lst xs => mRet (.fr (cutD xs l h))
  | .scr ns => mRet (.fr ((cutD ns l h).map .int))
  | _ => mFail
/-- t[lo:hi] of a tuple, not the whole of it -/
def xSlT (a : M D) (lo hi : Option (M D)) : M D := mBind a fun x => mBind (mOpt lo) fun l => mBind (mOpt hi) fun h => match x with
  | .tup xs => if (cutD xs l h).length < xs.length then mRet (.tup (cutD xs l h)) else mFail
  | _ => mFail
def rCat (a b : M D) : M R := mBind a fun x => mBind b fun y => match x, y with
  | .lst xs, .lst ys => if xs.length + ys.length ≤ 1000 then mRet (.fr (xs ++ ys)) else mFail
  | _, _ => mFail
def rSorted (a : M D) : M R := mBind a fun x => match oSort x with
  | some xs => mRet (.fr xs)
  | none => mFail
def rD (a : M D) : M R := mBind a fun x => mRet (.d x)
/-- dict of a list of pairs -/
def pairsOf : List D → Option (List (Str × D))
  | [] => some []
  | .tup [.str k, v] :: r => match pairsOf r with
    | some ys => some ((k, v) :: ys)
    | none => none
  | _ :: _ => none
def dAll (kvs : List (Str × D)) (more : List (Str × D)) : List (Str × D) := match more with
  | [] => kvs
  | (k, v) :: r => dAll (dPut kvs k v) r
def rDict (a : M D) : M R := mBind a fun x => match x with
  | .lst xs => match pairsOf xs with
    | some ps => if ps.length ≤ 1000 then mRet (.fd (dAll [] ps)) else mFail
    | none => mFail
  | _ => mFail
def xCall (F : List D → Option D) (es : List (M D)) : M D := mBind (mAll es) fun xs => mLift (F xs)
def hasB (i : Nat) (s : S) : Bool := match getA s i with
  | some .brw => true
  | _ => false
/-- a call that is handed the borrowed object -/
def xCallG (F : G → List D → Option (D × G)) (i : Nat) (es : List (M D)) : M D := mIf (hasB i) <| mBind (mAll es) fun xs s => match F s.g xs with
    | some (d, g) => some (d, { s with g := g })
    | none => none
/-- a call that is handed a new list of three ints -/
def xCallK (F : G → List D → Option (D × G)) (a : M R) : M D := mBind a fun r => match r with
  | .fr [.int x, .int y, .int z] => match F (.keg x y z) [] with
    | some (d, _) => mRet d
    | none => mFail
  | _ => mFail
/-- o.m(..) of an instance -/
def xMeth (F : List D → Option D) (m : Str) (o : M D) (es : List (M D)) : M D := mBind o fun x => match x with
  | .web fs => if (dGet fs m).isNone = true then mBind (mAll es) fun xs => mLift (F (x :: xs)) else mFail
  | _ => mFail
/-- o.p, a property -/
def xProp (F : List D → Option D) (o : M D) : M D := mBind o fun x => match x with
  | .web _ => mLift (F [x])
  | _ => mFail
/-- a new instance -/
def xMake (F : G → List D → Option (D × G)) (es : List (M D)) : M D := mBind (mAll es) fun xs => match F (.obj []) xs with
  | some (.non, .obj fs) => mRet (.web fs)
  | _ => mFail

/-! ### targets -/
abbrev T := D → S → Option S
def gNm (i : Nat) : T := fun x s => if i < s.e.length then some (setA s i (.d x)) else none
def gAll : List T → List D → S → Option S
  | [], [], s => some s
  | t :: ts, x :: xs, s => match t x s with
    | some s' => gAll ts xs s'
    | none => none
  | _, _, _ => none
/-- a, b = a tuple -/
def gTp (ts : List T) : T := fun x s => match x with
  | .tup xs => gAll ts xs s
  | _ => none
/-- a, b = a list -/
def gLs (ts : List T) : T := fun x s => match x with
  | .lst xs => gAll ts xs s
  | _ => none
def gIx (i : Nat) (b : M D) : T := fun x s => match mIf (hasA i) b s with
  | some (.int k, s') => match getA s' i with
    | some (.own xs) => match ixN xs.length k with
      | some j => some (setA s' i (.own (xs.set j x)))
      | none => none
    | _ => none
  | _ => none
def gDx (i : Nat) (b : M D) : T := fun x s => match mIf (hasA i) b s with
  | some (.str k, s') => match getA s' i with
    | some (.dct kvs) => if kvs.length < 1000 then some (setA s' i (.dct (dPut kvs k x))) else none
    | _ => none
  | _ => none
def gKg (i : Nat) (k : Nat) : T := fun x s => match getA s i, s.g, x with
  | some .brw, .keg a b c, .int n => match k with
    | 0 => some { s with g := .keg n b c }
    | 1 => some { s with g := .keg a n c }
    | 2 => some { s with g := .keg a b n }
    | _ => none
  | _, _, _ => none
def xKg (i : Nat) (k : Nat) : M D := fun s => match getA s i, s.g with
  | some .brw, .keg a b c => match k with
    | 0 => some (.int a, s)
    | 1 => some (.int b, s)
    | 2 => some (.int c, s)
    | _ => none
  | _, _ => none

/-! ### comprehensions -/
def compLoop (tg : T) (t : M Bool) (e : M D) (vs : List Nat) : List D → M (List D)
  | [], s => some ([], s)
  | x :: xs, s => match tg x s with
    | none => none
    | some s1 => match t s1 with
      | none => none
      | some (b, s2) => if b = true then (match e s2 with
          | none => none
          | some (d, s3) => match compLoop tg t e vs xs (wipeS s3 vs) with
            | none => none
            | some (r, s4) => some (d :: r, s4))
        else compLoop tg t e vs xs (wipeS s2 vs)
def rComp (src : M (List D)) (tg : T) (t : M Bool) (e : M D) (vs : List Nat) : M R := mBind src fun xs s =>
  if freeOf s vs = true then (match compLoop tg t e vs xs (wipeS s vs) with
    | none => none
    | some (r, s') => some (.fr r, backS s' s vs))
  else none
/-- two clauses, no tests; vs all own slots, vs1 those of the inner clause -/
def compIn (tg : T) (e : M D) (vs1 : List Nat) : List D → M (List D)
  | [], s => some ([], s)
  | x :: xs, s => match tg x s with
    | none => none
    | some s1 => match e s1 with
      | none => none
      | some (d, s3) => match compIn tg e vs1 xs (wipeS s3 vs1) with
        | none => none
        | some (r, s4) => some (d :: r, s4)
def compOut (tg : T) (src1 : M (List D)) (tg1 : T) (e : M D) (vs vs1 : List Nat) : List D → M (List D)
  | [], s => some ([], s)
  | x :: xs, s => match tg x s with
    | none => none
    | some s1 => match src1 s1 with
      | none => none
      | some (ys, s2) => match compIn tg1 e vs1 ys (wipeS s2 vs1) with
        | none => none
        | some (r, s3) => match compOut tg src1 tg1 e vs vs1 xs (wipeS s3 vs) with
          | none => none
          | some (q, s4) => some (r ++ q, s4)
def rComp2 (src : M (List D)) (tg : T) (src1 : M (List D)) (tg1 : T) (e : M D) (vs vs1 : List Nat) : M R := mBind src fun xs s =>
  if freeOf s vs = true then (match compOut tg src1 tg1 e vs vs1 xs (wipeS s vs) with
    | none => none
    | some (r, s') => if r.length ≤ 1000 then some (.fr r, backS s' s vs) else none)
  else none
/-- what is walked -/
def iLst (a : M D) : M (List D) := mBind a fun x => match x with
  | .lst xs => mRet xs
  | _ => mFail
def iTup (a : M D) : M (List D) := mBind a fun x => match x with
  | .tup xs => mRet xs
  | _ => mFail
def iScr (a : M D) : M (List D) := mBind a fun x => match x with
  | .scr xs => mRet (xs.map .int)
  | _ => mFail
def iStr (a : M D) : M (List D) := mBind a fun x => match x with
  | .str x => if x.length ≤ 1000 then mRet (x.cps.toList.map fun c => .str ⟨#[c]⟩) else mFail
  | _ => mFail
def rgD (i : Int) (n : Nat) : List D := (List.range n).map fun (k : Nat) => .int (i + k)
def iRange1 (a : M D) : M (List D) := mBind a fun x => match x with
  | .int j => if j ≤ 1000 ∧ -1000 ≤ j then mRet (rgD 0 j.toNat) else mFail
  | _ => mFail
def iRange2 (a b : M D) : M (List D) := mBind a fun x => mBind b fun y => match x, y with
  | .int i, .int j => if (i ≤ 1000 ∧ -1000 ≤ i) ∧ (j ≤ 1000 ∧ -1000 ≤ j) then mRet (rgD i (j - i).toNat) else mFail
  | _, _ => mFail
def iZip (a b : M D) : M (List D) := mBind a fun x => mBind b fun y => match x, y with
  | .lst xs, .lst ys => mRet ((xs.zip ys).map fun p => .tup [p.1, p.2])
  | .tup xs, .tup ys => mRet ((xs.zip ys).map fun p => .tup [p.1, p.2])
  | _, _ => mFail
def iItems (a : M D) : M (List D) := mBind a fun x => match x with
  | .dic kvs => mRet (kvs.map fun kv => .tup [.str kv.1, kv.2])
  | _ => mFail

/-! ### statements -/
abbrev P := S → Option O
def sNx : P := fun s => some (.nx s)
def sNo : P := fun _ => none
def sSeq (a b : P) : P := fun s => match a s with
  | some (.nx s') => b s'
  | some (.rt d s') => some (.rt d s')
  | none => none
def sOf (m : S → Option S) : P := fun s => match m s with
  | some s' => some (.nx s')
  | none => none
def sRet (a : M D) : P := fun s => match a s with
  | some (d, s') => some (.rt d s')
  | none => none
def sDrop (a : M D) : P := fun s => match a s with
  | some (_, s') => some (.nx s')
  | none => none
def sIf (t : M Bool) (a b : P) : P := fun s => match t s with
  | some (c, s') => if c = true then a s' else b s'
  | none => none
/-- target = data -/
def sAsg (t : T) (a : M D) : P := fun s => match a s with
  | some (d, s') => match t d s' with
    | some s2 => some (.nx s2)
    | none => none
  | none => none
def putR (s : S) (i : Nat) : R → S
  | .d x => setA s i (.d x)
  | .fr xs => setA s i (.own xs)
  | .fd kvs => setA s i (.dct kvs)
/-- name = a value just made -/
def sSet (i : Nat) (a : M R) : P := fun s => match a s with
  | some (r, s') => if i < s'.e.length then some (.nx (putR s' i r)) else none
  | none => none
def sPar (i j : Nat) (a b : M R) : P := fun s => match a s with
  | some (r, s1) => match b s1 with
    | some (q, s2) => if i < s2.e.length ∧ j < s2.e.length ∧ i ≠ j then some (.nx (putR (putR s2 i r) j q)) else none
    | none => none
  | none => none
def sApp (i : Nat) (a : M D) : P := fun s => match mIf (hasL i) a s with
  | some (d, s') => match getA s' i with
    | some (.own xs) => if xs.length < 1000 then some (.nx (setA s' i (.own (xs ++ [d])))) else none
    | _ => none
  | none => none
def sFld (i : Nat) (f : Str) (a : M D) : P := fun s => match a s with
  | some (d, s') => match getA s' i, s'.g with
    | some .brw, .obj fs => if fs.length < 100 then some (.nx { s' with g := .obj (dPut fs f d) }) else none
    | _, _ => none
  | none => none
def forLoop (tg : T) (b : P) : List D → P
  | [], s => some (.nx s)
  | x :: xs, s => match tg x s with
    | none => none
    | some s1 => match b s1 with
      | some (.nx s2) => forLoop tg b xs s2
      | some (.rt d s2) => some (.rt d s2)
      | none => none
def sFor (src : M (List D)) (tg : T) (b : P) : P := fun s => match src s with
  | some (xs, s') => forLoop tg b xs s'
  | none => none
def whileN (t : M Bool) (b : P) : Nat → P
  | 0, _ => none
  | n + 1, s => match t s with
    | none => none
    | some (c, s1) => if c = true then (match b s1 with
        | some (.nx s2) => whileN t b n s2
        | some (.rt d s2) => some (.rt d s2)
        | none => none)
      else some (.nx s1)
theorem whileN_mono {t : M Bool} {b : P} : ∀ {n m : Nat} {s : S} {o : O}, n ≤ m → whileN t b n s = some o → whileN t b m s = some o
  | 0, _, _, _, _, h => by simp [whileN] at h
  | n + 1, 0, _, _, h, _ => by omega
  | n + 1, m + 1, s, o, h, e => by
    have ih := fun s o => @whileN_mono t b n m s o (by omega)
    unfold whileN at e ⊢
    revert e
    cases t s with
    | none => exact id
    | some p =>
      obtain ⟨c, s1⟩ := p
      dsimp only
      cases c with
      | false => exact id
      | true =>
        simp only [if_true]
        cases b s1 with
        | none => exact id
        | some q => cases q with
          | nx s2 => exact ih s2 o
          | rt d s2 => exact id
open Classical in
/-- the loop's end, if it has one -/
noncomputable def sWhile (t : M Bool) (b : P) : P := fun s => if h : ∃ n o, whileN t b n s = some o then some (Classical.choose (Classical.choose_spec h)) else none
theorem sWhile_iff {t : M Bool} {b : P} {s : S} {o : O} : sWhile t b s = some o ↔ ∃ n, whileN t b n s = some o := by
  unfold sWhile
  constructor
  · intro h
    split at h
    · rename_i hh
      have q := Classical.choose_spec (Classical.choose_spec hh)
      exact ⟨_, by rw [← h]; exact q⟩
    · cases h
  · intro ⟨n, h⟩
    have hh : ∃ n o, whileN t b n s = some o := ⟨n, o, h⟩
    rw [dif_pos hh]
    have q := Classical.choose_spec (Classical.choose_spec hh)
    have h1 := whileN_mono (Nat.le_max_left n (Classical.choose hh)) h
    have h2 := whileN_mono (Nat.le_max_right n (Classical.choose hh)) q
    rw [h1] at h2
    exact h2.symm
theorem sWhile_of {t : M Bool} {b : P} {s : S} {o : O} (n : Nat) (h : whileN t b n s = some o) : sWhile t b s = some o := sWhile_iff.mpr ⟨n, h⟩

/-! ### defs -/
def start (n : Nat) (ds : List D) : List (Option A) := ds.map (fun d => some (A.d d)) ++ List.replicate (n - ds.length) none
def fin : Option O → Option (D × S)
  | some (.rt d s) => some (d, s)
  | some (.nx s) => some (.non, s)
  | none => none
/-- a def of n slots and k parameters -/
def runP (n k : Nat) (b : P) (ds : List D) : Option D := if ds.length = k then (match fin (b ⟨start n ds, .no⟩) with
  | some (d, _) => some d
  | none => none) else none
/-- a def whose first parameter is the borrowed object -/
def runG (n k : Nat) (b : P) (g : G) (ds : List D) : Option (D × G) := if ds.length = k then (match fin (b ⟨some .brw :: start n ds, g⟩) with
  | some (d, s) => some (d, s.g)
  | none => none) else none
end Dl
end

/-! ## DRel -/
section
set_option Elab.async false
set_option linter.all false
set_option maxRecDepth 100000
set_option maxHeartbeats 2000000
/-! The data layer over the hand layer: how the heap bears data. -/
namespace Dl
open PySem PySem.Spec PyProof.Rows L2

/-- a tuple, a list of the program's own top -/
def KTup (K : PySem.W.Frag) (a : Addr) (xs : List V) : Prop :=
  ∃ (o : Obj) (its : Array Value) (n : Nat), K.lookup a = some o ∧ o.cls = .type "tuple" ∧ o.data = .seq its n ∧ its.size ≤ sizeLine ∧ Vals xs its.toList
def KLst (K : PySem.W.Frag) (a : Addr) (xs : List V) : Prop :=
  ∃ (o : Obj) (its : Array Value) (n : Nat), K.lookup a = some o ∧ o.cls = .type "list" ∧ o.dict = none ∧ o.data = .seq its n ∧ its.size ≤ sizeLine ∧ Vals xs its.toList

/-- keys once -/
def KN (vs : List (Key × V)) : Prop := (vs.map (·.1)).Nodup
mutual
/-- the value bears the data, by the frozen part of the heap -/
inductive DP (K : PySem.W.Frag) (C : Addr) (F : Hp) : V → D → Prop
  | non : DP K C F .non .non
  | bl (b : Bool) : DP K C F (.bl b) (.bl b)
  | int (i : Int) : DP K C F (.int i) (.int i)
  | str (x : Str) : DP K C F (.str x) (.str x)
  | tup {a : Addr} {vs : List V} {ds : List D} : F a = some (.tup vs) → DPs K C F vs ds → DP K C F (.ref a) (.tup ds)
  | tupK {a : Addr} {vs : List V} {ds : List D} : KTup K a vs → DPs K C F vs ds → DP K C F (.ref a) (.tup ds)
  | lst {a : Addr} {vs : List V} {ds : List D} : F a = some (.lst vs) → DPs K C F vs ds → DP K C F (.ref a) (.lst ds)
  | dic {a : Addr} {kvs : List (Key × V)} {ds : List (Str × D)} : F a = some (.dK kvs) → KN kvs → DPk K C F kvs ds → DP K C F (.ref a) (.dic ds)
  | web {a dx : Addr} {fs : List (Str × V)} {ds : List (Str × D)} : F a = some (.ins C dx fs) → DPf K C F fs ds → DP K C F (.ref a) (.web ds)
  | scr {a : Addr} {o : Obj} {ns : List Int} : F a = some (.frz o (.lst (ns.map V.int))) → DP K C F (.ref a) (.scr ns)
  | scrK {a : Addr} {ns : List Int} : KLst K a (ns.map V.int) → DP K C F (.ref a) (.scr ns)
inductive DPs (K : PySem.W.Frag) (C : Addr) (F : Hp) : List V → List D → Prop
  | nil : DPs K C F [] []
  | cons {v : V} {vs : List V} {d : D} {ds : List D} : DP K C F v d → DPs K C F vs ds → DPs K C F (v :: vs) (d :: ds)
inductive DPk (K : PySem.W.Frag) (C : Addr) (F : Hp) : List (Key × V) → List (Str × D) → Prop
  | nil : DPk K C F [] []
  | cons {k : Str} {v : V} {vs : List (Key × V)} {d : D} {ds : List (Str × D)} : DP K C F v d → DPk K C F vs ds → DPk K C F ((Sum.inr k, v) :: vs) ((k, d) :: ds)
inductive DPf (K : PySem.W.Frag) (C : Addr) (F : Hp) : List (Str × V) → List (Str × D) → Prop
  | nil : DPf K C F [] []
  | cons {k : Str} {v : V} {vs : List (Str × V)} {d : D} {ds : List (Str × D)} : DP K C F v d → DPf K C F vs ds → DPf K C F ((k, v) :: vs) ((k, d) :: ds)
end

section
variable {K : PySem.W.Frag} {C : Addr} {F F' H H' : Hp}
theorem DP.mono (h : Same F F') : ∀ {v : V} {d : D}, DP K C F v d → DP K C F' v d := fun {v d} x =>
  DP.rec (motive_1 := fun v d _ => DP K C F' v d) (motive_2 := fun vs ds _ => DPs K C F' vs ds) (motive_3 := fun vs ds _ => DPk K C F' vs ds) (motive_4 := fun vs ds _ => DPf K C F' vs ds)
    .non .bl .int .str (fun e _ q => .tup (h _ _ e) q) (fun e _ q => .tupK e q) (fun e _ q => .lst (h _ _ e) q) (fun e n _ q => .dic (h _ _ e) n q) (fun e _ q => .web (h _ _ e) q) (fun e => .scr (h _ _ e)) (fun e => .scrK e)
    .nil (fun _ _ a b => .cons a b) .nil (fun _ _ a b => .cons a b) .nil (fun _ _ a b => .cons a b) x
theorem DPs.mono (h : Same F F') : ∀ {vs : List V} {ds : List D}, DPs K C F vs ds → DPs K C F' vs ds
  | _, _, .nil => .nil
  | _, _, .cons a b => .cons (a.mono h) (b.mono h)
theorem DPk.mono (h : Same F F') : ∀ {vs : List (Key × V)} {ds : List (Str × D)}, DPk K C F vs ds → DPk K C F' vs ds
  | _, _, .nil => .nil
  | _, _, .cons a b => .cons (a.mono h) (b.mono h)
theorem DPf.mono (h : Same F F') : ∀ {vs : List (Str × V)} {ds : List (Str × D)}, DPf K C F vs ds → DPf K C F' vs ds
  | _, _, .nil => .nil
  | _, _, .cons a b => .cons (a.mono h) (b.mono h)

theorem DPs.length : ∀ {vs : List V} {ds : List D}, DPs K C F vs ds → vs.length = ds.length
  | _, _, .nil => rfl
  | _, _, .cons _ b => by rw [List.length_cons, List.length_cons, b.length]
theorem DPk.length : ∀ {vs : List (Key × V)} {ds : List (Str × D)}, DPk K C F vs ds → vs.length = ds.length
  | _, _, .nil => rfl
  | _, _, .cons _ b => by rw [List.length_cons, List.length_cons, b.length]
theorem DPf.length : ∀ {vs : List (Str × V)} {ds : List (Str × D)}, DPf K C F vs ds → vs.length = ds.length
  | _, _, .nil => rfl
  | _, _, .cons _ b => by rw [List.length_cons, List.length_cons, b.length]
theorem DPs.get : ∀ {vs : List V} {ds : List D} {i : Nat} {d : D}, DPs K C F vs ds → ds[i]? = some d → ∃ v, vs[i]? = some v ∧ DP K C F v d
  | _, _, _, _, .nil, e => by simp at e
  | _, _, 0, _, .cons a _, e => by simp at e; subst e; exact ⟨_, rfl, a⟩
  | _, _, i + 1, _, .cons _ b, e => by
    obtain ⟨v, h1, h2⟩ := b.get (i := i) (by simpa using e)
    exact ⟨v, by simpa using h1, h2⟩
theorem DPs.getV : ∀ {vs : List V} {ds : List D} {i : Nat} {v : V}, DPs K C F vs ds → vs[i]? = some v → ∃ d, ds[i]? = some d ∧ DP K C F v d
  | _, _, _, _, .nil, e => by simp at e
  | _, _, 0, _, .cons a _, e => by simp at e; subst e; exact ⟨_, rfl, a⟩
  | _, _, i + 1, _, .cons _ b, e => by
    obtain ⟨v, h1, h2⟩ := b.getV (i := i) (by simpa using e)
    exact ⟨v, by simpa using h1, h2⟩
theorem DPs.append : ∀ {vs ws : List V} {ds es : List D}, DPs K C F vs ds → DPs K C F ws es → DPs K C F (vs ++ ws) (ds ++ es)
  | _, _, _, _, .nil, q => q
  | _, _, _, _, .cons a b, q => .cons a (b.append q)
theorem DPs.take : ∀ {vs : List V} {ds : List D} (n : Nat), DPs K C F vs ds → DPs K C F (vs.take n) (ds.take n)
  | _, _, 0, _ => .nil
  | _, _, _ + 1, .nil => .nil
  | _, _, n + 1, .cons a b => .cons a (b.take n)
theorem DPs.drop : ∀ {vs : List V} {ds : List D} (n : Nat), DPs K C F vs ds → DPs K C F (vs.drop n) (ds.drop n)
  | _, _, 0, q => q
  | _, _, _ + 1, .nil => .nil
  | _, _, n + 1, .cons _ b => DPs.drop n b
theorem DPs.set {v : V} {d : D} (x : DP K C F v d) : ∀ {vs : List V} {ds : List D} (i : Nat), DPs K C F vs ds → DPs K C F (vs.set i v) (ds.set i d)
  | _, _, _, .nil => .nil
  | _, _, 0, .cons _ b => .cons x b
  | _, _, i + 1, .cons a b => .cons a (DPs.set x i b)
theorem DPs.erase : ∀ {vs : List V} {ds : List D} (i : Nat), DPs K C F vs ds → DPs K C F (vs.eraseIdx i) (ds.eraseIdx i)
  | _, _, _, .nil => .nil
  | _, _, 0, .cons _ b => b
  | _, _, i + 1, .cons a b => .cons a (DPs.erase i b)
theorem DPs.one {v : V} {d : D} (a : DP K C F v d) : DPs K C F [v] [d] := .cons a .nil
theorem DPs.ints : ∀ ns : List Int, DPs K C F (ns.map V.int) (ns.map D.int)
  | [] => .nil
  | n :: r => .cons (.int n) (DPs.ints r)
theorem DPs.strs : ∀ ns : List Str, DPs K C F (ns.map V.str) (ns.map D.str)
  | [] => .nil
  | n :: r => .cons (.str n) (DPs.strs r)
/-- texts are texts -/
theorem DPs.strsV : ∀ {vs : List V} {ds : List D} {xs : List Str}, DPs K C F vs ds → strsOf ds = some xs → vs = xs.map V.str ∧ ds = xs.map D.str
  | _, _, xs, .nil, e => by
    have : xs = [] := by simpa [strsOf] using e.symm
    subst this
    exact ⟨rfl, rfl⟩
  | _, d :: ds, xs, .cons a b, e => by
    cases a with
    | str x =>
      cases q : strsOf ds with
      | none =>
        unfold strsOf at e
        rw [q] at e
        cases e
      | some ys =>
        unfold strsOf at e
        rw [q] at e
        have e2 : x :: ys = xs := Option.some.inj e
        subst e2
        obtain ⟨h1, h2⟩ := DPs.strsV b q
        exact ⟨by rw [h1]; rfl, by rw [h2]; rfl⟩
    | _ => cases e
theorem DPs.blsV : ∀ {vs : List V} {ds : List D} {xs : List Bool}, DPs K C F vs ds → blsOf ds = some xs → vs = xs.map V.bl
  | _, _, xs, .nil, e => by
    have : xs = [] := by simpa [blsOf] using e.symm
    subst this
    rfl
  | _, d :: ds, xs, .cons a b, e => by
    cases a with
    | bl x =>
      cases q : blsOf ds with
      | none =>
        unfold blsOf at e
        rw [q] at e
        cases e
      | some ys =>
        unfold blsOf at e
        rw [q] at e
        have e2 : x :: ys = xs := Option.some.inj e
        subst e2
        rw [DPs.blsV b q]
        rfl
    | _ => cases e
theorem strsOf_map : ∀ xs : List Str, strsOf (xs.map D.str) = some xs
  | [] => rfl
  | x :: r => by
    show (match strsOf (r.map D.str) with | some ys => some (x :: ys) | none => none) = _
    rw [strsOf_map r]
theorem blsOf_map : ∀ xs : List Bool, blsOf (xs.map D.bl) = some xs
  | [] => rfl
  | x :: r => by
    show (match blsOf (r.map D.bl) with | some ys => some (x :: ys) | none => none) = _
    rw [blsOf_map r]

/-- dicts of text keys, fields -/
theorem DPk.get : ∀ {vs : List (Key × V)} {ds : List (Str × D)} (k : Str), DPk K C F vs ds → (∀ d, dGet ds k = some d → ∃ v, valV vs (Sum.inr k : Key) = some v ∧ DP K C F v d) ∧ (dGet ds k = none → valV vs (Sum.inr k : Key) = none)
  | _, _, k, .nil => ⟨fun d e => by simp [dGet] at e, fun _ => rfl⟩
  | _, _, k, .cons (k := j) (v := v) (vs := vs) (d := d) (ds := ds) a b => by
    obtain ⟨h1, h2⟩ := DPk.get k b
    by_cases hj : j = k
    · subst hj
      refine ⟨fun e q => ?_, fun q => ?_⟩
      · unfold dGet at q
        rw [if_pos rfl] at q
        cases q
        exact ⟨v, valV_pos rfl, a⟩
      · unfold dGet at q
        rw [if_pos rfl] at q
        cases q
    · have nk : ¬ ((Sum.inr j : Key) = Sum.inr k) := fun z => hj (Sum.inr.inj z)
      refine ⟨fun e q => ?_, fun q => ?_⟩
      · unfold dGet at q
        rw [if_neg hj] at q
        rw [valV_neg (p := ((Sum.inr j : Key), v)) nk]
        exact h1 e q
      · unfold dGet at q
        rw [if_neg hj] at q
        rw [valV_neg (p := ((Sum.inr j : Key), v)) nk]
        exact h2 q
theorem DPk.some_eq {vs : List (Key × V)} {ds : List (Str × D)} (k : Str) (x : DPk K C F vs ds) : (valV vs (Sum.inr k : Key)).isSome = (dGet ds k).isSome := by
  obtain ⟨h1, h2⟩ := x.get k
  cases e : dGet ds k with
  | none => rw [h2 e]; rfl
  | some d =>
    obtain ⟨v, q, _⟩ := h1 d e
    rw [q]; rfl
theorem putK_pos {j : Key} {u v : V} {r : List (Key × V)} (nd : ∀ p ∈ r, p.1 ≠ j) : putK ((j, u) :: r) j v = (j, v) :: r := by
  unfold putK
  rw [if_pos (by simp)]
  rw [List.map_cons, if_pos rfl]
  congr 1
  conv => rhs; rw [← List.map_id r]
  refine List.map_congr_left fun p hp => ?_
  rw [if_neg (nd p hp)]
  rfl
theorem DPk.put : ∀ {vs : List (Key × V)} {ds : List (Str × D)} {k : Str} {v : V} {d : D}, DPk K C F vs ds → KN vs → DP K C F v d → DPk K C F (putK vs (Sum.inr k) v) (dPut ds k d)
  | _, _, k, v, d, .nil, _, x => by
    show DPk K C F (putK [] (Sum.inr k) v) [(k, d)]
    have e : putK ([] : List (Key × V)) (Sum.inr k) v = [(Sum.inr k, v)] := putK_new v rfl
    rw [e]
    exact .cons x .nil
  | _, _, k, v, d, .cons (k := j) (v := u) (vs := vs) (d := e) (ds := ds) a b, hn, x => by
    obtain ⟨n1, n2⟩ := List.nodup_cons.mp (show (((Sum.inr j : Key) :: vs.map (·.1))).Nodup from hn)
    by_cases hj : j = k
    · subst hj
      have e1 : dPut ((j, e) :: ds) j d = (j, d) :: ds := by unfold dPut; rw [if_pos rfl]
      rw [e1, putK_pos fun p hp z => n1 (List.mem_map.mpr ⟨p, hp, z⟩)]
      exact .cons x b
    · have nk : ¬ ((Sum.inr j : Key) = Sum.inr k) := fun z => hj (Sum.inr.inj z)
      have e1 : dPut ((j, e) :: ds) k d = (j, e) :: dPut ds k d := by
        conv => lhs; unfold dPut
        rw [if_neg hj]
      have ih := DPk.put (k := k) b n2 x
      have e2 : putK (((Sum.inr j : Key), u) :: vs) (Sum.inr k) v = ((Sum.inr j : Key), u) :: putK vs (Sum.inr k) v := by
        unfold putK
        have ha : ((((Sum.inr j : Key), u) :: vs).any fun kv => decide (kv.1 = (Sum.inr k : Key))) = (vs.any fun kv => decide (kv.1 = (Sum.inr k : Key))) := by
          rw [List.any_cons]
          have : decide (((Sum.inr j : Key), u).1 = Sum.inr k) = false := decide_eq_false nk
          rw [this, Bool.false_or]
        rw [ha]
        by_cases hc : (vs.any fun kv => decide (kv.1 = (Sum.inr k : Key))) = true
        · rw [if_pos hc, if_pos hc, List.map_cons, if_neg nk]
        · rw [if_neg hc, if_neg hc, List.cons_append]
      rw [e1, e2]
      exact .cons a ih
theorem DPf.look : ∀ {vs : List (Str × V)} {ds : List (Str × D)} {k : Str} {d : D}, DPf K C F vs ds → dGet ds k = some d → ∃ v, vs.lookup k = some v ∧ DP K C F v d
  | _, _, _, _, .nil, e => by simp [dGet] at e
  | _, _, k, d, .cons (k := j) (v := u) (vs := vs) (d := e) (ds := ds) a b, q => by
    unfold dGet at q
    by_cases hj : j = k
    · rw [if_pos hj] at q
      cases q
      subst hj
      exact ⟨u, by simp [List.lookup_cons], a⟩
    · rw [if_neg hj] at q
      obtain ⟨v, h1, h2⟩ := DPf.look b q
      refine ⟨v, ?_, h2⟩
      have : (k == j) = false := by simpa using fun z : k = j => hj z.symm
      rw [List.lookup_cons, this]
      exact h1
theorem DPf.none : ∀ {vs : List (Str × V)} {ds : List (Str × D)} {k : Str}, DPf K C F vs ds → dGet ds k = none → vs.lookup k = Option.none
  | _, _, _, .nil, _ => rfl
  | _, _, k, .cons (k := j) (v := u) (vs := vs) (d := e) (ds := ds) a b, q => by
    unfold dGet at q
    by_cases hj : j = k
    · rw [if_pos hj] at q
      cases q
    · rw [if_neg hj] at q
      have : (k == j) = false := by simpa using fun z : k = j => hj z.symm
      rw [List.lookup_cons, this]
      exact DPf.none b q
theorem DPf.put : ∀ {vs : List (Str × V)} {ds : List (Str × D)} {k : Str} {v : V} {d : D}, DPf K C F vs ds → DP K C F v d → DPf K C F (putF k v vs) (dPut ds k d)
  | _, _, k, v, d, .nil, x => .cons x .nil
  | _, _, k, v, d, .cons (k := j) (v := u) (vs := vs) (d := e) (ds := ds) a b, x => by
    unfold dPut putF
    by_cases hj : j = k
    · subst hj
      rw [if_pos rfl, if_pos rfl]
      exact .cons x b
    · rw [if_neg hj, if_neg hj]
      exact .cons a (DPf.put b x)
end
end Dl
end

/-! ## DStt -/
section
set_option Elab.async false
set_option linter.all false
set_option maxRecDepth 100000
set_option maxHeartbeats 2000000
/-! The data layer: the state of a def's run, its steps, the readings. -/
namespace Dl
open PySem PySem.Spec PyProof.Rows L2

/-- the frame's slots -/
abbrev St := L2.St
theorem getA_set {s : S} {i : Nat} (h : i < s.e.length) (a : A) (j : Nat) : getA (setA s i a) j = if j = i then some a else getA s j := by
  unfold getA setA
  by_cases e : j = i
  · subst e
    rw [if_pos rfl]
    show (match (s.e.set j (some a))[j]? with | some (some a) => some a | _ => none) = _
    rw [List.getElem?_set_self h]
  · rw [if_neg e]
    show (match (s.e.set i (some a))[j]? with | some (some a) => some a | _ => none) = _
    rw [List.getElem?_set_ne (fun z => e z.symm)]
    all_goals rfl
theorem getA_clr {s : S} {i : Nat} {j : Nat} {a : A} (h : getA (clrA s i) j = some a) : j ≠ i ∧ getA s j = some a := by
  unfold getA clrA at h
  have h1 : (match (s.e.set i none)[j]? with | some (some a) => some a | _ => none) = some a := h
  by_cases e : j = i
  · subst e
    by_cases hl : j < s.e.length
    · rw [List.getElem?_set_self hl] at h1
      cases h1
    · rw [List.getElem?_eq_none (by simpa using hl)] at h1
      cases h1
  · rw [List.getElem?_set_ne (fun z => e z.symm)] at h1
    exact ⟨e, h1⟩
theorem getA_lt {s : S} {i : Nat} {a : A} (h : getA s i = some a) : i < s.e.length := by
  unfold getA at h
  by_cases hl : i < s.e.length
  · exact hl
  · rw [List.getElem?_eq_none (by simpa using hl)] at h
    cases h
theorem setA_len (s : S) (i : Nat) (a : A) : (setA s i a).e.length = s.e.length := by simp [setA]
theorem clrA_len (s : S) (i : Nat) : (clrA s i).e.length = s.e.length := by simp [clrA]

/-- the frozen part is to be read in the heap (a dict perhaps locked) -/
def Sub (F H : Hp) : Prop := ∀ a o, F a = some o → H a = some o ∨ ∃ kvs ob, o = .dK kvs ∧ H a = some (.frz ob o)
theorem Sub.ne {F H : Hp} (h : Sub F H) {a : Addr} (e : H a = none) : F a = none := by
  cases q : F a with
  | none => rfl
  | some o =>
    rcases h a o q with z | ⟨_, _, _, z⟩
    · rw [e] at z; cases z
    · rw [e] at z; cases z
theorem Sub.refl (H : Hp) : Sub H H := fun _ _ e => .inl e
/-- lengths of what is tracked -/
def LenO : HO → Prop
  | .lst xs => xs.length ≤ sizeLine
  | .tup xs => xs.length ≤ sizeLine
  | .dK kvs => kvs.length ≤ sizeLine
  | .frz _ u => LenO u
  | _ => True
def LenOk (H : Hp) : Prop := ∀ a o, H a = some o → LenO o
theorem lenO_of {P : Program} {w : World} {H : Hp} {h : Heap} {a : Addr} : ∀ {o : HO}, ObjOk P w H h a o → LenO o
  | .lst _, x => x.1
  | .tup _, x => x.1
  | .dK _, x => x.1
  | .frz _ u, x => lenO_of (o := u) x.2
  | .dT _, _ => trivial
  | .set _ _, _ => trivial
  | .ins _ _ _, _ => trivial
  | .own _, _ => trivial
  | .xd _, _ => trivial
  | .met _ _, _ => trivial
  | .rng _ _, _ => trivial
  | .tbl _, _ => trivial
  | .ext _, _ => trivial
theorem lenOk_of {X : Cx} {pins : List (Addr × Obj)} {σ : St} {H : Hp} {s : Shared} (I : Inv X pins σ H s) : LenOk H := fun a o e => lenO_of (I.hok a o e)

section
variable (K : PySem.W.Frag) (C : Addr)
def Brw (F H : Hp) (k : Addr) : G → Prop
  | .no => False
  | .keg a b c => H k = some (.lst [.int a, .int b, .int c])
  | .obj fs => ∃ dx vs, H k = some (.ins C dx vs) ∧ DPf K C F vs fs
def Hold (κ : Option Addr) (H F : Hp) (v : V) : A → Prop
  | .d x => DP K C F v x
  | .own ds => ∃ p vs, v = .ref p ∧ F p = none ∧ H p = some (.lst vs) ∧ DPs K C F vs ds
  | .dct ds => ∃ p kvs, v = .ref p ∧ F p = none ∧ H p = some (.dK kvs) ∧ KN kvs ∧ DPk K C F kvs ds
  | .brw => ∃ k, κ = some k ∧ v = .ref k
/-- no slot has the object at b for its own -/
def Unow (σ : St) (s : S) (b : Addr) : Prop := ∀ i a, getA s i = some a → isOwn a = true → σ[i]? ≠ some (some (.ref b))
structure Stt (κ : Option Addr) (H0 F0 : Hp) (σ : St) (H F : Hp) (s : S) : Prop where
  sub : Sub F H
  fr : ∀ b o, H0 b = some o → F0 b = none → some b ≠ κ → H b = some o
  fz : Same F0 F
  nw : ∀ b o, F b = some o → F0 b = some o ∨ H0 b = none
  len : s.e.length = σ.length
  slot : ∀ i a, getA s i = some a → ∃ v, σ[i]? = some (some v) ∧ Hold K C κ H F v a
  uq : ∀ i j a b v, getA s i = some a → isOwn a = true → getA s j = some b → isOwn b = true → σ[i]? = some (some v) → σ[j]? = some (some v) → i = j
  og : ∀ i a p, getA s i = some a → isOwn a = true → σ[i]? = some (some (.ref p)) → H0 p = none
  kg : ∀ k, κ = some k → F k = none ∧ H0 k ≠ none ∧ Brw K C F H k s.g
  lk : ∀ b o u, H0 b = some (.frz o u) → H b = some (.frz o u)
structure Stp (κ : Option Addr) (σ : St) (H F : Hp) (s : S) (H' F' : Hp) (s' : S) : Prop where
  fz : Same F F'
  kp : ∀ b o, H b = some o → F b = none → some b ≠ κ → Unow σ s b → H' b = some o ∧ F' b = none
  ow : ∀ b, Unow σ s b → Unow σ s' b
  gr : ∀ b, H' b = none → H b = none
  lk : ∀ b o u, H b = some (.frz o u) → H' b = some (.frz o u)
end

section
variable {K : PySem.W.Frag} {C : Addr} {κ : Option Addr} {H0 F0 H F H' F' H2 F2 : Hp} {σ : St} {s s' s2 : S}
theorem Stp.refl : Stp κ σ H F s H F s := ⟨Same.refl F, fun _ _ h1 h2 _ _ => ⟨h1, h2⟩, fun _ h => h, fun _ h => h, fun _ _ _ h => h⟩
theorem Stp.trans (a : Stp κ σ H F s H' F' s') (b : Stp κ σ H' F' s' H2 F2 s2) : Stp κ σ H F s H2 F2 s2 :=
  ⟨a.fz.trans b.fz, fun c o h1 h2 h3 h4 => by
    obtain ⟨q1, q2⟩ := a.kp c o h1 h2 h3 h4
    exact b.kp c o q1 q2 h3 (a.ow c h4), fun c h => b.ow c (a.ow c h), fun c h => a.gr c (b.gr c h), fun c o u h => b.lk c o u (a.lk c o u h)⟩
theorem upd_frz {H : Hp} {p b : Addr} {o : HO} {ob : Obj} {u : HO} (hp : ∀ ob u, H p ≠ some (.frz ob u)) (h : H b = some (.frz ob u)) : upd H p o b = some (.frz ob u) := by
  rw [upd_ne (fun e => by subst e; exact hp _ _ h)]
  exact h
theorem nofrz_none {H : Hp} {p : Addr} (h : H p = none) : ∀ ob u, H p ≠ some (.frz ob u) := fun _ _ z => by rw [h] at z; cases z
theorem upd_none {H : Hp} {p b : Addr} {o : HO} (h : upd H p o b = none) : H b = none := by
  by_cases e : b = p
  · subst e
    rw [upd_same] at h
    cases h
  · rw [upd_ne e] at h
    exact h

theorem Stt.k_some (T : Stt K C κ H0 F0 σ H F s) {k : Addr} (e : κ = some k) : ∃ o, H k = some o := by
  obtain ⟨_, _, q⟩ := T.kg k e
  cases g : s.g with
  | no => rw [g] at q; exact q.elim
  | keg a b c => rw [g] at q; exact ⟨_, q⟩
  | obj fs => rw [g] at q; obtain ⟨_, _, h, _⟩ := q; exact ⟨_, h⟩
/-- what is new to the heap is new to the entry -/
theorem Stt.h0 (T : Stt K C κ H0 F0 σ H F s) {p : Addr} (h : H p = none) : H0 p = none := by
  cases q : H0 p with
  | none => rfl
  | some o =>
    by_cases hk : some p = κ
    · obtain ⟨u, e⟩ := T.k_some hk.symm
      rw [h] at e; cases e
    · cases f : F0 p with
      | none =>
        have := T.fr p o q f hk
        rw [h] at this; cases this
      | some u =>
        have := T.sub.ne h
        rw [T.fz p u f] at this; cases this
theorem Stt.kne (T : Stt K C κ H0 F0 σ H F s) {p : Addr} (h : H0 p = none) : some p ≠ κ := fun e => (T.kg p e.symm).2.1 h
theorem Stt.f0 (T : Stt K C κ H0 F0 σ H F s) {p : Addr} (h : H p = none) : F p = none := T.sub.ne h
theorem Stt.unow_new (T : Stt K C κ H0 F0 σ H F s) {p : Addr} (h : H p = none) : Unow σ s p := fun i a e ho z => by
  obtain ⟨v, hv, q⟩ := T.slot i a e
  rw [z] at hv
  cases hv
  cases a with
  | own ds => obtain ⟨p', vs, e1, _, e2, _⟩ := q; cases e1; rw [h] at e2; cases e2
  | dct ds => obtain ⟨p', vs, e1, _, e2, _⟩ := q; cases e1; rw [h] at e2; cases e2
  | d x => cases ho
  | brw => cases ho
theorem Hold.mono (hf : Same F F') (hk : ∀ b o, H b = some o → F b = none → some b ≠ κ → H' b = some o ∧ F' b = none) {v : V} {a : A} (hb : ∀ p, isOwn a = true → v = .ref p → some p ≠ κ) (h : Hold K C κ H F v a) : Hold K C κ H' F' v a := by
  cases a with
  | d x => exact DP.mono hf h
  | own ds =>
    obtain ⟨p, vs, e, e1, e2, e3⟩ := h
    obtain ⟨q1, q2⟩ := hk p _ e2 e1 (hb p rfl e)
    exact ⟨p, vs, e, q2, q1, e3.mono hf⟩
  | dct ds =>
    obtain ⟨p, vs, e, e1, e2, n, e3⟩ := h
    obtain ⟨q1, q2⟩ := hk p _ e2 e1 (hb p rfl e)
    exact ⟨p, vs, e, q2, q1, n, e3.mono hf⟩
  | brw => exact h
/-- the heap grows, or things of nobody's change or are frozen -/
theorem Stt.move (T : Stt K C κ H0 F0 σ H F s) (Ex : Addr → Prop) (hx : ∀ b, Ex b → H0 b = none ∧ Unow σ s b) (hs : Sub F' H') (hf : Same F F') (hk : ∀ b o, ¬ Ex b → H b = some o → F b = none → H' b = some o ∧ F' b = none)
    (hn : ∀ b o, F' b = some o → F b = some o ∨ H0 b = none) (hl : ∀ b o u, H b = some (.frz o u) → H' b = some (.frz o u)) : Stt K C κ H0 F0 σ H' F' s := by
  have nx : ∀ {i a p}, getA s i = some a → isOwn a = true → σ[i]? = some (some (.ref p)) → ¬ Ex p := fun {i a p} e o q x => (hx p x).2 i a e o q
  refine ⟨hs, fun b o e n k => ?_, T.fz.trans hf, fun b o e => ?_, T.len, fun i a e => ?_, T.uq, T.og, fun k e => ?_, fun b o u e => hl b o u (T.lk b o u e)⟩
  · have q := T.fr b o e n k
    have hb : ¬ Ex b := fun x => by rw [(hx b x).1] at e; cases e
    cases f : F b with
    | none => exact (hk b o hb q f).1
    | some u =>
      rcases T.nw b u f with z | z
      · rw [n] at z; cases z
      · rw [e] at z; cases z
  · rcases hn b o e with z | z
    · exact T.nw b o z
    · exact .inr z
  · obtain ⟨v, hv, q⟩ := T.slot i a e
    refine ⟨v, hv, ?_⟩
    cases a with
    | d x => exact DP.mono hf q
    | own ds =>
      obtain ⟨p, vs, e0, e1, e2, e3⟩ := q
      rw [e0] at hv
      obtain ⟨q1, q2⟩ := hk p _ (nx e rfl hv) e2 e1
      exact ⟨p, vs, e0, q2, q1, e3.mono hf⟩
    | dct ds =>
      obtain ⟨p, vs, e0, e1, e2, n, e3⟩ := q
      rw [e0] at hv
      obtain ⟨q1, q2⟩ := hk p _ (nx e rfl hv) e2 e1
      exact ⟨p, vs, e0, q2, q1, n, e3.mono hf⟩
    | brw => exact q
  · obtain ⟨h1, h2, h3⟩ := T.kg k e
    have hb : ¬ Ex k := fun x => h2 (hx k x).1
    cases g : s.g with
    | no => rw [g] at h3; exact h3.elim
    | keg a b c =>
      rw [g] at h3
      obtain ⟨q1, q2⟩ := hk k _ hb h3 h1
      exact ⟨q2, h2, q1⟩
    | obj fs =>
      rw [g] at h3
      obtain ⟨dx, vs, e1, e2⟩ := h3
      obtain ⟨q1, q2⟩ := hk k _ hb e1 h1
      exact ⟨q2, h2, dx, vs, q1, e2.mono hf⟩
/-- a new object, frozen at once -/
theorem Same.updN {F : Hp} {p : Addr} {o : HO} (h : F p = none) : Same F (upd F p o) := fun b u e => by
  rw [upd_ne (ne_of_none e h)]
  exact e
theorem Stt.newF (T : Stt K C κ H0 F0 σ H F s) {p : Addr} {o : HO} (h : H p = none) : Stt K C κ H0 F0 σ (upd H p o) (upd F p o) s := by
  have hF := T.f0 h
  refine T.move (fun _ => False) (fun _ z => z.elim) (fun a u e => ?_) (Same.updN hF) (fun b u _ e n => ?_) (fun b u e => ?_) fun _ _ _ => upd_frz (nofrz_none h)
  · by_cases ha : a = p
    · subst ha
      rw [upd_same] at e ⊢
      exact .inl e
    · rw [upd_ne ha] at e ⊢
      exact T.sub a u e
  · have hb : b ≠ p := ne_of_none e h
    rw [upd_ne hb, upd_ne hb]
    exact ⟨e, n⟩
  · by_cases ha : b = p
    · subst ha
      exact .inr (T.h0 h)
    · rw [upd_ne ha] at e
      exact .inl e
theorem Stp.newF (T : Stt K C κ H0 F0 σ H F s) {p : Addr} {o : HO} (h : H p = none) : Stp κ σ H F s (upd H p o) (upd F p o) s :=
  ⟨Same.updN (T.f0 h), fun b u e n _ _ => by
    have hb : b ≠ p := ne_of_none e h
    rw [upd_ne hb, upd_ne hb]
    exact ⟨e, n⟩, fun _ q => q, fun _ => upd_none, fun _ _ _ => upd_frz (nofrz_none h)⟩
/-- a new object, not frozen -/
theorem Stt.new (T : Stt K C κ H0 F0 σ H F s) {p : Addr} {o : HO} (h : H p = none) : Stt K C κ H0 F0 σ (upd H p o) F s := by
  refine T.move (fun _ => False) (fun _ z => z.elim) (fun a u e => ?_) (Same.refl F) (fun b u _ e n => ?_) (fun b u e => .inl e) fun _ _ _ => upd_frz (nofrz_none h)
  · have ha : a ≠ p := fun z => by subst z; rw [T.f0 h] at e; cases e
    rw [upd_ne ha]
    exact T.sub a u e
  · rw [upd_ne (ne_of_none e h)]
    exact ⟨e, n⟩
theorem Stp.new (T : Stt K C κ H0 F0 σ H F s) {p : Addr} {o : HO} (h : H p = none) : Stp κ σ H F s (upd H p o) F s :=
  ⟨Same.refl F, fun b u e n _ _ => by
    rw [upd_ne (ne_of_none e h)]
    exact ⟨e, n⟩, fun _ q => q, fun _ => upd_none, fun _ _ _ => upd_frz (nofrz_none h)⟩
/-- a thing of nobody's is frozen -/
theorem Stt.frz (T : Stt K C κ H0 F0 σ H F s) {p : Addr} {o : HO} (h : H p = some o) (h0 : H0 p = none) (hF : F p = none) (hu : Unow σ s p) : Stt K C κ H0 F0 σ H (upd F p o) s := by
  refine T.move (fun b => b = p) (fun b e => by subst e; exact ⟨h0, hu⟩) (fun a u e => ?_) (Same.updN hF) (fun b u nb e n => ?_) (fun b u e => ?_) fun _ _ _ h => h
  · by_cases ha : a = p
    · subst ha
      rw [upd_same] at e
      cases e
      exact .inl h
    · rw [upd_ne ha] at e
      exact T.sub a u e
  · rw [upd_ne nb]
    exact ⟨e, n⟩
  · by_cases ha : b = p
    · subst ha
      exact .inr h0
    · rw [upd_ne ha] at e
      exact .inl e
/-- a thing of nobody's changes -/
theorem Stt.chg (T : Stt K C κ H0 F0 σ H F s) {p : Addr} {o : HO} (hp : ∀ ob u, H p ≠ some (.frz ob u)) (h0 : H0 p = none) (hF : F p = none) (hu : Unow σ s p) : Stt K C κ H0 F0 σ (upd H p o) F s := by
  refine T.move (fun b => b = p) (fun b e => by subst e; exact ⟨h0, hu⟩) (fun a u e => ?_) (Same.refl F) (fun b u nb e n => ?_) (fun b u e => .inl e) fun _ _ _ => upd_frz hp
  · have ha : a ≠ p := fun z => by subst z; rw [hF] at e; cases e
    rw [upd_ne ha]
    exact T.sub a u e
  · rw [upd_ne nb]
    exact ⟨e, n⟩
/-- a frozen dict is locked -/
theorem Stt.lock (T : Stt K C κ H0 F0 σ H F s) {p : Addr} {ob : Obj} {kvs : List (Key × V)} (h : F p = some (.dK kvs)) (hp : H p = some (.dK kvs)) : Stt K C κ H0 F0 σ (upd H p (.frz ob (.dK kvs))) F s := by
  refine T.move (fun _ => False) (fun _ z => z.elim) (fun a u e => ?_) (Same.refl F) (fun b u _ e n => ?_) (fun b u e => .inl e) fun _ _ _ => upd_frz fun _ _ z => by rw [hp] at z; cases z
  · by_cases ha : a = p
    · subst ha
      rw [h] at e
      cases e
      exact .inr ⟨_, _, rfl, upd_same⟩
    · rw [upd_ne ha]
      exact T.sub a u e
  · have ha : b ≠ p := fun z => by subst z; rw [h] at n; cases n
    rw [upd_ne ha]
    exact ⟨e, n⟩
theorem Stp.lock {p : Addr} {ob : Obj} {kvs : List (Key × V)} (h : F p = some (.dK kvs)) (hp : H p = some (.dK kvs)) : Stp κ σ H F s (upd H p (.frz ob (.dK kvs))) F s :=
  ⟨Same.refl F, fun b u e n _ _ => by
    have ha : b ≠ p := fun z => by subst z; rw [h] at n; cases n
    rw [upd_ne ha]
    exact ⟨e, n⟩, fun _ q => q, fun _ => upd_none, fun _ _ _ => upd_frz fun _ _ z => by rw [hp] at z; cases z⟩

/-! ### slots -/
theorem Unow.setD {i : Nat} {v : V} {d : D} (hi : i < s.e.length) {b : Addr} (h : Unow σ s b) : Unow (σ.set i (some v)) (setA s i (.d d)) b := fun j a e o q => by
  rw [getA_set hi] at e
  by_cases hj : j = i
  · rw [if_pos hj] at e
    cases e
    cases o
  · rw [if_neg hj] at e
    rw [List.getElem?_set_ne (fun z => hj z.symm)] at q
    exact h j a e o q
theorem Stt.setD (T : Stt K C κ H0 F0 σ H F s) {i : Nat} {v : V} {d : D} (hi : i < s.e.length) (x : DP K C F v d) : Stt K C κ H0 F0 (σ.set i (some v)) H F (setA s i (.d d)) := by
  have hi2 : i < σ.length := by rw [← T.len]; exact hi
  refine ⟨T.sub, T.fr, T.fz, T.nw, by rw [setA_len, List.length_set]; exact T.len, fun j a e => ?_, fun j k a b w e1 o1 e2 o2 q1 q2 => ?_, fun j a p e o q => ?_, T.kg, T.lk⟩
  · rw [getA_set hi] at e
    by_cases hj : j = i
    · rw [if_pos hj] at e
      cases e
      subst hj
      exact ⟨v, List.getElem?_set_self hi2, x⟩
    · rw [if_neg hj] at e
      rw [List.getElem?_set_ne (fun z => hj z.symm)]
      exact T.slot j a e
  · rw [getA_set hi] at e1 e2
    by_cases h1 : j = i
    · rw [if_pos h1] at e1
      cases e1
      cases o1
    · by_cases h2 : k = i
      · rw [if_pos h2] at e2
        cases e2
        cases o2
      · rw [if_neg h1] at e1
        rw [if_neg h2] at e2
        rw [List.getElem?_set_ne (fun z => h1 z.symm)] at q1
        rw [List.getElem?_set_ne (fun z => h2 z.symm)] at q2
        exact T.uq j k a b w e1 o1 e2 o2 q1 q2
  · rw [getA_set hi] at e
    by_cases h1 : j = i
    · rw [if_pos h1] at e
      cases e
      cases o
    · rw [if_neg h1] at e
      rw [List.getElem?_set_ne (fun z => h1 z.symm)] at q
      exact T.og j a p e o q
/-- a slot gets a thing of nobody's for its own -/
theorem Stt.setO (T : Stt K C κ H0 F0 σ H F s) {i : Nat} {p : Addr} {a : A} (hi : i < s.e.length) (ho : isOwn a = true) (h0 : H0 p = none) (hu : Unow σ s p) (x : Hold K C κ H F (.ref p) a) : Stt K C κ H0 F0 (σ.set i (some (.ref p))) H F (setA s i a) := by
  have hi2 : i < σ.length := by rw [← T.len]; exact hi
  refine ⟨T.sub, T.fr, T.fz, T.nw, by rw [setA_len, List.length_set]; exact T.len, fun j b e => ?_, fun j k b c w e1 o1 e2 o2 q1 q2 => ?_, fun j b q e o z => ?_, T.kg, T.lk⟩
  · rw [getA_set hi] at e
    by_cases hj : j = i
    · rw [if_pos hj] at e
      cases e
      subst hj
      exact ⟨_, List.getElem?_set_self hi2, x⟩
    · rw [if_neg hj] at e
      rw [List.getElem?_set_ne (fun z => hj z.symm)]
      exact T.slot j b e
  · rw [getA_set hi] at e1 e2
    by_cases h1 : j = i
    · by_cases h2 : k = i
      · rw [h1, h2]
      · subst h1
        rw [List.getElem?_set_self hi2] at q1
        rw [if_neg h2] at e2
        rw [List.getElem?_set_ne (fun z => h2 z.symm)] at q2
        cases q1
        exact (hu k c e2 o2 q2).elim
    · rw [if_neg h1] at e1
      rw [List.getElem?_set_ne (fun z => h1 z.symm)] at q1
      by_cases h2 : k = i
      · subst h2
        rw [List.getElem?_set_self hi2] at q2
        cases q2
        exact (hu j b e1 o1 q1).elim
      · rw [if_neg h2] at e2
        rw [List.getElem?_set_ne (fun z => h2 z.symm)] at q2
        exact T.uq j k b c w e1 o1 e2 o2 q1 q2
  · rw [getA_set hi] at e
    by_cases h1 : j = i
    · subst h1
      rw [List.getElem?_set_self hi2] at z
      cases z
      exact h0
    · rw [if_neg h1] at e
      rw [List.getElem?_set_ne (fun z => h1 z.symm)] at z
      exact T.og j b q e o z
/-- a slot is forgotten -/
theorem Stt.clr (T : Stt K C κ H0 F0 σ H F s) (i : Nat) : Stt K C κ H0 F0 (σ.set i none) H F (clrA s i) := by
  refine ⟨T.sub, T.fr, T.fz, T.nw, by rw [clrA_len, List.length_set]; exact T.len, fun j b e => ?_, fun j k b c w e1 o1 e2 o2 q1 q2 => ?_, fun j b q e o z => ?_, T.kg, T.lk⟩
  · obtain ⟨h1, h2⟩ := getA_clr e
    rw [List.getElem?_set_ne (fun z => h1 z.symm)]
    exact T.slot j b h2
  · obtain ⟨h1, h2⟩ := getA_clr e1
    obtain ⟨h3, h4⟩ := getA_clr e2
    rw [List.getElem?_set_ne (fun z => h1 z.symm)] at q1
    rw [List.getElem?_set_ne (fun z => h3 z.symm)] at q2
    exact T.uq j k b c w h2 o1 h4 o2 q1 q2
  · obtain ⟨h1, h2⟩ := getA_clr e
    rw [List.getElem?_set_ne (fun z => h1 z.symm)] at z
    exact T.og j b q h2 o z
theorem Stt.wipe (T : Stt K C κ H0 F0 σ H F s) : ∀ vs : List Nat, Stt K C κ H0 F0 (L2.wipe σ vs) H F (wipeS s vs)
  | [] => T
  | v :: vs => (Stt.wipe T vs).clr v
/-- a slot's own thing changes -/
theorem Stt.own (T : Stt K C κ H0 F0 σ H F s) {i : Nat} {p : Addr} {a b : A} {o : HO} (e : getA s i = some a) (ho : isOwn a = true) (hv : σ[i]? = some (some (.ref p))) (hF : F p = none) (hp : ∀ ob u, H p ≠ some (.frz ob u)) (hb : isOwn b = true) (x : Hold K C κ (upd H p o) F (.ref p) b) :
    Stt K C κ H0 F0 σ (upd H p o) F (setA s i b) := by
  have h0 := T.og i a p e ho hv
  have hi := getA_lt e
  have hk := T.kne h0
  have np : ∀ b, F b = none → some b ≠ κ → True := fun _ _ _ => trivial
  refine ⟨fun c u z => ?_, fun c u z n k => ?_, T.fz, T.nw, by rw [setA_len]; exact T.len, fun j c z => ?_, fun j k c d w e1 o1 e2 o2 q1 q2 => ?_, fun j c q z o2 q1 => ?_, fun k z => ?_, fun c ob u z => upd_frz hp (T.lk c ob u z)⟩
  · have hc : c ≠ p := fun y => by subst y; rw [hF] at z; cases z
    rw [upd_ne hc]
    exact T.sub c u z
  · have hc : c ≠ p := fun y => by subst y; rw [h0] at z; cases z
    rw [upd_ne hc]
    exact T.fr c u z n k
  · rw [getA_set hi] at z
    by_cases hj : j = i
    · rw [if_pos hj] at z
      cases z
      subst hj
      exact ⟨_, hv, x⟩
    · rw [if_neg hj] at z
      obtain ⟨v, q1, q2⟩ := T.slot j c z
      refine ⟨v, q1, ?_⟩
      have ne : ∀ p', isOwn c = true → v = .ref p' → p' ≠ p := fun p' oc ev y => by
        subst ev
        subst y
        exact hj (T.uq j i c a _ z oc e ho q1 hv)
      cases c with
      | d y => exact q2
      | own ds =>
        obtain ⟨p', vs, f0, f1, f2, f3⟩ := q2
        exact ⟨p', vs, f0, f1, by rw [upd_ne (ne p' rfl f0)]; exact f2, f3⟩
      | dct ds =>
        obtain ⟨p', vs, f0, f1, f2, n, f3⟩ := q2
        exact ⟨p', vs, f0, f1, by rw [upd_ne (ne p' rfl f0)]; exact f2, n, f3⟩
      | brw => exact q2
  · rw [getA_set hi] at e1 e2
    by_cases h1 : j = i
    · by_cases h2 : k = i
      · rw [h1, h2]
      · rw [if_neg h2] at e2
        subst h1
        exact T.uq j k a d w e ho e2 o2 q1 q2
    · rw [if_neg h1] at e1
      by_cases h2 : k = i
      · subst h2
        exact T.uq j k c a w e1 o1 e ho q1 q2
      · rw [if_neg h2] at e2
        exact T.uq j k c d w e1 o1 e2 o2 q1 q2
  · rw [getA_set hi] at z
    by_cases h1 : j = i
    · subst h1
      exact T.og j a q e ho q1
    · rw [if_neg h1] at z
      exact T.og j c q z o2 q1
  · obtain ⟨h1, h2, h3⟩ := T.kg k z
    have hc : k ≠ p := fun y => h2 (by rw [y]; exact h0)
    refine ⟨h1, h2, ?_⟩
    show Brw K C F (upd H p o) k s.g
    cases g : s.g with
    | no => rw [g] at h3; exact h3
    | keg a b c =>
      rw [g] at h3
      show upd H p o k = _
      rw [upd_ne hc]
      exact h3
    | obj fs =>
      rw [g] at h3
      obtain ⟨dx, vs, e1, e2⟩ := h3
      exact ⟨dx, vs, by rw [upd_ne hc]; exact e1, e2⟩
/-- the borrowed object changes -/
theorem Stt.brw (T : Stt K C κ H0 F0 σ H F s) {k : Addr} {o : HO} {g : G} (e : κ = some k) (hp : ∀ ob u, H k ≠ some (.frz ob u)) (x : Brw K C F (upd H k o) k g) : Stt K C κ H0 F0 σ (upd H k o) F { s with g := g } := by
  obtain ⟨h1, h2, h3⟩ := T.kg k e
  refine ⟨fun c u z => ?_, fun c u z n q => ?_, T.fz, T.nw, T.len, fun j c z => ?_, T.uq, T.og, fun k' z => ?_, fun c ob u z => upd_frz hp (T.lk c ob u z)⟩
  · have hc : c ≠ k := fun y => by subst y; rw [h1] at z; cases z
    rw [upd_ne hc]
    exact T.sub c u z
  · have hc : c ≠ k := fun y => q (by rw [y]; exact e.symm)
    rw [upd_ne hc]
    exact T.fr c u z n q
  · obtain ⟨v, q1, q2⟩ := T.slot j c z
    refine ⟨v, q1, ?_⟩
    have ne : ∀ p', isOwn c = true → v = .ref p' → p' ≠ k := fun p' oc ev y => by
      subst ev
      subst y
      exact h2 (T.og j c p' z oc q1)
    cases c with
    | d y => exact q2
    | own ds =>
      obtain ⟨p', vs, f0, f1, f2, f3⟩ := q2
      exact ⟨p', vs, f0, f1, by rw [upd_ne (ne p' rfl f0)]; exact f2, f3⟩
    | dct ds =>
      obtain ⟨p', vs, f0, f1, f2, n, f3⟩ := q2
      exact ⟨p', vs, f0, f1, by rw [upd_ne (ne p' rfl f0)]; exact f2, n, f3⟩
    | brw => exact q2
  · rw [e] at z
    cases z
    exact ⟨h1, h2, x⟩
end
end Dl
end

/-! ## DRule1 -/
section
set_option Elab.async false
set_option linter.all false
set_option maxRecDepth 100000
set_option maxHeartbeats 2000000
/-! The data layer: readings of expressions, and the first rules. -/
namespace Dl
open PySem PySem.Spec PyProof.Rows L2

section
variable (K : PySem.W.Frag) (C : Addr) (κ : Option Addr)
/-- what follows a value d, from the state H F s, in the slots' state s' -/
def Ret (H0 F0 : Hp) (σ : St) (H F : Hp) (s s' : S) (d : D) (Q : VK) : Prop := ∀ v H' F', LenOk H' → Stt K C κ H0 F0 σ H' F' s' → Stp κ σ H F s H' F' s' → DP K C F' v d → Q v H'
def tD (φ : M D) : TE := fun σ H Q => ∃ H0 F0 F s, Stt K C κ H0 F0 σ H F s ∧ ∃ d s', φ s = some (d, s') ∧ Ret K C κ H0 F0 σ H F s s' d Q
/-- a value just made -/
def RV (H0 Hs : Hp) (σ : St) (H F : Hp) (s : S) (v : V) : R → Prop
  | .d x => DP K C F v x
  | .fr ds => ∃ p vs, v = .ref p ∧ F p = none ∧ H p = some (.lst vs) ∧ DPs K C F vs ds ∧ H0 p = none ∧ Unow σ s p ∧ Hs p = none
  | .fd ds => ∃ p kvs, v = .ref p ∧ F p = none ∧ H p = some (.dK kvs) ∧ KN kvs ∧ DPk K C F kvs ds ∧ H0 p = none ∧ Unow σ s p ∧ Hs p = none
def RetR (H0 F0 : Hp) (σ : St) (H F : Hp) (s s' : S) (d : R) (Q : VK) : Prop := ∀ v H' F', LenOk H' → Stt K C κ H0 F0 σ H' F' s' → Stp κ σ H F s H' F' s' → RV K C H0 H σ H' F' s' v d → Q v H'
def tR (φ : M R) : TE := fun σ H Q => ∃ H0 F0 F s, Stt K C κ H0 F0 σ H F s ∧ ∃ d s', φ s = some (d, s') ∧ RetR K C κ H0 F0 σ H F s s' d Q
def RetT (H0 F0 : Hp) (σ : St) (H F : Hp) (s s' : S) (b : Bool) (Q : Bool → Hp → Prop) : Prop := ∀ H' F', LenOk H' → Stt K C κ H0 F0 σ H' F' s' → Stp κ σ H F s H' F' s' → Q b H'
def tT (φ : M Bool) : TT := fun σ H Q => ∃ H0 F0 F s, Stt K C κ H0 F0 σ H F s ∧ ∃ d s', φ s = some (d, s') ∧ RetT K C κ H0 F0 σ H F s s' d Q
def RetL (H0 F0 : Hp) (σ : St) (H F : Hp) (s s' : S) (ds : List D) (Q : List V → Hp → Prop) : Prop := ∀ vs H' F', LenOk H' → Stt K C κ H0 F0 σ H' F' s' → Stp κ σ H F s H' F' s' → DPs K C F' vs ds → Q vs H'
def tL (φ : M (List D)) : TA := fun σ H Q => ∃ H0 F0 F s, Stt K C κ H0 F0 σ H F s ∧ ∃ d s', φ s = some (d, s') ∧ RetL K C κ H0 F0 σ H F s s' d Q
end

section
variable {K : PySem.W.Frag} {C : Addr} {κ : Option Addr} {H0 F0 H F H1 F1 : Hp} {σ : St} {s s1 s' : S}
theorem Ret.pull {d : D} {Q : VK} (k : Ret K C κ H0 F0 σ H F s s' d Q) (p : Stp κ σ H F s H1 F1 s1) : Ret K C κ H0 F0 σ H1 F1 s1 s' d Q := fun v H' F' l T q x => k v H' F' l T (p.trans q) x
theorem RV.start {Hs Hs2 : Hp} (h : ∀ b, Hs2 b = none → Hs b = none) {v : V} : ∀ {r : R}, RV K C H0 Hs2 σ H F s v r → RV K C H0 Hs σ H F s v r
  | .d x, z => z
  | .fr ds, ⟨a, vs, e, f, h1, x, h0, u, n⟩ => ⟨a, vs, e, f, h1, x, h0, u, h a n⟩
  | .fd ds, ⟨a, vs, e, f, h1, n2, x, h0, u, n⟩ => ⟨a, vs, e, f, h1, n2, x, h0, u, h a n⟩
theorem RetR.pull {d : R} {Q : VK} (k : RetR K C κ H0 F0 σ H F s s' d Q) (p : Stp κ σ H F s H1 F1 s1) : RetR K C κ H0 F0 σ H1 F1 s1 s' d Q := fun v H' F' l T q x => k v H' F' l T (p.trans q) (x.start p.gr)
theorem RetT.pull {d : Bool} {Q : Bool → Hp → Prop} (k : RetT K C κ H0 F0 σ H F s s' d Q) (p : Stp κ σ H F s H1 F1 s1) : RetT K C κ H0 F0 σ H1 F1 s1 s' d Q := fun H' F' l T q => k H' F' l T (p.trans q)
theorem RetL.pull {d : List D} {Q : List V → Hp → Prop} (k : RetL K C κ H0 F0 σ H F s s' d Q) (p : Stp κ σ H F s H1 F1 s1) : RetL K C κ H0 F0 σ H1 F1 s1 s' d Q := fun v H' F' l T q x => k v H' F' l T (p.trans q) x
theorem Ret.here {d : D} {Q : VK} (k : Ret K C κ H0 F0 σ H F s s d Q) (T : Stt K C κ H0 F0 σ H F s) {v : V} (x : DP K C F v d) : LenOk H → Q v H := fun l => k v H F l T Stp.refl x
/-- a new frozen object -/
theorem Ret.newF {d : D} {Q : VK} {p : Addr} {o : HO} (k : Ret K C κ H0 F0 σ H F s s d Q) (T : Stt K C κ H0 F0 σ H F s) (h : H p = none) (x : DP K C (upd F p o) (.ref p) d) : LenOk (upd H p o) → Q (.ref p) (upd H p o) :=
  fun l => k _ _ _ l (T.newF h) (Stp.newF T h) x
theorem RetR.new {ds : List D} {vs : List V} {Q : VK} {p : Addr} (k : RetR K C κ H0 F0 σ H F s s (.fr ds) Q) (T : Stt K C κ H0 F0 σ H F s) (h : H p = none) (x : DPs K C F vs ds) : LenOk (upd H p (.lst vs)) → Q (.ref p) (upd H p (.lst vs)) :=
  fun l => k _ _ _ l (T.new h) (Stp.new T h) ⟨p, vs, rfl, T.f0 h, upd_same, x, T.h0 h, T.unow_new h, h⟩
theorem RetR.newD {ds : List (Str × D)} {vs : List (Key × V)} {Q : VK} {p : Addr} (k : RetR K C κ H0 F0 σ H F s s (.fd ds) Q) (T : Stt K C κ H0 F0 σ H F s) (h : H p = none) (n : KN vs) (x : DPk K C F vs ds) : LenOk (upd H p (.dK vs)) → Q (.ref p) (upd H p (.dK vs)) :=
  fun l => k _ _ _ l (T.new h) (Stp.new T h) ⟨p, vs, rfl, T.f0 h, upd_same, n, x, T.h0 h, T.unow_new h, h⟩
theorem RV.keep {Hs : Hp} (T : Stt K C κ H0 F0 σ H F s) (p : Stp κ σ H F s H1 F1 s1) {v : V} : ∀ {r : R}, RV K C H0 Hs σ H F s v r → RV K C H0 Hs σ H1 F1 s1 v r
  | .d x, h => DP.mono p.fz h
  | .fr ds, ⟨a, vs, e, f, h, x, h0, u, z⟩ => by
    obtain ⟨q1, q2⟩ := p.kp a _ h f (T.kne h0) u
    exact ⟨a, vs, e, q2, q1, x.mono p.fz, h0, p.ow a u, z⟩
  | .fd ds, ⟨a, vs, e, f, h, n, x, h0, u, z⟩ => by
    obtain ⟨q1, q2⟩ := p.kp a _ h f (T.kne h0) u
    exact ⟨a, vs, e, q2, q1, n, x.mono p.fz, h0, p.ow a u, z⟩
/-- a thing just made, frozen -/
theorem frz_new {H2 F2 : Hp} {s2 : S} (T : Stt K C κ H0 F0 σ H2 F2 s2) (p1 : Stp κ σ H F s H2 F2 s2) {p : Addr} {o : HO} (e : H2 p = some o) (f : F2 p = none) (h0 : H0 p = none) (u : Unow σ s2 p) (z : H p = none) :
    Stt K C κ H0 F0 σ H2 (upd F2 p o) s2 ∧ Stp κ σ H F s H2 (upd F2 p o) s2 := by
  refine ⟨T.frz e h0 f u, p1.fz.trans (Same.updN f), fun b u hb fb kb ub => ?_, p1.ow, p1.gr, p1.lk⟩
  obtain ⟨q1, q2⟩ := p1.kp b u hb fb kb ub
  · rw [upd_ne (ne_of_none hb z)]
    exact ⟨q1, q2⟩

/-! ### what bears a tuple, a list .. -/
theorem DP.tupT {v : V} {ds : List D} (hs : Sub F H) (x : DP K C F v (.tup ds)) : ∃ a vs, v = .ref a ∧ SqT K H a vs ∧ DPs K C F vs ds := by
  cases x with
  | @tup a vs _ e q =>
    refine ⟨a, vs, rfl, .inl (.inl ?_), q⟩
    rcases hs a _ e with z | ⟨_, _, z, _⟩
    · exact z
    · cases z
  | @tupK a vs _ e q => exact ⟨a, vs, rfl, .inr e, q⟩
theorem DP.lstL {v : V} {ds : List D} (hs : Sub F H) (x : DP K C F v (.lst ds)) : ∃ a vs, v = .ref a ∧ H a = some (.lst vs) ∧ DPs K C F vs ds := by
  cases x with
  | @lst a vs _ e q =>
    refine ⟨a, vs, rfl, ?_, q⟩
    rcases hs a _ e with z | ⟨_, _, z, _⟩
    · exact z
    · cases z
theorem DP.dicD {v : V} {ds : List (Str × D)} (hs : Sub F H) (x : DP K C F v (.dic ds)) : ∃ a kvs, v = .ref a ∧ F a = some (.dK kvs) ∧ Rd H a (.dK kvs) ∧ KN kvs ∧ DPk K C F kvs ds := by
  cases x with
  | @dic a kvs _ e n q =>
    refine ⟨a, kvs, rfl, e, ?_, n, q⟩
    rcases hs a _ e with z | ⟨k2, ob, z, z2⟩
    · exact .inl z
    · exact .inr ⟨ob, z2⟩
theorem DP.webI {v : V} {ds : List (Str × D)} (hs : Sub F H) (x : DP K C F v (.web ds)) : ∃ a dx fs, v = .ref a ∧ H a = some (.ins C dx fs) ∧ DPf K C F fs ds := by
  cases x with
  | @web a dx fs _ e q =>
    refine ⟨a, dx, fs, rfl, ?_, q⟩
    rcases hs a _ e with z | ⟨_, _, z, _⟩
    · exact z
    · cases z
theorem DP.scrL {v : V} {ns : List Int} (hs : Sub F H) (x : DP K C F v (.scr ns)) : ∃ a, v = .ref a ∧ SqL K H a (ns.map V.int) := by
  cases x with
  | @scr a o _ e =>
    refine ⟨a, rfl, .inl (.inr ⟨o, ?_⟩)⟩
    rcases hs a _ e with z | ⟨_, _, z, _⟩
    · exact z
    · cases z
  | @scrK a _ e => exact ⟨a, rfl, .inr e⟩
theorem DP.intI {v : V} {i : Int} (x : DP K C F v (.int i)) : v = .int i := by cases x; rfl
theorem DP.strI {v : V} {i : Str} (x : DP K C F v (.str i)) : v = .str i := by cases x; rfl
theorem DP.blI {v : V} {i : Bool} (x : DP K C F v (.bl i)) : v = .bl i := by cases x; rfl
theorem DP.nonI {v : V} (x : DP K C F v .non) : v = .non := by cases x; rfl
theorem sqT_len {a : Addr} {vs : List V} (l : LenOk H) (h : SqT K H a vs) : vs.length ≤ sizeLine := by
  rcases h with (h | ⟨o, h⟩) | ⟨o, its, n, hk, hc, hs, hz, r⟩
  · exact l a _ h
  · exact l a _ h
  · have e := r.length
    simp only [Array.length_toList] at e
    omega
theorem sqL_len {a : Addr} {vs : List V} (l : LenOk H) (h : SqL K H a vs) : vs.length ≤ sizeLine := by
  rcases h with (h | ⟨o, h⟩) | ⟨o, its, n, hk, hc, hd, hs, hz, r⟩
  · exact l a _ h
  · exact l a _ h
  · have e := r.length
    simp only [Array.length_toList] at e
    omega
mutual
theorem DP.toDp (hs : Sub F H) : ∀ {d : D} {v : V} {p : PyData}, DP K C F v d → d.py = some p → Dp K H v p
  | .non, _, _, .non, e => by cases (show some PyData.none = some _ from e); exact .non
  | .bl b, _, _, .bl _, e => by cases (show some (PyData.bool b) = some _ from e); exact .bl b
  | .int b, _, _, .int _, e => by cases (show some (PyData.int b) = some _ from e); exact .int b
  | .str b, _, _, .str _, e => by cases (show some (PyData.str b) = some _ from e); exact .str b
  | .tup ds, v, p, x, e => by
    unfold D.py at e
    cases q : D.pys ds with
    | none => rw [q] at e; cases e
    | some ys =>
      rw [q] at e
      cases e
      obtain ⟨a, vs, rfl, h1, h2⟩ := x.tupT hs
      exact .tup h1 (DPs.toDp hs h2 q)
  | .lst ds, v, p, x, e => by
    unfold D.py at e
    cases q : D.pys ds with
    | none => rw [q] at e; cases e
    | some ys =>
      rw [q] at e
      cases e
      obtain ⟨a, vs, rfl, h1, h2⟩ := x.lstL hs
      exact .lst (.inl (.inl h1)) (DPs.toDp hs h2 q)
  | .dic _, _, _, _, e => by cases (show (none : Option PyData) = some _ from e)
  | .web _, _, _, _, e => by cases (show (none : Option PyData) = some _ from e)
  | .scr _, _, _, _, e => by cases (show (none : Option PyData) = some _ from e)
theorem DPs.toDp (hs : Sub F H) : ∀ {ds : List D} {vs : List V} {ps : List PyData}, DPs K C F vs ds → D.pys ds = some ps → DpAll K H vs ps
  | [], _, _, .nil, e => by
    cases (show some ([] : List PyData) = some _ from e)
    exact .nil
  | d :: ds, _, _, .cons a b, e => by
    unfold D.pys at e
    cases q1 : D.py d with
    | none => rw [q1] at e; cases e
    | some y =>
      cases q2 : D.pys ds with
      | none => rw [q1, q2] at e; cases e
      | some ys =>
        rw [q1, q2] at e
        cases e
        exact .cons (DP.toDp hs a q1) (DPs.toDp hs b q2)
end
end

/-! ### making rules -/
section
variable {X : Cx} {C : Addr} {κ : Option Addr} {e a b c : Expr} {pos : Pos}
theorem pd_mk {t : TE} {φ : M D} (h : PE X e t) (w : ∀ {H0 F0 : Hp} {σ : St} {H F : Hp} {s : S} {d : D} {s' : S} (Q : VK), LenOk H → Stt X.K C κ H0 F0 σ H F s → φ s = some (d, s') → Ret X.K C κ H0 F0 σ H F s s' d Q → t σ H fun v H' => LenOk H' → Q v H') : PE X e (tD X.K C κ φ) :=
  ⟨fun pins s σ H Q I ⟨H0, F0, F, st, T, d, s', ed, k⟩ => thn (h.run pins s σ H _ I (w Q (lenOk_of I) T ed k)) fun _ _ ⟨v, H', I', r, q⟩ => ⟨v, H', I', r, q (lenOk_of I')⟩⟩
theorem pr_mk {t : TE} {φ : M R} (h : PE X e t) (w : ∀ {H0 F0 : Hp} {σ : St} {H F : Hp} {s : S} {d : R} {s' : S} (Q : VK), LenOk H → Stt X.K C κ H0 F0 σ H F s → φ s = some (d, s') → RetR X.K C κ H0 F0 σ H F s s' d Q → t σ H fun v H' => LenOk H' → Q v H') : PE X e (tR X.K C κ φ) :=
  ⟨fun pins s σ H Q I ⟨H0, F0, F, st, T, d, s', ed, k⟩ => thn (h.run pins s σ H _ I (w Q (lenOk_of I) T ed k)) fun _ _ ⟨v, H', I', r, q⟩ => ⟨v, H', I', r, q (lenOk_of I')⟩⟩
theorem pt_mk {t : TT} {φ : M Bool} (h : PT X e t) (w : ∀ {H0 F0 : Hp} {σ : St} {H F : Hp} {s : S} {d : Bool} {s' : S} (Q : Bool → Hp → Prop), LenOk H → Stt X.K C κ H0 F0 σ H F s → φ s = some (d, s') → RetT X.K C κ H0 F0 σ H F s s' d Q → t σ H fun v H' => LenOk H' → Q v H') : PT X e (tT X.K C κ φ) :=
  ⟨fun pins s σ H Q I ⟨H0, F0, F, st, T, d, s', ed, k⟩ => thn (h.run pins s σ H _ I (w Q (lenOk_of I) T ed k)) fun _ _ ⟨H', I', q⟩ => ⟨H', I', q (lenOk_of I')⟩⟩
theorem pl_mk {es : List Expr} {t : TA} {φ : M (List D)} (h : PA X es t) (w : ∀ {H0 F0 : Hp} {σ : St} {H F : Hp} {s : S} {d : List D} {s' : S} (Q : List V → Hp → Prop), LenOk H → Stt X.K C κ H0 F0 σ H F s → φ s = some (d, s') → RetL X.K C κ H0 F0 σ H F s s' d Q → t σ H fun v H' => LenOk H' → Q v H') : PA X es (tL X.K C κ φ) :=
  ⟨fun pos pins s σ H Q I ⟨H0, F0, F, st, T, d, s', ed, k⟩ => thn (h.run pos pins s σ H _ I (w Q (lenOk_of I) T ed k)) fun _ _ ⟨v, H', I', r, q⟩ => ⟨v, H', I', r, q (lenOk_of I')⟩⟩

theorem mBind_some {α β : Type} {m : M α} {k : α → M β} {s s' : S} {y : β} (h : mBind m k s = some (y, s')) : ∃ x s1, m s = some (x, s1) ∧ k x s1 = some (y, s') := by
  unfold mBind at h
  cases q : m s with
  | none => rw [q] at h; cases h
  | some p =>
    obtain ⟨x, s1⟩ := p
    rw [q] at h
    exact ⟨x, s1, rfl, h⟩
theorem mLift_some {α : Type} {o : Option α} {s s' : S} {y : α} (h : mLift o s = some (y, s')) : o = some y ∧ s' = s := by
  unfold mLift at h
  cases o with
  | none => cases h
  | some a => cases h; exact ⟨rfl, rfl⟩
theorem mRet_some {α : Type} {a : α} {s s' : S} {y : α} (h : mRet a s = some (y, s')) : a = y ∧ s' = s := by
  cases h
  exact ⟨rfl, rfl⟩
theorem xUn_some {f : D → Option D} {m : M D} {s s' : S} {d : D} (h : xUn f m s = some (d, s')) : ∃ x, m s = some (x, s') ∧ f x = some d := by
  obtain ⟨x, s1, h1, h2⟩ := mBind_some h
  obtain ⟨h3, rfl⟩ := mLift_some h2
  exact ⟨x, h1, h3⟩
theorem xBin_some {f : D → D → Option D} {m n : M D} {s s' : S} {d : D} (h : xBin f m n s = some (d, s')) : ∃ x s1 y, m s = some (x, s1) ∧ n s1 = some (y, s') ∧ f x y = some d := by
  obtain ⟨x, s1, h1, h2⟩ := mBind_some h
  obtain ⟨y, s2, h3, h4⟩ := mBind_some h2
  obtain ⟨h5, rfl⟩ := mLift_some h4
  exact ⟨x, s1, y, h1, h3, h5⟩
theorem tUn_some {f : D → Option Bool} {m : M D} {s s' : S} {d : Bool} (h : tUn f m s = some (d, s')) : ∃ x, m s = some (x, s') ∧ f x = some d := by
  obtain ⟨x, s1, h1, h2⟩ := mBind_some h
  obtain ⟨h3, rfl⟩ := mLift_some h2
  exact ⟨x, h1, h3⟩
theorem tBin_some {f : D → D → Option Bool} {m n : M D} {s s' : S} {d : Bool} (h : tBin f m n s = some (d, s')) : ∃ x s1 y, m s = some (x, s1) ∧ n s1 = some (y, s') ∧ f x y = some d := by
  obtain ⟨x, s1, h1, h2⟩ := mBind_some h
  obtain ⟨y, s2, h3, h4⟩ := mBind_some h2
  obtain ⟨h5, rfl⟩ := mLift_some h4
  exact ⟨x, s1, y, h1, h3, h5⟩
theorem xB_some {m : M Bool} {s s' : S} {d : D} (h : xB m s = some (d, s')) : ∃ b, m s = some (b, s') ∧ d = .bl b := by
  obtain ⟨x, s1, h1, h2⟩ := mBind_some h
  obtain ⟨h3, rfl⟩ := mRet_some h2
  exact ⟨x, h1, h3.symm⟩

/-! ### constants, names -/
theorem pd_int {i : Int} {j} : PE X (.Constant (.int i) j pos) (tD X.K C κ (xC (.int i))) := pd_mk pe_int fun Q l T h k => by
  obtain ⟨rfl, rfl⟩ := mRet_some h
  exact k.here T (.int i)
theorem pd_str {i : Str} {j} : PE X (.Constant (.str i) j pos) (tD X.K C κ (xC (.str i))) := pd_mk pe_str fun Q l T h k => by
  obtain ⟨rfl, rfl⟩ := mRet_some h
  exact k.here T (.str i)
theorem pd_bl {i : Bool} {j} : PE X (.Constant (.bool i) j pos) (tD X.K C κ (xC (.bl i))) := pd_mk pe_bl fun Q l T h k => by
  obtain ⟨rfl, rfl⟩ := mRet_some h
  exact k.here T (.bl i)
theorem pd_non {j} : PE X (.Constant .none j pos) (tD X.K C κ (xC .non)) := pd_mk pe_non fun Q l T h k => by
  obtain ⟨rfl, rfl⟩ := mRet_some h
  exact k.here T .non
/-- a constant of the module -/
theorem pd_glob {x : Str} {v : V} {u : Value} {d : D} (hg : Gl X x) (hm : X.mg x = some u) (r : RelV v u) (hd : ∀ F, DP X.K C F v d) (hdb : (x == ("__debug__" : Str)) = false := by decide) : PE X (.Name x pos) (tD X.K C κ (xC d)) := pd_mk (pe_glob hg hm r hdb) fun Q l T h k => by
  obtain ⟨rfl, rfl⟩ := mRet_some h
  exact k.here T (hd _)
/-- freezing what a slot owns -/
theorem own_frz {K : PySem.W.Frag} {H0 F0 : Hp} {σ : St} {H F : Hp} {s : S} {i : Nat} {p : Addr} {A1 : A} {o : HO} {d : D} (T : Stt K C κ H0 F0 σ H F s) (e : getA s i = some A1) (ho : isOwn A1 = true) (hv : σ[i]? = some (some (.ref p))) (hF : F p = none) (hH : H p = some o)
    (x : DP K C (upd F p o) (.ref p) d) : Stt K C κ H0 F0 σ H (upd F p o) (setA s i (.d d)) ∧ Stp κ σ H F s H (upd F p o) (setA s i (.d d)) := by
  have hi := getA_lt e
  have h0 := T.og i _ p e ho hv
  -- the slot forgotten: the thing is nobody's
  have hσ : (σ.set i none).set i (some (.ref p)) = σ := by
    rw [List.set_set]
    refine List.ext_getElem? fun j => ?_
    by_cases hj : i = j
    · subst hj
      rw [List.getElem?_set_self (by rw [← T.len]; exact hi)]
      exact hv.symm
    · rw [List.getElem?_set_ne hj]
  have hs : setA (clrA s i) i (.d d) = setA s i (.d d) := by
    unfold setA clrA
    simp
  have U : Unow (σ.set i none) (clrA s i) p := fun j a e1 o1 q => by
    obtain ⟨h1, h2⟩ := getA_clr e1
    rw [List.getElem?_set_ne (fun z => h1 z.symm)] at q
    exact h1 (T.uq j i a _ _ h2 o1 e ho q hv)
  have T2 := ((T.clr i).frz hH h0 hF U).setD (i := i) (v := .ref p) (d := d) (by rw [clrA_len]; exact hi) x
  rw [hσ, hs] at T2
  refine ⟨T2, Same.updN hF, fun b u hb fb kb ub => ?_, fun b ub j a e1 o1 q => ?_, fun _ z => z, fun _ _ _ z => z⟩
  · have nb : b ≠ p := fun z => ub i _ e ho (by rw [z]; exact hv)
    rw [upd_ne nb]
    exact ⟨hb, fb⟩
  · rw [getA_set hi] at e1
    by_cases hj : j = i
    · rw [if_pos hj] at e1
      cases e1
      cases o1
    · rw [if_neg hj] at e1
      exact ub j a e1 o1 q
theorem xVar_some {i : Nat} {s s' : S} {d : D} (h : xVar i s = some (d, s')) : (getA s i = some (.d d) ∧ s' = s) ∨ (∃ xs, getA s i = some (.own xs) ∧ d = .lst xs ∧ s' = setA s i (.d d)) ∨ (∃ xs, getA s i = some (.dct xs) ∧ d = .dic xs ∧ s' = setA s i (.d d)) := by
  unfold xVar at h
  split at h
  · cases h; rename_i q; exact .inl ⟨q, rfl⟩
  · cases h; rename_i q; exact .inr (.inl ⟨_, q, rfl, rfl⟩)
  · cases h; rename_i q; exact .inr (.inr ⟨_, q, rfl, rfl⟩)
  · cases h
theorem pd_var (i : Nat) {x : Str} (hN : X.N[i]? = some x := by rfl) (hv : Vis X.env.scope x := by first | exact Or.inl rfl | exact Or.inr (Or.inl rfl) | exact Or.inr (Or.inr rfl)) (hd : (x == ("__debug__" : Str)) = false := by decide)
    (hcd : (x == ("__classdict__" : Str)) = false := by decide) : PE X (.Name x pos) (tD X.K C κ (xVar i)) := pd_mk (pe_var hN hv hd hcd) fun {H0 F0 σ H F s d s'} Q l T h k => by
  rcases xVar_some h with ⟨e, rfl⟩ | ⟨xs, e, rfl, rfl⟩ | ⟨xs, e, rfl, rfl⟩
  · obtain ⟨v, q1, q2⟩ := T.slot i _ e
    exact ⟨v, q1, k.here T q2⟩
  · obtain ⟨v, q1, p, vs, rfl, q3, q4, q5⟩ := T.slot i _ e
    have x : DP X.K C (upd F p (.lst vs)) (.ref p) (.lst xs) := .lst upd_same (q5.mono (Same.updN q3))
    obtain ⟨T2, P2⟩ := own_frz T e rfl q1 q3 q4 x
    exact ⟨_, q1, fun l2 => k _ _ _ l2 T2 P2 x⟩
  · obtain ⟨v, q1, p, vs, rfl, q3, q4, n, q5⟩ := T.slot i _ e
    have x : DP X.K C (upd F p (.dK vs)) (.ref p) (.dic xs) := .dic upd_same n (q5.mono (Same.updN q3))
    obtain ⟨T2, P2⟩ := own_frz T e rfl q1 q3 q4 x
    exact ⟨_, q1, fun l2 => k _ _ _ l2 T2 P2 x⟩
/-- a value just made, frozen -/
theorem pd_frz {φ : M R} (h : PE X e (tR X.K C κ φ)) : PE X e (tD X.K C κ (xFrz φ)) := pd_mk h fun {H0 F0 σ H F s d s'} Q l T q k => by
  obtain ⟨r, s1, h1, h2⟩ := mBind_some q
  refine ⟨H0, F0, F, s, T, r, s1, h1, fun v H' F' l1 T1 p1 x1 l2 => ?_⟩
  cases r with
  | d x =>
    obtain ⟨rfl, rfl⟩ := mRet_some h2
    exact k v H' F' l1 T1 p1 x1
  | fr xs =>
    obtain ⟨rfl, rfl⟩ := mRet_some h2
    obtain ⟨p, vs, rfl, f, hp, x, h0, u, z⟩ := x1
    obtain ⟨T2, p2⟩ := frz_new T1 p1 hp f h0 u z
    exact k _ _ _ l1 T2 p2 (.lst upd_same (x.mono (Same.updN f)))
  | fd xs =>
    obtain ⟨rfl, rfl⟩ := mRet_some h2
    obtain ⟨p, vs, rfl, f, hp, n, x, h0, u, z⟩ := x1
    obtain ⟨T2, p2⟩ := frz_new T1 p1 hp f h0 u z
    exact k _ _ _ l1 T2 p2 (.dic upd_same n (x.mono (Same.updN f)))
end
end Dl
end

/-! ## DRule2 -/
section
set_option Elab.async false
set_option linter.all false
set_option maxRecDepth 100000
set_option maxHeartbeats 2000000
/-! The data layer: operators, comparisons, tests, subscripts. -/
namespace Dl
open PySem PySem.Spec PyProof.Rows L2
section
variable {X : Cx} {C : Addr} {κ : Option Addr} {e a b c : Expr} {pos : Pos} {φa φb φc : M D} {τa τb : M Bool}

theorem pd_bin {r : R2} {g : D → D → Option D} (h : PE X e (tOp r (tD X.K C κ φa) (tD X.K C κ φb)))
    (hr : ∀ {H0 F0 : Hp} {σ : St} {H F : Hp} {s : S} {x y : V} {dx dy d : D} (Q : VK), LenOk H → Stt X.K C κ H0 F0 σ H F s → DP X.K C F x dx → DP X.K C F y dy → g dx dy = some d → Ret X.K C κ H0 F0 σ H F s s d Q → r x y H fun v H' => LenOk H' → Q v H') :
    PE X e (tD X.K C κ (xBin g φa φb)) := pd_mk h fun {H0 F0 σ H F s d s'} Q l T q k => by
  obtain ⟨x, s1, y, e1, e2, e3⟩ := xBin_some q
  exact ⟨H0, F0, F, s, T, x, s1, e1, fun v1 H1 F1 l1 T1 p1 x1 => ⟨H0, F0, F1, s1, T1, y, s', e2, fun v2 H2 F2 l2 T2 p2 x2 => hr Q l2 T2 (x1.mono p2.fz) x2 e3 (k.pull (p1.trans p2))⟩⟩

theorem pd_add (ha : PE X a (tD X.K C κ φa)) (hb : PE X b (tD X.K C κ φb)) : PE X (.BinOp a .Add b pos) (tD X.K C κ (xBin oAdd φa φb)) := pd_bin (pe_op op_add ha hb) fun {H0 F0 σ H F s x y dx dy d} Q l T x1 x2 g k => by
  cases dx <;> cases dy <;> cases g
  exact ⟨_, _, x1.intI, x2.intI, k.here T (.int _)⟩
theorem pd_sub (ha : PE X a (tD X.K C κ φa)) (hb : PE X b (tD X.K C κ φb)) : PE X (.BinOp a .Sub b pos) (tD X.K C κ (xBin oSub φa φb)) := pd_bin (pe_op op_sub ha hb) fun {H0 F0 σ H F s x y dx dy d} Q l T x1 x2 g k => by
  cases dx <;> cases dy <;> cases g
  exact ⟨_, _, x1.intI, x2.intI, k.here T (.int _)⟩
theorem big_log {i : Int} (h : i.natAbs < big) : i.natAbs.log2 < 8000 := by
  by_cases z : i.natAbs = 0
  · rw [z]; decide
  · exact (Nat.log2_lt z).mpr h
theorem op_mulB : OpR X (binaryOp .Mult) (rI (fun i j => mulOk i j = true) fun i j => .int (i * j)) := by
  intro pins s σ H x y v u Q I rx ry h
  obtain ⟨i, j, rfl, rfl, c, q⟩ := h
  unfold mulOk at c
  rcases Bool.or_eq_true_iff.mp c with c | c
  · have c := of_decide_eq_true c
    exact op_mul pins s σ H _ _ v u Q I rx ry ⟨i, j, rfl, rfl, .inl ⟨by omega, by omega⟩, q⟩
  · rcases Bool.or_eq_true_iff.mp c with c | c
    · have c := of_decide_eq_true c
      exact op_mul pins s σ H _ _ v u Q I rx ry ⟨i, j, rfl, rfl, .inr ⟨by omega, by omega⟩, q⟩
    · obtain ⟨c1, c2⟩ := Bool.and_eq_true_iff.mp c
      have h1 := big_log (of_decide_eq_true c1)
      have h2 := big_log (of_decide_eq_true c2)
      exact op_mulW pins s σ H _ _ v u Q I rx ry ⟨i, j, rfl, rfl, (by show i.natAbs.log2 + j.natAbs.log2 < 1000000; omega), q⟩
theorem pd_mul (ha : PE X a (tD X.K C κ φa)) (hb : PE X b (tD X.K C κ φb)) : PE X (.BinOp a .Mult b pos) (tD X.K C κ (xBin oMul φa φb)) := pd_bin (pe_op op_mulB ha hb) fun {H0 F0 σ H F s x y dx dy d} Q l T x1 x2 g k => by
  cases dx <;> cases dy <;> first | cases g | skip
  rename_i i j
  have g : (if mulOk i j = true then some (D.int (i * j)) else none) = some d := g
  by_cases hc : mulOk i j = true
  · rw [if_pos hc] at g
    cases g
    exact ⟨_, _, x1.intI, x2.intI, hc, k.here T (.int _)⟩
  · rw [if_neg hc] at g
    cases g
theorem pd_div (ha : PE X a (tD X.K C κ φa)) (hb : PE X b (tD X.K C κ φb)) : PE X (.BinOp a .FloorDiv b pos) (tD X.K C κ (xBin oDiv φa φb)) := pd_bin (pe_op op_fdivW ha hb) fun {H0 F0 σ H F s x y dx dy d} Q l T x1 x2 g k => by
  cases dx <;> cases dy <;> first | cases g | skip
  rename_i i j
  have g : (if 0 < j ∧ j.natAbs < big then some (D.int (i / j)) else none) = some d := g
  by_cases hc : 0 < j ∧ j.natAbs < big
  · rw [if_pos hc] at g
    cases g
    have h2 := big_log hc.2
    exact ⟨_, _, x1.intI, x2.intI, ⟨hc.1, by omega⟩, k.here T (.int _)⟩
  · rw [if_neg hc] at g
    cases g
theorem pd_mod (ha : PE X a (tD X.K C κ φa)) (hb : PE X b (tD X.K C κ φb)) : PE X (.BinOp a .Mod b pos) (tD X.K C κ (xBin oMod φa φb)) := pd_bin (pe_op op_mod ha hb) fun {H0 F0 σ H F s x y dx dy d} Q l T x1 x2 g k => by
  cases dx <;> cases dy <;> first | cases g | skip
  rename_i i j
  have g : (if 0 < j then some (D.int (i % j)) else none) = some d := g
  by_cases hc : 0 < j
  · rw [if_pos hc] at g
    cases g
    exact ⟨_, _, x1.intI, x2.intI, hc, k.here T (.int _)⟩
  · rw [if_neg hc] at g
    cases g
theorem pd_pow (ha : PE X a (tD X.K C κ φa)) (hb : PE X b (tD X.K C κ φb)) : PE X (.BinOp a .Pow b pos) (tD X.K C κ (xBin oPow φa φb)) := pd_bin (pe_op op_pow ha hb) fun {H0 F0 σ H F s x y dx dy d} Q l T x1 x2 g k => by
  cases dx <;> cases dy <;> first | cases g | skip
  rename_i i j
  have g : (if 0 ≤ j ∧ j ≤ 1000 ∧ i.natAbs < 2 ^ 60 then some (D.int (i ^ j.toNat)) else none) = some d := g
  by_cases hc : 0 ≤ j ∧ j ≤ 1000 ∧ i.natAbs < 2 ^ 60
  · rw [if_pos hc] at g
    cases g
    exact ⟨_, _, x1.intI, x2.intI, ⟨hc.1, by omega, Nat.lt_trans hc.2.2 (by decide)⟩, k.here T (.int _)⟩
  · rw [if_neg hc] at g
    cases g
theorem line1000 {n : Nat} (h : n ≤ 1000) : n ≤ sizeLine := Nat.le_of_lt (small1000 h)
theorem pd_catT (ha : PE X a (tD X.K C κ φa)) (hb : PE X b (tD X.K C κ φb)) : PE X (.BinOp a .Add b pos) (tD X.K C κ (xBin oCatT φa φb)) := pd_bin (pe_op op_catT ha hb) fun {H0 F0 σ H F s x y dx dy d} Q l T x1 x2 g k => by
  cases dx <;> cases dy <;> first | cases g | skip
  rename_i xs ys
  have g : (if xs ≠ [] ∧ ys ≠ [] ∧ xs.length + ys.length ≤ 1000 then some (D.tup (xs ++ ys)) else none) = some d := g
  by_cases hc : xs ≠ [] ∧ ys ≠ [] ∧ xs.length + ys.length ≤ 1000
  · rw [if_pos hc] at g
    cases g
    obtain ⟨a1, vs, rfl, t1, y1⟩ := x1.tupT T.sub
    obtain ⟨a2, ws, rfl, t2, y2⟩ := x2.tupT T.sub
    have l1 := y1.length
    have l2 := y2.length
    have n1 : vs ≠ [] := fun z => by subst z; exact hc.1 (List.eq_nil_of_length_eq_zero l1.symm)
    have n2 : ws ≠ [] := fun z => by subst z; exact hc.2.1 (List.eq_nil_of_length_eq_zero l2.symm)
    refine ⟨_, _, _, _, rfl, rfl, t1, t2, n1, by rw [l1, l2]; exact line1000 hc.2.2, ?_⟩
    first
      | exact ⟨fun z => (n2 z).elim, fun _ p hp => k.newF T hp (.tup upd_same ((y1.append y2).mono (Same.updN (T.f0 hp))))⟩
      | exact fun p hp => k.newF T hp (.tup upd_same ((y1.append y2).mono (Same.updN (T.f0 hp))))
      | (rw [if_neg (by simpa using n2)]; exact fun p hp => k.newF T hp (.tup upd_same ((y1.append y2).mono (Same.updN (T.f0 hp)))))
  · rw [if_neg hc] at g
    cases g

/-! ### comparisons -/
structure CmpD (X : Cx) (C : Addr) (op : CmpOp) (g : D → D → Option Bool) : Prop where
  ex : ∃ r : R2, OpR X (compareOp op) r ∧ ∀ {H F : Hp} {x y : V} {dx dy : D} {k : Bool} (Q : VK), LenOk H → Sub F H → DP X.K C F x dx → DP X.K C F y dy → g dx dy = some k → Q (.bl k) H → r x y H Q
theorem pd_cmp {op : CmpOp} {g : D → D → Option Bool} (o : CmpD X C op g) (ha : PE X a (tD X.K C κ φa)) (hb : PE X b (tD X.K C κ φb)) (hm : behindInMarks op b = false) : PE X (.Compare a [op] [b] pos) (tD X.K C κ (xB (tBin g φa φb))) := by
  obtain ⟨r, ho, hr⟩ := o.ex
  refine pd_mk (pe_cmpR ho ha hb hm) fun {H0 F0 σ H F s d s'} Q l T q k => ?_
  obtain ⟨w, q1, rfl⟩ := xB_some q
  obtain ⟨x, s1, y, e1, e2, e3⟩ := tBin_some q1
  exact ⟨H0, F0, F, s, T, x, s1, e1, fun v1 H1 F1 l1 T1 p1 x1 => ⟨H0, F0, F1, s1, T1, y, s', e2, fun v2 H2 F2 l2 T2 p2 x2 => hr _ l2 T2.sub (x1.mono p2.fz) x2 e3 ((k.pull (p1.trans p2)).here T2 (.bl _))⟩⟩
theorem pt_cmpD {op : CmpOp} {g : D → D → Option Bool} (o : CmpD X C op g) (ha : PE X a (tD X.K C κ φa)) (hb : PE X b (tD X.K C κ φb)) (hm : behindInMarks op b = false) : PT X (.Compare a [op] [b] pos) (tT X.K C κ (tBin g φa φb)) := by
  obtain ⟨r, ho, hr⟩ := o.ex
  refine pt_mk (pt_cmpR ho ha hb hm) fun {H0 F0 σ H F s d s'} Q l T q k => ?_
  obtain ⟨x, s1, y, e1, e2, e3⟩ := tBin_some q
  exact ⟨H0, F0, F, s, T, x, s1, e1, fun v1 H1 F1 l1 T1 p1 x1 => ⟨H0, F0, F1, s1, T1, y, s', e2, fun v2 H2 F2 l2 T2 p2 x2 => hr _ l2 T2.sub (x1.mono p2.fz) x2 e3 ⟨_, rfl, fun l9 => k H2 F2 l9 T2 (p1.trans p2)⟩⟩⟩
theorem c_lt : CmpD X C .Lt oLt := ⟨_, OpR.or op_lt op_lt_str, fun {H F x y dx dy k} Q l hs x1 x2 g q => by
  cases dx <;> cases dy <;> cases g
  · exact .inl ⟨_, _, x1.intI, x2.intI, q⟩
  · exact .inr ⟨_, _, x1.strI, x2.strI, q⟩⟩
theorem c_le : CmpD X C .LtE oLe := ⟨_, op_le, fun {H F x y dx dy k} Q l hs x1 x2 g q => by
  cases dx <;> cases dy <;> cases g
  exact ⟨_, _, x1.intI, x2.intI, q⟩⟩
theorem c_gt : CmpD X C .Gt oGt := ⟨_, op_gt, fun {H F x y dx dy k} Q l hs x1 x2 g q => by
  cases dx <;> cases dy <;> cases g
  exact ⟨_, _, x1.intI, x2.intI, q⟩⟩
theorem c_ge : CmpD X C .GtE oGe := ⟨_, op_ge, fun {H F x y dx dy k} Q l hs x1 x2 g q => by
  cases dx <;> cases dy <;> cases g
  exact ⟨_, _, x1.intI, x2.intI, q⟩⟩
theorem oEq_some {dx dy : D} {k : Bool} (g : oEq dx dy = some k) : ∃ x y, dx.py = some x ∧ dy.py = some y ∧ SeqAt.shaped x = true ∧ SeqAt.shaped y = true ∧ k = PyData.eqv x y := by
  unfold oEq at g
  cases q1 : dx.py with
  | none => rw [q1] at g; cases g
  | some x =>
    cases q2 : dy.py with
    | none => rw [q1, q2] at g; cases g
    | some y =>
      rw [q1, q2] at g
      have g : (if SeqAt.shaped x = true ∧ SeqAt.shaped y = true then some (PyData.eqv x y) else none) = some k := g
      by_cases hc : SeqAt.shaped x = true ∧ SeqAt.shaped y = true
      · rw [if_pos hc] at g
        exact ⟨x, y, rfl, rfl, hc.1, hc.2, (Option.some.inj g).symm⟩
      · rw [if_neg hc] at g
        cases g
theorem c_eq (hu : X.A.units + 64 < cLine) : CmpD X C .Eq oEq := ⟨_, op_eqD hu, fun {H F x y dx dy k} Q l hs x1 x2 g q => by
  obtain ⟨p, p2, h1, h2, h3, h4, rfl⟩ := oEq_some g
  exact ⟨p, p2, x1.toDp hs h1, x2.toDp hs h2, h3, h4, q⟩⟩
theorem c_ne (hu : X.A.units + 64 < cLine) : CmpD X C .NotEq oNe := ⟨_, op_neD hu, fun {H F x y dx dy k} Q l hs x1 x2 g q => by
  unfold oNe at g
  cases h : oEq dx dy with
  | none => rw [h] at g; cases g
  | some j =>
    rw [h] at g
    cases g
    obtain ⟨p, p2, h1, h2, h3, h4, rfl⟩ := oEq_some h
    exact ⟨p, p2, x1.toDp hs h1, x2.toDp hs h2, h3, h4, q⟩⟩
theorem inV_strs (x : Str) : ∀ zs : List Str, inV (.str x) (zs.map V.str) = decide (x ∈ zs)
  | [] => by simp [inV]
  | z :: r => by
    have ih := inV_strs x r
    unfold inV at ih ⊢
    rw [List.map_cons, List.any_cons, ih]
    show ((z == x) || decide (x ∈ r)) = _
    by_cases e : z = x
    · subst e
      simp
    · have e1 : (z == x) = false := by simpa using e
      rw [e1, Bool.false_or]
      have : (x ∈ z :: r) ↔ x ∈ r := ⟨fun h => (List.mem_cons.mp h).elim (fun q => (e q.symm).elim) id, List.mem_cons_of_mem _⟩
      simp only [this]
theorem flat_strs (zs : List Str) : (zs.map V.str).all flatV = true := by
  rw [List.all_eq_true]
  intro v hv
  obtain ⟨z, _, rfl⟩ := List.mem_map.mp hv
  rfl
theorem oIn_some {dx dy : D} {k : Bool} (g : oIn dx dy = some k) : ∃ x ys zs, dx = .str x ∧ (dy = .lst ys ∨ dy = .tup ys) ∧ strsOf ys = some zs ∧ k = decide (x ∈ zs) := by
  unfold oIn at g
  split at g
  · rename_i x ys
    cases q : strsOf ys with
    | none => rw [q] at g; cases g
    | some zs => rw [q] at g; cases g; exact ⟨x, ys, zs, rfl, .inl rfl, q, rfl⟩
  · rename_i x ys
    cases q : strsOf ys with
    | none => rw [q] at g; cases g
    | some zs => rw [q] at g; cases g; exact ⟨x, ys, zs, rfl, .inr rfl, q, rfl⟩
  · cases g
theorem in_seq {K : PySem.W.Frag} {H F : Hp} {x y : V} {dx dy : D} {k : Bool} (hs : Sub F H) (x1 : DP K C F x dx) (x2 : DP K C F y dy) (g : oIn dx dy = some k) :
    ∃ p xs, y = .ref p ∧ (SqL K H p xs ∨ SqT K H p xs) ∧ flatV x = true ∧ xs.all flatV = true ∧ inV x xs = k := by
  obtain ⟨z, ys, zs, rfl, hy, hz, rfl⟩ := oIn_some g
  obtain rfl := x1.strI
  rcases hy with rfl | rfl
  · obtain ⟨a, vs, rfl, h1, h2⟩ := x2.lstL hs
    obtain ⟨h3, _⟩ := h2.strsV hz
    subst h3
    exact ⟨a, _, rfl, .inl (.inl (.inl h1)), rfl, flat_strs _, inV_strs _ _⟩
  · obtain ⟨a, vs, rfl, h1, h2⟩ := x2.tupT hs
    obtain ⟨h3, _⟩ := h2.strsV hz
    subst h3
    exact ⟨a, _, rfl, .inr h1, rfl, flat_strs _, inV_strs _ _⟩
theorem c_in : CmpD X C .In oIn := ⟨_, op_in_seq, fun {H F x y dx dy k} Q l hs x1 x2 g q => by
  obtain ⟨p, xs, h1, h2, h3, h4, h5⟩ := in_seq hs x1 x2 g
  exact ⟨p, xs, h1, h2, h3, h4, by rw [h5]; exact q⟩⟩
theorem c_notin : CmpD X C .NotIn oNotIn := ⟨_, op_notIn_seq, fun {H F x y dx dy k} Q l hs x1 x2 g q => by
  unfold oNotIn at g
  cases h : oIn dx dy with
  | none => rw [h] at g; cases g
  | some j =>
    rw [h] at g
    cases g
    obtain ⟨p, xs, h1, h2, h3, h4, h5⟩ := in_seq hs x1 x2 h
    exact ⟨p, xs, h1, h2, h3, h4, by rw [h5]; exact q⟩⟩
theorem c_sign : CmpD X C .In oSign := ⟨_, op_in_sign, fun {H F x y dx dy k} Q l hs x1 x2 g q => by
  cases dx <;> cases dy <;> first | cases g | skip
  rename_i u z
  have g : (match u.cps.toList with | [c] => some (decide (c ∈ z.cps.toList)) | _ => none) = some k := g
  split at g
  · rename_i cc hc
    cases g
    have e : u = ⟨#[cc]⟩ := by
      obtain ⟨cps⟩ := u
      congr 1
      exact Array.toList_inj.mp hc
    subst e
    exact ⟨cc, z, x1.strI, x2.strI, q⟩
  · cases g⟩

/-! ### is None -/
theorem isN_dec {K : PySem.W.Frag} {F : Hp} {x : V} {dx : D} {k : Bool} (x1 : DP K C F x dx) (g : oIsN dx = some k) : decide (x = .non) = k := by
  cases x1 <;> cases g <;> first | rfl | exact decide_eq_false (fun z => nomatch z)
theorem pd_isN {j p2} (ha : PE X a (tD X.K C κ φa)) (hm : behindInMarks .Is (.Constant .none j p2) = false := by rfl) : PE X (.Compare a [.Is] [.Constant .none j p2] pos) (tD X.K C κ (xB (tUn oIsN φa))) := pd_mk (pe_cmpR op_isN ha pe_non hm) fun {H0 F0 σ H F s d s'} Q l T q k => by
  obtain ⟨w, q1, rfl⟩ := xB_some q
  obtain ⟨x, e1, e3⟩ := tUn_some q1
  exact ⟨H0, F0, F, s, T, x, s', e1, fun v1 H1 F1 l1 T1 p1 x1 => ⟨rfl, by rw [isN_dec x1 e3]; exact (k.pull p1).here T1 (.bl _)⟩⟩
theorem pt_isN {j p2} (ha : PE X a (tD X.K C κ φa)) (hm : behindInMarks .Is (.Constant .none j p2) = false := by rfl) : PT X (.Compare a [.Is] [.Constant .none j p2] pos) (tT X.K C κ (tUn oIsN φa)) := pt_mk (pt_cmpR op_isN ha pe_non hm) fun {H0 F0 σ H F s d s'} Q l T q k => by
  obtain ⟨x, e1, e3⟩ := tUn_some q
  exact ⟨H0, F0, F, s, T, x, s', e1, fun v1 H1 F1 l1 T1 p1 x1 => ⟨rfl, ⟨_, rfl, by rw [isN_dec x1 e3]; exact (k H1 F1 · T1 p1)⟩⟩⟩
theorem oNotN_some {dx : D} {k : Bool} (g : oNotN dx = some k) : ∃ j, oIsN dx = some j ∧ k = !j := by
  unfold oNotN at g
  cases h : oIsN dx with
  | none => rw [h] at g; cases g
  | some j => rw [h] at g; cases g; exact ⟨j, rfl, rfl⟩
theorem pd_notN {j p2} (ha : PE X a (tD X.K C κ φa)) (hm : behindInMarks .IsNot (.Constant .none j p2) = false := by rfl) : PE X (.Compare a [.IsNot] [.Constant .none j p2] pos) (tD X.K C κ (xB (tUn oNotN φa))) := pd_mk (pe_cmpR op_notN ha pe_non hm) fun {H0 F0 σ H F s d s'} Q l T q k => by
  obtain ⟨w, q1, rfl⟩ := xB_some q
  obtain ⟨x, e1, e3⟩ := tUn_some q1
  obtain ⟨i, h1, rfl⟩ := oNotN_some e3
  exact ⟨H0, F0, F, s, T, x, s', e1, fun v1 H1 F1 l1 T1 p1 x1 => ⟨rfl, by rw [isN_dec x1 h1]; exact (k.pull p1).here T1 (.bl _)⟩⟩
theorem pt_notN {j p2} (ha : PE X a (tD X.K C κ φa)) (hm : behindInMarks .IsNot (.Constant .none j p2) = false := by rfl) : PT X (.Compare a [.IsNot] [.Constant .none j p2] pos) (tT X.K C κ (tUn oNotN φa)) := pt_mk (pt_cmpR op_notN ha pe_non hm) fun {H0 F0 σ H F s d s'} Q l T q k => by
  obtain ⟨x, e1, e3⟩ := tUn_some q
  obtain ⟨i, h1, rfl⟩ := oNotN_some e3
  exact ⟨H0, F0, F, s, T, x, s', e1, fun v1 H1 F1 l1 T1 p1 x1 => ⟨rfl, ⟨_, rfl, by rw [isN_dec x1 h1]; exact (k H1 F1 · T1 p1)⟩⟩⟩

/-! ### tests -/
theorem tVal_some {m : M D} {s s' : S} {b : Bool} (h : tVal m s = some (b, s')) : m s = some (.bl b, s') := by
  obtain ⟨x, s1, h1, h2⟩ := mBind_some h
  cases x <;> first | (obtain ⟨rfl, rfl⟩ := mRet_some h2; exact h1) | cases h2
/-- a value True or False, as a test -/
theorem pt_valD (h : PE X e (tD X.K C κ φa)) (he : ∀ whole, isTrue e X.env whole = (do let v ← whole; standAt e.pos; holding [v] (truthy v)) := by intro _; rfl) : PT X e (tT X.K C κ (tVal φa)) := pt_mk (pt_val h he) fun {H0 F0 σ H F s d s'} Q l T q k =>
  ⟨H0, F0, F, s, T, _, s', tVal_some q, fun v1 H1 F1 l1 T1 p1 x1 => ⟨d, x1.blI, (k H1 F1 · T1 p1)⟩⟩
theorem tNot_some {m : M Bool} {s s' : S} {b : Bool} (h : tNot m s = some (b, s')) : ∃ c, m s = some (c, s') ∧ b = !c := by
  obtain ⟨x, s1, h1, h2⟩ := mBind_some h
  obtain ⟨h3, rfl⟩ := mRet_some h2
  exact ⟨x, h1, h3.symm⟩
theorem pt_notD (h : PT X a (tT X.K C κ τa)) : PT X (.UnaryOp .Not a pos) (tT X.K C κ (tNot τa)) := pt_mk (pt_not h) fun {H0 F0 σ H F s d s'} Q l T q k => by
  obtain ⟨c, h1, rfl⟩ := tNot_some q
  exact ⟨H0, F0, F, s, T, _, s', h1, fun H1 F1 l1 T1 p1 => (k H1 F1 · T1 p1)⟩
theorem tAnd_some {m n : M Bool} {s s' : S} {b : Bool} (h : tAnd m n s = some (b, s')) : ∃ c s1, m s = some (c, s1) ∧ ((c = true ∧ n s1 = some (b, s')) ∨ (c = false ∧ b = false ∧ s' = s1)) := by
  obtain ⟨x, s1, h1, h2⟩ := mBind_some h
  refine ⟨x, s1, h1, ?_⟩
  cases x with
  | true => exact .inl ⟨rfl, h2⟩
  | false =>
    obtain ⟨h3, rfl⟩ := mRet_some h2
    exact .inr ⟨rfl, h3.symm, rfl⟩
theorem tOr_some {m n : M Bool} {s s' : S} {b : Bool} (h : tOr m n s = some (b, s')) : ∃ c s1, m s = some (c, s1) ∧ ((c = false ∧ n s1 = some (b, s')) ∨ (c = true ∧ b = true ∧ s' = s1)) := by
  obtain ⟨x, s1, h1, h2⟩ := mBind_some h
  refine ⟨x, s1, h1, ?_⟩
  cases x with
  | false => exact .inl ⟨rfl, h2⟩
  | true =>
    obtain ⟨h3, rfl⟩ := mRet_some h2
    exact .inr ⟨rfl, h3.symm, rfl⟩
/-- a chain of and, or -/
def PWd (X : Cx) (C : Addr) (κ : Option Addr) (e : Expr) (τ : M Bool) : Prop := PW X e (tT X.K C κ τ)
theorem pw_mk {t : TT} {φ : M Bool} (h : PW X e t) (w : ∀ {H0 F0 : Hp} {σ : St} {H F : Hp} {s : S} {d : Bool} {s' : S} (Q : Bool → Hp → Prop), LenOk H → Stt X.K C κ H0 F0 σ H F s → φ s = some (d, s') → RetT X.K C κ H0 F0 σ H F s s' d Q → t σ H fun v H' => LenOk H' → Q v H') : PW X e (tT X.K C κ φ) :=
  ⟨fun wh pins s σ H Q I ⟨H0, F0, F, st, T, d, s', ed, k⟩ => thn (h.run wh pins s σ H _ I (w Q (lenOk_of I) T ed k)) fun _ _ ⟨H', I', q⟩ => ⟨H', I', q (lenOk_of I')⟩⟩
theorem pw_and1D (h : PT X a (tT X.K C κ τa)) : PWd X C κ (.BoolOp .And [a] pos) τa := pw_and1 h
theorem pw_or1D (h : PT X a (tT X.K C κ τa)) : PWd X C κ (.BoolOp .Or [a] pos) τa := pw_or1 h
theorem pw_andD {rest : List Expr} (h : PT X a (tT X.K C κ τa)) (h2 : PWd X C κ (.BoolOp .And (b :: rest) pos) τb) : PWd X C κ (.BoolOp .And (a :: b :: rest) pos) (tAnd τa τb) := pw_mk (pw_and h h2) fun {H0 F0 σ H F s d s'} Q l T q k => by
  obtain ⟨c, s1, h1, h3⟩ := tAnd_some q
  refine ⟨H0, F0, F, s, T, c, s1, h1, fun H1 F1 l1 T1 p1 => ?_⟩
  rcases h3 with ⟨rfl, h4⟩ | ⟨rfl, rfl, rfl⟩
  · exact iteT ⟨H0, F0, F1, s1, T1, d, s', h4, fun H2 F2 l2 T2 p2 => (k H2 F2 · T2 (p1.trans p2))⟩
  · exact iteF (k H1 F1 · T1 p1)
theorem pw_orD {rest : List Expr} (h : PT X a (tT X.K C κ τa)) (h2 : PWd X C κ (.BoolOp .Or (b :: rest) pos) τb) : PWd X C κ (.BoolOp .Or (a :: b :: rest) pos) (tOr τa τb) := pw_mk (pw_or h h2) fun {H0 F0 σ H F s d s'} Q l T q k => by
  obtain ⟨c, s1, h1, h3⟩ := tOr_some q
  refine ⟨H0, F0, F, s, T, c, s1, h1, fun H1 F1 l1 T1 p1 => ?_⟩
  rcases h3 with ⟨rfl, h4⟩ | ⟨rfl, rfl, rfl⟩
  · exact iteF ⟨H0, F0, F1, s1, T1, d, s', h4, fun H2 F2 l2 T2 p2 => (k H2 F2 · T2 (p1.trans p2))⟩
  · exact iteT (k H1 F1 · T1 p1)
theorem PWd.pt (h : PWd X C κ e τa) : PT X e (tT X.K C κ τa) := PW.pt h
/-- .. as values -/
theorem pd_oneD {op} (h : PE X a (tD X.K C κ (xB τa))) : PE X (.BoolOp op [a] pos) (tD X.K C κ (xB τa)) := pe_one h
theorem pd_andD {rest : List Expr} (h : PE X a (tD X.K C κ (xB τa))) (h2 : PE X (.BoolOp .And (b :: rest) pos) (tD X.K C κ (xB τb))) : PE X (.BoolOp .And (a :: b :: rest) pos) (tD X.K C κ (xB (tAnd τa τb))) := pd_mk (pe_and h h2) fun {H0 F0 σ H F s d s'} Q l T q k => by
  obtain ⟨w, q1, rfl⟩ := xB_some q
  obtain ⟨c, s1, h1, h3⟩ := tAnd_some q1
  refine ⟨H0, F0, F, s, T, .bl c, s1, (by unfold xB mBind; rw [h1]; rfl), fun v1 H1 F1 l1 T1 p1 x1 => ⟨c, x1.blI, ?_⟩⟩
  rcases h3 with ⟨rfl, h4⟩ | ⟨rfl, rfl, rfl⟩
  · exact iteT ⟨H0, F0, F1, s1, T1, .bl w, s', (by unfold xB mBind; rw [h4]; rfl), fun v2 H2 F2 l2 T2 p2 x2 l3 => k v2 H2 F2 l2 T2 (p1.trans p2) x2⟩
  · exact iteF ((k.pull p1).here T1 (.bl _))
theorem pd_orD {rest : List Expr} (h : PE X a (tD X.K C κ (xB τa))) (h2 : PE X (.BoolOp .Or (b :: rest) pos) (tD X.K C κ (xB τb))) : PE X (.BoolOp .Or (a :: b :: rest) pos) (tD X.K C κ (xB (tOr τa τb))) := pd_mk (pe_or h h2) fun {H0 F0 σ H F s d s'} Q l T q k => by
  obtain ⟨w, q1, rfl⟩ := xB_some q
  obtain ⟨c, s1, h1, h3⟩ := tOr_some q1
  refine ⟨H0, F0, F, s, T, .bl c, s1, (by unfold xB mBind; rw [h1]; rfl), fun v1 H1 F1 l1 T1 p1 x1 => ⟨c, x1.blI, ?_⟩⟩
  rcases h3 with ⟨rfl, h4⟩ | ⟨rfl, rfl, rfl⟩
  · exact iteF ⟨H0, F0, F1, s1, T1, .bl w, s', (by unfold xB mBind; rw [h4]; rfl), fun v2 H2 F2 l2 T2 p2 x2 l3 => k v2 H2 F2 l2 T2 (p1.trans p2) x2⟩
  · exact iteT ((k.pull p1).here T1 (.bl _))
/-- any value that is True or False, in such a chain -/
theorem pd_toB (h : PE X e (tD X.K C κ φa)) : PE X e (tD X.K C κ (xB (tVal φa))) := pd_mk h fun {H0 F0 σ H F s d s'} Q l T q k => by
  obtain ⟨w, q1, rfl⟩ := xB_some q
  exact ⟨H0, F0, F, s, T, _, s', tVal_some q1, fun v1 H1 F1 l1 T1 p1 x1 l2 => k v1 H1 F1 l1 T1 p1 x1⟩
theorem pd_notV (h : PE X a (tD X.K C κ (xB τa))) : PE X (.UnaryOp .Not a pos) (tD X.K C κ (xB (tNot τa))) := pd_mk (pe_not h) fun {H0 F0 σ H F s d s'} Q l T q k => by
  obtain ⟨w, q1, rfl⟩ := xB_some q
  obtain ⟨c, h1, rfl⟩ := tNot_some q1
  exact ⟨H0, F0, F, s, T, .bl c, s', (by unfold xB mBind; rw [h1]; rfl), fun v1 H1 F1 l1 T1 p1 x1 => ⟨c, x1.blI, (k.pull p1).here T1 (.bl _)⟩⟩
/-- a if t else b -/
theorem mIf_some {α : Type} {t : M Bool} {m n : M α} {s s' : S} {d : α} (h : mBind t (fun c => if c = true then m else n) s = some (d, s')) : ∃ c s1, t s = some (c, s1) ∧ ((c = true ∧ m s1 = some (d, s')) ∨ (c = false ∧ n s1 = some (d, s'))) := by
  obtain ⟨x, s1, h1, h2⟩ := mBind_some h
  refine ⟨x, s1, h1, ?_⟩
  cases x with
  | true => exact .inl ⟨rfl, h2⟩
  | false => exact .inr ⟨rfl, h2⟩
theorem pd_ifE (hc : PT X c (tT X.K C κ τa)) (ha : PE X a (tD X.K C κ φa)) (hb : PE X b (tD X.K C κ φb)) : PE X (.IfExp c a b pos) (tD X.K C κ (xIf τa φa φb)) := pd_mk (pe_ifExp hc ha hb) fun {H0 F0 σ H F s d s'} Q l T q k => by
  obtain ⟨c, s1, h1, h3⟩ := mIf_some q
  refine ⟨H0, F0, F, s, T, c, s1, h1, fun H1 F1 l1 T1 p1 => ?_⟩
  rcases h3 with ⟨rfl, h4⟩ | ⟨rfl, h4⟩
  · exact iteT ⟨H0, F0, F1, s1, T1, d, s', h4, fun v2 H2 F2 l2 T2 p2 x2 l3 => k v2 H2 F2 l2 T2 (p1.trans p2) x2⟩
  · exact iteF ⟨H0, F0, F1, s1, T1, d, s', h4, fun v2 H2 F2 l2 T2 p2 x2 l3 => k v2 H2 F2 l2 T2 (p1.trans p2) x2⟩
/-- a < b <= c -/
theorem tChain_some {f g : D → D → Option Bool} {m n o : M D} {s s' : S} {b : Bool} (h : tChain f g m n o s = some (b, s')) : ∃ x s1 y s2 k, m s = some (x, s1) ∧ n s1 = some (y, s2) ∧ f x y = some k ∧ ((k = true ∧ ∃ z, o s2 = some (z, s') ∧ g y z = some b) ∨ (k = false ∧ b = false ∧ s' = s2)) := by
  obtain ⟨x, s1, h1, h2⟩ := mBind_some h
  obtain ⟨y, s2, h3, h4⟩ := mBind_some h2
  obtain ⟨k, s3, h5, h6⟩ := mBind_some h4
  obtain ⟨h7, rfl⟩ := mLift_some h5
  refine ⟨x, s1, y, s3, k, h1, h3, h7, ?_⟩
  cases k with
  | true =>
    obtain ⟨z, s4, h8, h9⟩ := mBind_some h6
    obtain ⟨h10, rfl⟩ := mLift_some h9
    exact .inl ⟨rfl, z, h8, h10⟩
  | false =>
    obtain ⟨h8, rfl⟩ := mRet_some h6
    exact .inr ⟨rfl, h8.symm, rfl⟩
theorem pt_chainD {op op' : CmpOp} {f g : D → D → Option Bool} (o : CmpD X C op f) (o' : CmpD X C op' g) (ha : PE X a (tD X.K C κ φa)) (hb : PE X b (tD X.K C κ φb)) (hc : PE X c (tD X.K C κ φc)) (hm : lastMarks [op, op'] [b, c] = false := by with_unfolding_all rfl) :
    PT X (.Compare a [op, op'] [b, c] pos) (tT X.K C κ (Dl.tChain f g φa φb φc)) := by
  obtain ⟨r, ho, hr⟩ := o.ex
  obtain ⟨r', ho', hr'⟩ := o'.ex
  refine pt_mk (pt_chain ho ho' ha hb hc hm) fun {H0 F0 σ H F s d s'} Q l T q k => ?_
  obtain ⟨x, s1, y, s2, j, h1, h2, h3, h4⟩ := tChain_some q
  refine ⟨H0, F0, F, s, T, x, s1, h1, fun v1 H1 F1 l1 T1 p1 x1 => ⟨H0, F0, F1, s1, T1, y, s2, h2, fun v2 H2 F2 l2 T2 p2 x2 => hr _ l2 T2.sub (x1.mono p2.fz) x2 h3 ⟨j, rfl, ?_⟩⟩⟩
  rcases h4 with ⟨rfl, z, h5, h6⟩ | ⟨rfl, rfl, rfl⟩
  · exact iteT ⟨H0, F0, F2, s2, T2, z, s', h5, fun v3 H3 F3 l3 T3 p3 x3 => hr' _ l3 T3.sub (x2.mono p3.fz) x3 h6 ⟨_, rfl, (k H3 F3 · T3 ((p1.trans p2).trans p3))⟩⟩
  · exact iteF ⟨_, rfl, (k H2 F2 · T2 (p1.trans p2))⟩
theorem pd_chainD {op op' : CmpOp} {f g : D → D → Option Bool} (o : CmpD X C op f) (o' : CmpD X C op' g) (ha : PE X a (tD X.K C κ φa)) (hb : PE X b (tD X.K C κ φb)) (hc : PE X c (tD X.K C κ φc)) (hm : lastMarks [op, op'] [b, c] = false := by with_unfolding_all rfl) :
    PE X (.Compare a [op, op'] [b, c] pos) (tD X.K C κ (xB (Dl.tChain f g φa φb φc))) := by
  obtain ⟨r, ho, hr⟩ := o.ex
  obtain ⟨r', ho', hr'⟩ := o'.ex
  refine pd_mk (pe_chain ho ho' ha hb hc hm) fun {H0 F0 σ H F s d s'} Q l T q k => ?_
  obtain ⟨w, q1, rfl⟩ := xB_some q
  obtain ⟨x, s1, y, s2, j, h1, h2, h3, h4⟩ := tChain_some q1
  refine ⟨H0, F0, F, s, T, x, s1, h1, fun v1 H1 F1 l1 T1 p1 x1 => ⟨H0, F0, F1, s1, T1, y, s2, h2, fun v2 H2 F2 l2 T2 p2 x2 => hr _ l2 T2.sub (x1.mono p2.fz) x2 h3 ⟨j, rfl, ?_⟩⟩⟩
  rcases h4 with ⟨rfl, z, h5, h6⟩ | ⟨rfl, rfl, rfl⟩
  · exact iteT ⟨H0, F0, F2, s2, T2, z, s', h5, fun v3 H3 F3 l3 T3 p3 x3 => hr' _ l3 T3.sub (x2.mono p3.fz) x3 h6 ((k.pull ((p1.trans p2).trans p3)).here T3 (.bl _))⟩
  · exact iteF ((k.pull (p1.trans p2)).here T2 (.bl _))
end
end Dl
end

/-! ## DRule3 -/
section
set_option Elab.async false
set_option linter.all false
set_option maxRecDepth 100000
set_option maxHeartbeats 2000000
/-! The data layer: subscripts, built-ins, displays, slices. -/
namespace Dl
open PySem PySem.Spec PyProof.Rows L2
section
variable {X : Cx} {C : Addr} {κ : Option Addr} {e a b c : Expr} {pos : Pos} {φ φa φb φc : M D} {φs : List (M D)} {es : List Expr}

/-! ### lists of arguments -/
theorem pl_nil : PA X [] (tL X.K C κ (mAll [])) := pl_mk pa_nil fun {H0 F0 σ H F s d s'} Q l T q k => by
  obtain ⟨rfl, rfl⟩ := mRet_some q
  exact fun l => k [] H F l T Stp.refl .nil
theorem mAll_cons {m : M D} {r : List (M D)} {s s' : S} {ds : List D} (h : mAll (m :: r) s = some (ds, s')) : ∃ x s1 xs, m s = some (x, s1) ∧ mAll r s1 = some (xs, s') ∧ ds = x :: xs := by
  obtain ⟨x, s1, h1, h2⟩ := mBind_some h
  obtain ⟨xs, s2, h3, h4⟩ := mBind_some h2
  obtain ⟨h5, rfl⟩ := mRet_some h4
  exact ⟨x, s1, xs, h1, h3, h5.symm⟩
theorem pl_cons (ha : PE X e (tD X.K C κ φ)) (hr : PA X es (tL X.K C κ (mAll φs))) (hs : starEach (e :: es) X.env = (false, eval e X.env) :: starEach es X.env := by rfl) : PA X (e :: es) (tL X.K C κ (mAll (φ :: φs))) := pl_mk (pa_cons ha hr hs) fun {H0 F0 σ H F s d s'} Q l T q k => by
  obtain ⟨x, s1, xs, h1, h2, rfl⟩ := mAll_cons q
  exact ⟨H0, F0, F, s, T, x, s1, h1, fun v1 H1 F1 l1 T1 p1 x1 => ⟨H0, F0, F1, s1, T1, xs, s', h2, fun vs H2 F2 l2 T2 p2 x2 l3 => k _ H2 F2 l2 T2 (p1.trans p2) (.cons (x1.mono p2.fz) x2)⟩⟩
theorem pd_tup {x1} (h : PA X es (tL X.K C κ (mAll φs))) : PE X (.Tuple es x1 pos) (tD X.K C κ (xTup φs)) := pd_mk (pe_tup h) fun {H0 F0 σ H F s d s'} Q l T q k => by
  obtain ⟨xs, s1, h1, h2⟩ := mBind_some q
  refine ⟨H0, F0, F, s, T, xs, s1, h1, fun vs H1 F1 l1 T1 p1 x1 => ?_⟩
  by_cases hc : xs.length ≤ 1000
  · rw [if_pos hc] at h2
    obtain ⟨rfl, rfl⟩ := mRet_some h2
    exact ⟨by rw [x1.length]; exact line1000 hc, fun p hp => (k.pull p1).newF T1 hp (.tup upd_same (x1.mono (Same.updN (T1.f0 hp))))⟩
  · rw [if_neg hc] at h2
    cases h2
theorem pr_lst (h : PA X es (tL X.K C κ (mAll φs))) : PE X (.List es pos) (tR X.K C κ (rLst φs)) := pr_mk (pe_lst h) fun {H0 F0 σ H F s d s'} Q l T q k => by
  obtain ⟨xs, s1, h1, h2⟩ := mBind_some q
  refine ⟨H0, F0, F, s, T, xs, s1, h1, fun vs H1 F1 l1 T1 p1 x1 => ?_⟩
  by_cases hc : xs.length ≤ 1000
  · rw [if_pos hc] at h2
    obtain ⟨rfl, rfl⟩ := mRet_some h2
    exact ⟨by rw [x1.length]; exact line1000 hc, fun p hp => (k.pull p1).new T1 hp x1⟩
  · rw [if_neg hc] at h2
    cases h2

/-! ### places -/
theorem atI_DPs {K : PySem.W.Frag} {F : Hp} {vs : List V} {ds : List D} {i : Int} {d : D} (x : DPs K C F vs ds) (h : atI ds i = some d) : ∃ v, atI vs i = some v ∧ DP K C F v d := by
  unfold atI at h ⊢
  rw [x.length]
  cases q : ixN ds.length i with
  | none => rw [q] at h; cases h
  | some j =>
    rw [q] at h
    exact x.get h
theorem cut_DPs {K : PySem.W.Frag} {F : Hp} {vs : List V} {ds : List D} (x : DPs K C F vs ds) (lo hi : Option Int) : DPs K C F (cutV vs lo hi) (cutD ds lo hi) := by
  unfold cutV cutD
  rw [x.length]
  exact (x.drop _).take _
theorem atI_map {α β : Type} (f : α → β) (xs : List α) (i : Int) : atI (xs.map f) i = (atI xs i).map f := by
  unfold atI
  rw [List.length_map]
  cases ixN xs.length i with
  | none => rfl
  | some j => exact List.getElem?_map
theorem cutD_map {α β : Type} (f : α → β) (xs : List α) (lo hi : Option Int) : cutD (xs.map f) lo hi = (cutD xs lo hi).map f := by
  unfold cutD
  rw [List.length_map, List.map_take, List.map_drop]
theorem cutV_D (xs : List V) (lo hi : Option Int) : cutV xs lo hi = cutD xs lo hi := rfl
/-- an item, by values -/
theorem ix_ok {K : PySem.W.Frag} {H F : Hp} {x y : V} {dx dy d : D} {Q : VK} (l : LenOk H) (hs : Sub F H) (x1 : DP K C F x dx) (x2 : DP K C F y dy) (g : oIx dx dy = some d) (q : ∀ v, DP K C F v d → Q v H) : rIx K x y H Q := by
  unfold oIx at g
  split at g
  · obtain ⟨a1, vs, rfl, h1, h2⟩ := x1.lstL hs
    obtain ⟨v, h3, h4⟩ := atI_DPs h2 g
    exact .inl ⟨_, _, _, v, rfl, x2.intI, .inl (.inl h1), h3, q v h4⟩
  · obtain ⟨a1, vs, rfl, h1, h2⟩ := x1.tupT hs
    obtain ⟨v, h3, h4⟩ := atI_DPs h2 g
    exact .inr (.inl ⟨_, _, _, v, rfl, x2.intI, h1, h3, q v h4⟩)
  · rename_i ns i
    obtain ⟨a1, rfl, h1⟩ := x1.scrL hs
    cases h : atI ns i with
    | none => rw [h] at g; cases g
    | some n =>
      rw [h] at g
      cases g
      exact .inl ⟨_, _, _, .int n, rfl, x2.intI, h1, by rw [atI_map, h]; rfl, q _ (.int n)⟩
  · rename_i z i
    by_cases hz : z.length ≤ 1000
    · rw [if_pos hz] at g
      cases h : atI z.cps.toList i with
      | none => rw [h] at g; cases g
      | some n =>
        rw [h] at g
        cases g
        exact .inr (.inr ⟨_, _, n, x1.strI, x2.intI, line1000 hz, h, q _ (.str _)⟩)
    · rw [if_neg hz] at g
      cases g
  · cases g
theorem oIx_sub {xs : List D} {k d : D} (g : oIx (.lst xs) k = some d) : ∃ i, k = .int i ∧ atI xs i = some d := by
  cases k <;> first | (exact ⟨_, rfl, g⟩) | cases g
theorem pd_ix (ha : PE X a (tD X.K C κ φa)) (hb : PE X b (tD X.K C κ φb)) (hs : PlainIx b := by exact fun _ _ => rfl) : PE X (.Subscript a b pos) (tD X.K C κ (xBin oIx φa φb)) := pd_bin (pe_ix ix_seq ha hb hs) fun {H0 F0 σ H F s x y dx dy d} Q l T x1 x2 g k =>
  ix_ok l T.sub x1 x2 g fun v hv => k.here T hv
theorem mIf_ok {α : Type} {cc : S → Bool} {m : M α} {s s' : S} {d : α} (h : mIf cc m s = some (d, s')) : cc s = true ∧ m s = some (d, s') := by
  unfold mIf at h
  by_cases hc : cc s = true
  · rw [if_pos hc] at h
    exact ⟨hc, h⟩
  · rw [if_neg hc] at h
    cases h
theorem hasA_ok {i : Nat} {s : S} (h : hasA i s = true) : ∃ A1, getA s i = some A1 := by
  unfold hasA at h
  cases q : getA s i with
  | none => rw [q] at h; cases h
  | some A1 => exact ⟨A1, rfl⟩
theorem hasL_ok {i : Nat} {s : S} (h : hasL i s = true) : (∃ xs, getA s i = some (.own xs)) ∨ ∃ xs, getA s i = some (.d (.lst xs)) := by
  unfold hasL at h
  split at h
  · rename_i xs q; exact .inl ⟨xs, q⟩
  · rename_i xs q; exact .inr ⟨xs, q⟩
  · cases h
theorem vIx_some {i : Nat} {b : M D} {s s' : S} {d : D} (h : vIx i b s = some (d, s')) : (∃ A1, getA s i = some A1) ∧ ∃ k, b s = some (k, s') ∧ ((∃ x, getA s' i = some (.d x) ∧ oIx x k = some d) ∨ ∃ xs, getA s' i = some (.own xs) ∧ oIx (.lst xs) k = some d) := by
  obtain ⟨h1, h2⟩ := mIf_ok h
  obtain ⟨k, s1, h3, h4⟩ := mBind_some h2
  refine ⟨hasA_ok h1, k, ?_⟩
  split at h4
  · rename_i x q
    cases g : oIx x k with
    | none => rw [g] at h4; cases h4
    | some e => rw [g] at h4; cases h4; exact ⟨h3, .inl ⟨x, q, g⟩⟩
  · rename_i x q
    cases g : oIx (.lst x) k with
    | none => rw [g] at h4; cases h4
    | some e => rw [g] at h4; cases h4; exact ⟨h3, .inr ⟨x, q, g⟩⟩
  · cases h4
/-- x[i] of a name -/
theorem pd_ixv (i : Nat) {x : Str} {p : Pos} (hv : PE X (.Name x p) (tVar i)) (hb : PE X b (tD X.K C κ φb)) (hs : PlainIx b := by exact fun _ _ => rfl) : PE X (.Subscript (.Name x p) b pos) (tD X.K C κ (vIx i φb)) := pd_mk (pe_ix ix_seq hv hb hs) fun {H0 F0 σ H F s d s'} Q l T q k => by
  obtain ⟨⟨A1, e0⟩, kk, h1, h2⟩ := vIx_some q
  obtain ⟨v0, hv0, _⟩ := T.slot i _ e0
  refine ⟨v0, hv0, H0, F0, F, s, T, kk, s', h1, fun v1 H1 F1 l1 T1 p1 x1 => ?_⟩
  rcases h2 with ⟨z, e1, g⟩ | ⟨xs, e1, g⟩
  · obtain ⟨v2, hv2, q2⟩ := T1.slot i _ e1
    rw [hv0] at hv2
    cases hv2
    exact ix_ok l1 T1.sub q2 x1 g fun v hv => (k.pull p1).here T1 hv
  · obtain ⟨v2, hv2, pp, vs, rfl, f, hp, xx⟩ := T1.slot i _ e1
    rw [hv0] at hv2
    cases hv2
    obtain ⟨j, rfl, g2⟩ := oIx_sub g
    obtain ⟨v, h3, h4⟩ := atI_DPs xx g2
    exact .inl ⟨_, _, _, v, rfl, x1.intI, .inl (.inl hp), h3, (k.pull p1).here T1 h4⟩
/-! ### dicts -/
theorem dget_ok {K : PySem.W.Frag} {H F : Hp} {x y : V} {dx dy d : D} (hs : Sub F H) (x1 : DP K C F x dx) (x2 : DP K C F y dy) (g : oDix dx dy = some d) : ∃ a v, x = .ref a ∧ DGet H a y (some v) ∧ DP K C F v d := by
  cases dx <;> cases dy <;> first | cases g | skip
  rename_i kvs kk
  have g : dGet kvs kk = some d := g
  obtain ⟨a, vs, rfl, hF, rd, n, xx⟩ := x1.dicD hs
  obtain ⟨v, h1, h2⟩ := (xx.get kk).1 d g
  obtain rfl := x2.strI
  exact ⟨a, v, rfl, .inl ⟨vs, Sum.inr kk, rd, rfl, h1.symm⟩, h2⟩
theorem pd_dix (hu : X.A.units + 1 < cLine) (ha : PE X a (tD X.K C κ φa)) (hb : PE X b (tD X.K C κ φb)) (hs : NoSl b := by exact fun _ _ => rfl) : PE X (.Subscript a b pos) (tD X.K C κ (xBin oDix φa φb)) := pd_mk (pe_dget hu ha hb hs) fun {H0 F0 σ H F s d s'} Q l T q k => by
  obtain ⟨x, s1, y, e1, e2, e3⟩ := xBin_some q
  exact ⟨H0, F0, F, s, T, x, s1, e1, fun v1 H1 F1 l1 T1 p1 x1 => ⟨H0, F0, F1, s1, T1, y, s', e2, fun v2 H2 F2 l2 T2 p2 x2 => by
    obtain ⟨aa, v, h1, h2, h3⟩ := dget_ok T2.sub (x1.mono p2.fz) x2 e3
    exact ⟨aa, v, h1, h2, (k.pull (p1.trans p2)).here T2 h3⟩⟩⟩
theorem vDix_some {i : Nat} {b : M D} {s s' : S} {d : D} (h : vDix i b s = some (d, s')) : (∃ A1, getA s i = some A1) ∧ ∃ k, b s = some (k, s') ∧ ((∃ x, getA s' i = some (.d x) ∧ oDix x k = some d) ∨ ∃ xs, getA s' i = some (.dct xs) ∧ oDix (.dic xs) k = some d) := by
  obtain ⟨h1, h2⟩ := mIf_ok h
  obtain ⟨k, s1, h3, h4⟩ := mBind_some h2
  refine ⟨hasA_ok h1, k, ?_⟩
  split at h4
  · rename_i x q
    cases g : oDix x k with
    | none => rw [g] at h4; cases h4
    | some e => rw [g] at h4; cases h4; exact ⟨h3, .inl ⟨x, q, g⟩⟩
  · rename_i x q
    cases g : oDix (.dic x) k with
    | none => rw [g] at h4; cases h4
    | some e => rw [g] at h4; cases h4; exact ⟨h3, .inr ⟨x, q, g⟩⟩
  · cases h4
theorem pd_dixv (hu : X.A.units + 1 < cLine) (i : Nat) {x : Str} {p : Pos} (hv : PE X (.Name x p) (tVar i)) (hb : PE X b (tD X.K C κ φb)) (hs : NoSl b := by exact fun _ _ => rfl) : PE X (.Subscript (.Name x p) b pos) (tD X.K C κ (vDix i φb)) := pd_mk (pe_dget hu hv hb hs) fun {H0 F0 σ H F s d s'} Q l T q k => by
  obtain ⟨⟨A1, e0⟩, kk, h1, h2⟩ := vDix_some q
  obtain ⟨v0, hv0, _⟩ := T.slot i _ e0
  refine ⟨v0, hv0, H0, F0, F, s, T, kk, s', h1, fun v1 H1 F1 l1 T1 p1 x1 => ?_⟩
  rcases h2 with ⟨z, e1, g⟩ | ⟨xs, e1, g⟩
  · obtain ⟨v2, hv2, q2⟩ := T1.slot i _ e1
    rw [hv0] at hv2
    cases hv2
    obtain ⟨aa, v, h3, h4, h5⟩ := dget_ok T1.sub q2 x1 g
    exact ⟨aa, v, h3, h4, (k.pull p1).here T1 h5⟩
  · obtain ⟨v2, hv2, pp, vs, rfl, f, hp, n, xx⟩ := T1.slot i _ e1
    rw [hv0] at hv2
    cases hv2
    cases kk <;> first | cases g | skip
    rename_i kk
    obtain ⟨v, h3, h4⟩ := (xx.get kk).1 d g
    obtain rfl := x1.strI
    exact ⟨pp, v, rfl, .inl ⟨vs, Sum.inr kk, .inl hp, rfl, h3.symm⟩, (k.pull p1).here T1 h4⟩
/-- k in d -/
theorem din_ok {K : PySem.W.Frag} {H F : Hp} {x y : V} {dx dy : D} {w : Bool} (hs : Sub F H) (x1 : DP K C F x dx) (x2 : DP K C F y dy) (g : oInD dx dy = some w) : ∃ a o, y = .ref a ∧ DGet H a x o ∧ o.isSome = w := by
  cases dx <;> cases dy <;> try (cases g; done)
  rename_i kk kvs
  have g : some (dGet kvs kk).isSome = some w := g
  obtain ⟨a, vs, rfl, hF, rd, n, xx⟩ := x2.dicD hs
  obtain rfl := x1.strI
  exact ⟨a, _, rfl, .inl ⟨vs, Sum.inr kk, rd, rfl, rfl⟩, by rw [xx.some_eq]; exact Option.some.inj g⟩
theorem oNotInD_some {dx dy : D} {w : Bool} (g : oNotInD dx dy = some w) : ∃ j, oInD dx dy = some j ∧ w = !j := by
  unfold oNotInD at g
  cases h : oInD dx dy with
  | none => rw [h] at g; cases g
  | some j => rw [h] at g; cases g; exact ⟨j, rfl, rfl⟩
theorem pt_inD (hu : X.A.units + 1 < cLine) (ha : PE X a (tD X.K C κ φa)) (hb : PE X b (tD X.K C κ φb)) (hm : behindInMarks .In b = false := by rfl) : PT X (.Compare a [.In] [b] pos) (tT X.K C κ (tBin oInD φa φb)) := pt_mk (pt_cmp (pc_din hu ha hb) hm) fun {H0 F0 σ H F s d s'} Q l T q k => by
  obtain ⟨x, s1, y, e1, e2, e3⟩ := tBin_some q
  exact ⟨H0, F0, F, s, T, x, s1, e1, fun v1 H1 F1 l1 T1 p1 x1 => ⟨H0, F0, F1, s1, T1, y, s', e2, fun v2 H2 F2 l2 T2 p2 x2 => by
    obtain ⟨aa, o, h1, h2, h3⟩ := din_ok T2.sub (x1.mono p2.fz) x2 e3
    exact ⟨aa, o, h1, h2, o.isSome, rfl, by rw [h3]; exact fun l9 => k H2 F2 l9 T2 (p1.trans p2)⟩⟩⟩
theorem pt_notInD (hu : X.A.units + 1 < cLine) (ha : PE X a (tD X.K C κ φa)) (hb : PE X b (tD X.K C κ φb)) (hm : behindInMarks .NotIn b = false := by rfl) : PT X (.Compare a [.NotIn] [b] pos) (tT X.K C κ (tBin oNotInD φa φb)) := pt_mk (pt_cmp (pc_dnotin hu ha hb) hm) fun {H0 F0 σ H F s d s'} Q l T q k => by
  obtain ⟨x, s1, y, e1, e2, e3⟩ := tBin_some q
  obtain ⟨j, e4, rfl⟩ := oNotInD_some e3
  exact ⟨H0, F0, F, s, T, x, s1, e1, fun v1 H1 F1 l1 T1 p1 x1 => ⟨H0, F0, F1, s1, T1, y, s', e2, fun v2 H2 F2 l2 T2 p2 x2 => by
    obtain ⟨aa, o, h1, h2, h3⟩ := din_ok T2.sub (x1.mono p2.fz) x2 e4
    exact ⟨aa, o, h1, h2, !o.isSome, rfl, by rw [h3]; exact fun l9 => k H2 F2 l9 T2 (p1.trans p2)⟩⟩⟩
theorem vInD_some {i : Nat} {b : M D} {s s' : S} {w : Bool} (h : vInD b i s = some (w, s')) : ∃ k, b s = some (k, s') ∧ ((∃ x, getA s' i = some (.d x) ∧ oInD k x = some w) ∨ ∃ xs, getA s' i = some (.dct xs) ∧ oInD k (.dic xs) = some w) := by
  obtain ⟨k, s1, h3, h4⟩ := mBind_some h
  refine ⟨k, ?_⟩
  split at h4
  · rename_i x q
    cases g : oInD k x with
    | none => rw [g] at h4; cases h4
    | some e => rw [g] at h4; cases h4; exact ⟨h3, .inl ⟨x, q, g⟩⟩
  · rename_i x q
    cases g : oInD k (.dic x) with
    | none => rw [g] at h4; cases h4
    | some e => rw [g] at h4; cases h4; exact ⟨h3, .inr ⟨x, q, g⟩⟩
  · cases h4
theorem vInD_ok {K : PySem.W.Frag} {H0 F0 : Hp} {σ : St} {H F : Hp} {s : S} {i : Nat} {x : V} {kk : D} {w : Bool} (T : Stt K C κ H0 F0 σ H F s) (x1 : DP K C F x kk) (h : (∃ x, getA s i = some (.d x) ∧ oInD kk x = some w) ∨ ∃ xs, getA s i = some (.dct xs) ∧ oInD kk (.dic xs) = some w) :
    ∃ v, σ[i]? = some (some v) ∧ ∃ a o, v = .ref a ∧ DGet H a x o ∧ o.isSome = w := by
  rcases h with ⟨z, e1, g⟩ | ⟨xs, e1, g⟩
  · obtain ⟨v2, hv2, q2⟩ := T.slot i _ e1
    exact ⟨v2, hv2, din_ok T.sub x1 q2 g⟩
  · obtain ⟨v2, hv2, pp, vs, rfl, f, hp, n, xx⟩ := T.slot i _ e1
    cases kk <;> try (cases g; done)
    rename_i kk
    have g : some (dGet xs kk).isSome = some w := g
    obtain rfl := x1.strI
    exact ⟨_, hv2, pp, _, rfl, .inl ⟨vs, Sum.inr kk, .inl hp, rfl, rfl⟩, by rw [xx.some_eq]; exact Option.some.inj g⟩
theorem pt_inDv (hu : X.A.units + 1 < cLine) (ha : PE X a (tD X.K C κ φa)) (i : Nat) {x : Str} {p : Pos} (hv : PE X (.Name x p) (tVar i)) (hm : behindInMarks .In (.Name x p) = false := by rfl) : PT X (.Compare a [.In] [.Name x p] pos) (tT X.K C κ (vInD φa i)) := pt_mk (pt_cmp (pc_din hu ha hv) hm) fun {H0 F0 σ H F s d s'} Q l T q k => by
  obtain ⟨kk, e1, e2⟩ := vInD_some q
  refine ⟨H0, F0, F, s, T, kk, s', e1, fun v1 H1 F1 l1 T1 p1 x1 => ?_⟩
  obtain ⟨v, hv1, aa, o, h1, h2, h3⟩ := vInD_ok T1 x1 e2
  exact ⟨v, hv1, aa, o, h1, h2, o.isSome, rfl, by rw [h3]; exact fun l9 => k H1 F1 l9 T1 p1⟩
theorem pt_notInDv (hu : X.A.units + 1 < cLine) (ha : PE X a (tD X.K C κ φa)) (i : Nat) {x : Str} {p : Pos} (hv : PE X (.Name x p) (tVar i)) (hm : behindInMarks .NotIn (.Name x p) = false := by rfl) : PT X (.Compare a [.NotIn] [.Name x p] pos) (tT X.K C κ (tNot (vInD φa i))) := pt_mk (pt_cmp (pc_dnotin hu ha hv) hm) fun {H0 F0 σ H F s d s'} Q l T q k => by
  obtain ⟨cc, q1, rfl⟩ := tNot_some q
  obtain ⟨kk, e1, e2⟩ := vInD_some q1
  refine ⟨H0, F0, F, s, T, kk, s', e1, fun v1 H1 F1 l1 T1 p1 x1 => ?_⟩
  obtain ⟨v, hv1, aa, o, h1, h2, h3⟩ := vInD_ok T1 x1 e2
  exact ⟨v, hv1, aa, o, h1, h2, !o.isSome, rfl, by rw [h3]; exact fun l9 => k H1 F1 l9 T1 p1⟩
/-- x in xs of a name -/
theorem vIn_some {i : Nat} {b : M D} {s s' : S} {w : Bool} (h : vIn b i s = some (w, s')) : ∃ k, b s = some (k, s') ∧ ((∃ x, getA s' i = some (.d x) ∧ oIn k x = some w) ∨ ∃ xs, getA s' i = some (.own xs) ∧ oIn k (.lst xs) = some w) := by
  obtain ⟨k, s1, h3, h4⟩ := mBind_some h
  refine ⟨k, ?_⟩
  split at h4
  · rename_i x q
    cases g : oIn k x with
    | none => rw [g] at h4; cases h4
    | some e => rw [g] at h4; cases h4; exact ⟨h3, .inl ⟨x, q, g⟩⟩
  · rename_i x q
    cases g : oIn k (.lst x) with
    | none => rw [g] at h4; cases h4
    | some e => rw [g] at h4; cases h4; exact ⟨h3, .inr ⟨x, q, g⟩⟩
  · cases h4
theorem vIn_ok {K : PySem.W.Frag} {H0 F0 : Hp} {σ : St} {H F : Hp} {s : S} {i : Nat} {x : V} {kk : D} {w : Bool} (T : Stt K C κ H0 F0 σ H F s) (x1 : DP K C F x kk) (h : (∃ x, getA s i = some (.d x) ∧ oIn kk x = some w) ∨ ∃ xs, getA s i = some (.own xs) ∧ oIn kk (.lst xs) = some w) :
    ∃ v, σ[i]? = some (some v) ∧ ∃ p xs, v = .ref p ∧ (SqL K H p xs ∨ SqT K H p xs) ∧ flatV x = true ∧ xs.all flatV = true ∧ inV x xs = w := by
  rcases h with ⟨z, e1, g⟩ | ⟨xs, e1, g⟩
  · obtain ⟨v2, hv2, q2⟩ := T.slot i _ e1
    exact ⟨v2, hv2, in_seq T.sub x1 q2 g⟩
  · obtain ⟨v2, hv2, pp, vs, rfl, f, hp, xx⟩ := T.slot i _ e1
    obtain ⟨z, ys, zs, rfl, hy, hz, rfl⟩ := oIn_some g
    obtain rfl := x1.strI
    rcases hy with hy | hy
    · cases hy
      obtain ⟨h3, _⟩ := xx.strsV hz
      subst h3
      exact ⟨_, hv2, pp, _, rfl, .inl (.inl (.inl hp)), rfl, flat_strs _, inV_strs _ _⟩
    · cases hy
theorem pt_inv (ha : PE X a (tD X.K C κ φa)) (i : Nat) {x : Str} {p : Pos} (hv : PE X (.Name x p) (tVar i)) (hm : behindInMarks .In (.Name x p) = false := by rfl) : PT X (.Compare a [.In] [.Name x p] pos) (tT X.K C κ (vIn φa i)) := pt_mk (pt_cmpR op_in_seq ha hv hm) fun {H0 F0 σ H F s d s'} Q l T q k => by
  obtain ⟨kk, e1, e2⟩ := vIn_some q
  refine ⟨H0, F0, F, s, T, kk, s', e1, fun v1 H1 F1 l1 T1 p1 x1 => ?_⟩
  obtain ⟨v, hv1, pp, xs, h1, h2, h3, h4, h5⟩ := vIn_ok T1 x1 e2
  exact ⟨v, hv1, pp, xs, h1, h2, h3, h4, _, rfl, by rw [h5]; exact fun l9 => k H1 F1 l9 T1 p1⟩
theorem pd_inv (ha : PE X a (tD X.K C κ φa)) (i : Nat) {x : Str} {p : Pos} (hv : PE X (.Name x p) (tVar i)) (hm : behindInMarks .In (.Name x p) = false := by rfl) : PE X (.Compare a [.In] [.Name x p] pos) (tD X.K C κ (xB (vIn φa i))) := pd_mk (pe_cmpR op_in_seq ha hv hm) fun {H0 F0 σ H F s d s'} Q l T q k => by
  obtain ⟨w, q1, rfl⟩ := xB_some q
  obtain ⟨kk, e1, e2⟩ := vIn_some q1
  refine ⟨H0, F0, F, s, T, kk, s', e1, fun v1 H1 F1 l1 T1 p1 x1 => ?_⟩
  obtain ⟨v, hv1, pp, xs, h1, h2, h3, h4, h5⟩ := vIn_ok T1 x1 e2
  exact ⟨v, hv1, pp, xs, h1, h2, h3, h4, by simp only [Bool.false_eq_true, if_false]; rw [h5]; exact (k.pull p1).here T1 (.bl _)⟩
theorem pt_notinv (ha : PE X a (tD X.K C κ φa)) (i : Nat) {x : Str} {p : Pos} (hv : PE X (.Name x p) (tVar i)) (hm : behindInMarks .NotIn (.Name x p) = false := by rfl) : PT X (.Compare a [.NotIn] [.Name x p] pos) (tT X.K C κ (tNot (vIn φa i))) := pt_mk (pt_cmpR op_notIn_seq ha hv hm) fun {H0 F0 σ H F s d s'} Q l T q k => by
  obtain ⟨cc, q1, rfl⟩ := tNot_some q
  obtain ⟨kk, e1, e2⟩ := vIn_some q1
  refine ⟨H0, F0, F, s, T, kk, s', e1, fun v1 H1 F1 l1 T1 p1 x1 => ?_⟩
  obtain ⟨v, hv1, pp, xs, h1, h2, h3, h4, h5⟩ := vIn_ok T1 x1 e2
  exact ⟨v, hv1, pp, xs, h1, h2, h3, h4, _, rfl, by rw [h5]; exact fun l9 => k H1 F1 l9 T1 p1⟩

/-! ### fields -/
theorem pd_fld {f : Str} (cl : Cls X.K C) (n : NoAttr X.K C f) (he : PE X e (tD X.K C κ φ)) (hb : attributeBase e f X.env (eval e X.env) = eval e X.env := by rfl) : PE X (.Attribute e f pos) (tD X.K C κ (xUn (oFld f) φ)) := pd_mk (pe_fld he hb) fun {H0 F0 σ H F s d s'} Q l T q k => by
  obtain ⟨x, e1, e2⟩ := xUn_some q
  refine ⟨H0, F0, F, s, T, x, s', e1, fun v1 H1 F1 l1 T1 p1 x1 => ?_⟩
  cases x <;> first | cases e2 | skip
  rename_i fs
  have e2 : dGet fs f = some d := e2
  obtain ⟨aa, dx, vs, rfl, h1, h2⟩ := x1.webI T1.sub
  obtain ⟨v, h3, h4⟩ := h2.look e2
  exact ⟨aa, C, dx, vs, v, rfl, h1, cl, n, h3, (k.pull p1).here T1 h4⟩

/-! ### built-ins of one argument -/
structure CallD (X : Cx) (C : Addr) (κ : Option Addr) (f : Value) (g : D → Option D) : Prop where
  ex : ∃ r : List V → Hp → VK → Prop, CallR X f r ∧ ∀ {H0 F0 : Hp} {σ : St} {H F : Hp} {s : S} {x : V} {dx d : D} (Q : VK), LenOk H → Stt X.K C κ H0 F0 σ H F s → DP X.K C F x dx → g dx = some d → Ret X.K C κ H0 F0 σ H F s s d Q → r [x] H fun v H' => LenOk H' → Q v H'
theorem one_ok {r : List V → Hp → VK → Prop} {g : D → Option D} {t : TE} (h : PE X e (tCB r (tCons (tD X.K C κ φ) tNil)))
    (hr : ∀ {H0 F0 : Hp} {σ : St} {H F : Hp} {s : S} {x : V} {dx d : D} (Q : VK), LenOk H → Stt X.K C κ H0 F0 σ H F s → DP X.K C F x dx → g dx = some d → Ret X.K C κ H0 F0 σ H F s s d Q → r [x] H fun v H' => LenOk H' → Q v H') : PE X e (tD X.K C κ (xUn g φ)) := pd_mk h fun {H0 F0 σ H F s d s'} Q l T q k => by
  obtain ⟨x, e1, e2⟩ := xUn_some q
  exact ⟨H0, F0, F, s, T, x, s', e1, fun v1 H1 F1 l1 T1 p1 x1 => hr Q l1 T1 x1 e2 (k.pull p1)⟩
theorem pd_callB {id : String} {g : D → Option D} {x : Str} {p : Pos} (cd : CallD X C κ (.builtin id) g) (hg : Gl X x) (hm : X.mg x = none) (hv : bootBuiltins x = some (.builtin id)) (ha : PE X e (tD X.K C κ φ)) (hn : x ≠ "__name__" := by decide) (hdb : (x == ("__debug__" : Str)) = false := by decide)
    (he : starEach [e] X.env = (false, eval e X.env) :: starEach [] X.env := by rfl) (hpl : (backTo pos (starEach [] X.env)).any (·.1) = false := by rfl) : PE X (.Call (.Name x p) [e] [] pos) (tD X.K C κ (xUn g φ)) := by
  obtain ⟨r, hc, hr⟩ := cd.ex
  exact one_ok (t := tD X.K C κ φ) (pe_callB hc hg hm hv (pa_cons ha pa_nil he) hn hdb he hpl) hr
theorem pd_callTy {id : String} {g : D → Option D} {x : Str} {p : Pos} (cd : CallD X C κ (.type id) g) (hg : Gl X x) (hm : X.mg x = none) (hv : bootBuiltins x = some (.type id)) (ha : PE X e (tD X.K C κ φ)) (hn : x ≠ "__name__" := by decide) (hdb : (x == ("__debug__" : Str)) = false := by decide)
    (he : starEach [e] X.env = (false, eval e X.env) :: starEach [] X.env := by rfl) (hpl : (backTo pos (starEach [] X.env)).any (·.1) = false := by rfl) : PE X (.Call (.Name x p) [e] [] pos) (tD X.K C κ (xUn g φ)) := by
  obtain ⟨r, hc, hr⟩ := cd.ex
  exact one_ok (t := tD X.K C κ φ) (pe_callTy hc hg hm hv (pa_cons ha pa_nil he) hn hdb he hpl) hr
theorem k_len : CallD X C κ (.builtin "len") oLen := ⟨_, call_len, fun {H0 F0 σ H F s x dx d} Q l T x1 g k => by
  unfold oLen at g
  split at g
  · cases g
    obtain ⟨a1, vs, rfl, h1, h2⟩ := x1.lstL T.sub
    exact ⟨_, _, rfl, .inl ⟨vs, .inl (.inl h1), rfl⟩, k.here T (by rw [h2.length]; exact .int _)⟩
  · cases g
    obtain ⟨a1, vs, rfl, h1, h2⟩ := x1.tupT T.sub
    exact ⟨_, _, rfl, .inr ⟨vs, h1, rfl⟩, k.here T (by rw [h2.length]; exact .int _)⟩
  · cases g
    obtain ⟨a1, rfl, h1⟩ := x1.scrL T.sub
    exact ⟨_, _, rfl, .inl ⟨_, h1, rfl⟩, k.here T (by rw [List.length_map]; exact .int _)⟩
  · rename_i z
    by_cases hz : z.length ≤ 1000
    · rw [if_pos hz] at g
      cases g
      obtain rfl := x1.strI
      exact ⟨_, z.length, rfl, ⟨line1000 hz, rfl⟩, k.here T (.int _)⟩
    · rw [if_neg hz] at g
      cases g
  · cases g⟩
theorem k_abs : CallD X C κ (.builtin "abs") oAbs := ⟨_, call_abs, fun {H0 F0 σ H F s x dx d} Q l T x1 g k => by
  cases dx <;> first | cases g | skip
  exact ⟨_, by rw [x1.intI], k.here T (.int _)⟩⟩
theorem k_int : CallD X C κ (.type "int") oInt := ⟨_, call_int1, fun {H0 F0 σ H F s x dx d} Q l T x1 g k => by
  cases dx <;> first | cases g | skip
  exact .inl ⟨_, by rw [x1.intI], k.here T (.int _)⟩⟩
theorem k_all (hc : X.calm = true) : CallD X C κ (.builtin "all") oAll := ⟨_, cr_all hc, fun {H0 F0 σ H F s x dx d} Q l T x1 g k => by
  unfold oAll at g
  split at g
  · rename_i xs
    cases h : blsOf xs with
    | none => rw [h] at g; cases g
    | some bs =>
      rw [h] at g
      cases g
      obtain ⟨a1, vs, rfl, h1, h2⟩ := x1.lstL T.sub
      have h3 := h2.blsV h
      subst h3
      exact ⟨a1, bs, rfl, .inl (.inl h1), k.here T (.bl _)⟩
  · cases g⟩
theorem k_any (hc : X.calm = true) : CallD X C κ (.builtin "any") oAny := ⟨_, cr_any hc, fun {H0 F0 σ H F s x dx d} Q l T x1 g k => by
  unfold oAny at g
  split at g
  · rename_i xs
    cases h : blsOf xs with
    | none => rw [h] at g; cases g
    | some bs =>
      rw [h] at g
      cases g
      obtain ⟨a1, vs, rfl, h1, h2⟩ := x1.lstL T.sub
      have h3 := h2.blsV h
      subst h3
      exact ⟨a1, bs, rfl, .inl (.inl h1), k.here T (.bl _)⟩
  · cases g⟩
theorem k_tuple : CallD X C κ (.type "tuple") oTuple := ⟨_, call_tuple_of, fun {H0 F0 σ H F s x dx d} Q l T x1 g k => by
  cases dx <;> first | cases g | skip
  obtain ⟨a1, vs, rfl, h1, h2⟩ := x1.lstL T.sub
  exact ⟨a1, vs, rfl, .inl ⟨.inl (.inl h1), fun p hp => k.newF T hp (.tup upd_same (h2.mono (Same.updN (T.f0 hp))))⟩⟩⟩
/-- len of a name -/
theorem vLen_some {i : Nat} {s s' : S} {d : D} (h : vLen i s = some (d, s')) : s' = s ∧ ((∃ x, getA s i = some (.d x) ∧ oLen x = some d) ∨ ∃ xs, getA s i = some (.own xs) ∧ d = .int xs.length) := by
  unfold vLen at h
  split at h
  · rename_i x q
    cases g : oLen x with
    | none => rw [g] at h; cases h
    | some e => rw [g] at h; cases h; exact ⟨rfl, .inl ⟨x, q, g⟩⟩
  · rename_i xs q
    cases h
    exact ⟨rfl, .inr ⟨xs, q, rfl⟩⟩
  · cases h
theorem pd_lenv (i : Nat) {y : Str} {p p2 : Pos} (hv : PE X (.Name y p2) (tVar i)) (hg : Gl X "len") (hm : X.mg "len" = none)
    (he : starEach [.Name y p2] X.env = (false, eval (.Name y p2) X.env) :: starEach [] X.env := by rfl) (hpl : (backTo pos (starEach [] X.env)).any (·.1) = false := by rfl) : PE X (.Call (.Name "len" p) [.Name y p2] [] pos) (tD X.K C κ (vLen i)) :=
  pd_mk (pe_callB call_len hg hm PySem.boot_len (pa_cons hv pa_nil he) (by decide) (by decide) he hpl) fun {H0 F0 σ H F s d s'} Q l T q k => by
  obtain ⟨rfl, h⟩ := vLen_some q
  rcases h with ⟨z, e1, g⟩ | ⟨xs, e1, rfl⟩
  · obtain ⟨v2, hv2, q2⟩ := T.slot i _ e1
    refine ⟨v2, hv2, ?_⟩
    obtain ⟨r, hr1, hr2⟩ := (k_len (X := X) (C := C) (κ := κ)).ex
    unfold oLen at g
    split at g
    · cases g
      obtain ⟨a1, vs, rfl, h1, h2⟩ := q2.lstL T.sub
      exact ⟨_, _, rfl, .inl ⟨vs, .inl (.inl h1), rfl⟩, k.here T (by rw [h2.length]; exact .int _)⟩
    · cases g
      obtain ⟨a1, vs, rfl, h1, h2⟩ := q2.tupT T.sub
      exact ⟨_, _, rfl, .inr ⟨vs, h1, rfl⟩, k.here T (by rw [h2.length]; exact .int _)⟩
    · cases g
      obtain ⟨a1, rfl, h1⟩ := q2.scrL T.sub
      exact ⟨_, _, rfl, .inl ⟨_, h1, rfl⟩, k.here T (by rw [List.length_map]; exact .int _)⟩
    · rename_i z
      by_cases hz : z.length ≤ 1000
      · rw [if_pos hz] at g
        cases g
        obtain rfl := q2.strI
        exact ⟨_, z.length, rfl, ⟨line1000 hz, rfl⟩, k.here T (.int _)⟩
      · rw [if_neg hz] at g
        cases g
    · cases g
  · obtain ⟨v2, hv2, pp, vs, rfl, f, hp, xx⟩ := T.slot i _ e1
    exact ⟨_, hv2, _, _, rfl, .inl ⟨vs, .inl (.inl hp), rfl⟩, k.here T (by rw [xx.length]; exact .int _)⟩
end
end Dl
end

/-! ## DRule4 -/
section
set_option Elab.async false
set_option linter.all false
set_option maxRecDepth 100000
set_option maxHeartbeats 2000000
/-! The data layer: more built-ins, calls of defs, methods, new instances. -/
namespace Dl
open PySem PySem.Spec PyProof.Rows L2
section
variable {X : Cx} {C : Addr} {κ : Option Addr} {e a b c : Expr} {pos : Pos} {φ φa φb φc : M D} {φs : List (M D)} {es : List Expr}

/-! ### built-ins of two arguments -/
theorem two_ok {r : List V → Hp → VK → Prop} {g : D → D → Option D} (h : PE X e (tCB r (tCons (tD X.K C κ φa) (tCons (tD X.K C κ φb) tNil))))
    (hr : ∀ {H0 F0 : Hp} {σ : St} {H F : Hp} {s : S} {x y : V} {dx dy d : D} (Q : VK), LenOk H → Stt X.K C κ H0 F0 σ H F s → DP X.K C F x dx → DP X.K C F y dy → g dx dy = some d → Ret X.K C κ H0 F0 σ H F s s d Q → r [x, y] H fun v H' => LenOk H' → Q v H') : PE X e (tD X.K C κ (xBin g φa φb)) := pd_mk h fun {H0 F0 σ H F s d s'} Q l T q k => by
  obtain ⟨x, s1, y, e1, e2, e3⟩ := xBin_some q
  exact ⟨H0, F0, F, s, T, x, s1, e1, fun v1 H1 F1 l1 T1 p1 x1 => ⟨H0, F0, F1, s1, T1, y, s', e2, fun v2 H2 F2 l2 T2 p2 x2 => hr Q l2 T2 (x1.mono p2.fz) x2 e3 (k.pull (p1.trans p2))⟩⟩
theorem pd_min {p : Pos} (hc : X.calm = true) (hg : Gl X "min") (hm : X.mg "min" = none) (ha : PE X a (tD X.K C κ φa)) (hb : PE X b (tD X.K C κ φb))
    (h1 : starEach [a, b] X.env = (false, eval a X.env) :: starEach [b] X.env := by rfl) (h2 : starEach [b] X.env = (false, eval b X.env) :: starEach [] X.env := by rfl) (hpl : (backTo pos (starEach [b] X.env)).any (·.1) = false := by rfl) :
    PE X (.Call (.Name "min" p) [a, b] [] pos) (tD X.K C κ (xBin oMin φa φb)) := two_ok (pe_callB (call_min2 hc) hg hm (by decide +kernel) (pa_cons ha (pa_cons hb pa_nil h2) h1) (by decide) (by decide) h1 hpl) fun {H0 F0 σ H F s x y dx dy d} Q l T x1 x2 g k => by
  cases dx <;> cases dy <;> first | cases g | skip
  exact ⟨_, _, by rw [x1.intI, x2.intI], k.here T (.int _)⟩
theorem pd_max {p : Pos} (hc : X.calm = true) (hg : Gl X "max") (hm : X.mg "max" = none) (ha : PE X a (tD X.K C κ φa)) (hb : PE X b (tD X.K C κ φb))
    (h1 : starEach [a, b] X.env = (false, eval a X.env) :: starEach [b] X.env := by rfl) (h2 : starEach [b] X.env = (false, eval b X.env) :: starEach [] X.env := by rfl) (hpl : (backTo pos (starEach [b] X.env)).any (·.1) = false := by rfl) :
    PE X (.Call (.Name "max" p) [a, b] [] pos) (tD X.K C κ (xBin oMax φa φb)) := two_ok (pe_callB (call_max2 hc) hg hm (by decide +kernel) (pa_cons ha (pa_cons hb pa_nil h2) h1) (by decide) (by decide) h1 hpl) fun {H0 F0 σ H F s x y dx dy d} Q l T x1 x2 g k => by
  cases dx <;> cases dy <;> first | cases g | skip
  exact ⟨_, _, by rw [x1.intI, x2.intI], k.here T (.int _)⟩

/-! ### isinstance -/
/-- what isinstance against a class says of data -/
structure IsiD (X : Cx) (C : Addr) (g : D → Option Bool) (cv : V) (cu : Value) : Prop where
  cls : ClsV cv cu
  ok : ∀ {H F : Hp} {x : V} {dx : D} {w : Bool}, Sub F H → DP X.K C F x dx → g dx = some w → ∃ t, TyX X.K H x t ∧ PySem.W.kitOne X.K t cu = some w
theorem pd_isi {g : D → Option Bool} {cv : V} {cu : Value} {p : Pos} (o : IsiD X C g cv cu) (hg : Gl X "isinstance") (hm : X.mg "isinstance" = none) (ha : PE X a (tD X.K C κ φa)) (hb : PE X b (tC cv))
    (h1 : starEach [a, b] X.env = (false, eval a X.env) :: starEach [b] X.env := by rfl) (h2 : starEach [b] X.env = (false, eval b X.env) :: starEach [] X.env := by rfl) (hpl : (backTo pos (starEach [b] X.env)).any (·.1) = false := by rfl) :
    PE X (.Call (.Name "isinstance" p) [a, b] [] pos) (tD X.K C κ (xB (tUn g φa))) := pd_mk (pe_callB call_isi hg hm (by decide +kernel) (pa_cons ha (pa_cons hb pa_nil h2) h1) (by decide) (by decide) h1 hpl) fun {H0 F0 σ H F s d s'} Q l T q k => by
  obtain ⟨w, q1, rfl⟩ := xB_some q
  obtain ⟨x, e1, e2⟩ := tUn_some q1
  refine ⟨H0, F0, F, s, T, x, s', e1, fun v1 H1 F1 l1 T1 p1 x1 => ?_⟩
  obtain ⟨t, h3, h4⟩ := o.ok T1.sub x1 e2
  exact ⟨v1, cv, t, cu, w, rfl, o.cls, h3, h4, (k.pull p1).here T1 (.bl _)⟩
/-- the type of plain data -/
theorem tyx {K : PySem.W.Frag} {H F : Hp} {x : V} {dx : D} (hs : Sub F H) (x1 : DP K C F x dx) (n : String) (h : match dx with | .non => n = "NoneType" | .bl _ => n = "bool" | .int _ => n = "int" | .str _ => n = "str" | .tup _ => n = "tuple" | .lst _ => n = "list" | _ => False) : TyX K H x (.type n) := by
  cases x1 with
  | non => cases h; exact .base .non
  | bl b => cases h; exact .base (.bl b)
  | int i => cases h; exact .base (.int i)
  | str i => cases h; exact .base (.str i)
  | @tup a vs _ e q =>
    cases h
    rcases hs a _ e with z | ⟨_, _, z, _⟩
    · exact .base (.tup z)
    · cases z
  | @tupK a vs _ e q =>
    cases h
    obtain ⟨o, its, m, h1, h2, _⟩ := e
    exact .kTuple h1 h2
  | @lst a vs _ e q =>
    cases h
    rcases hs a _ e with z | ⟨_, _, z, _⟩
    · exact .base (.lst z)
    · cases z
  | dic _ _ _ => exact h.elim
  | web _ _ => exact h.elim
  | scr _ => exact h.elim
  | scrK _ => exact h.elim
theorem i_int : IsiD X C oIsInt (.ty "int") (.type "int") := ⟨.ty "int", fun {H F x dx w} hs x1 g => by
  cases dx <;> cases g
  · exact ⟨_, tyx hs x1 "NoneType" rfl, kit_ty (by decide +kernel)⟩
  · exact ⟨_, tyx hs x1 "bool" rfl, kit_ty (by decide +kernel)⟩
  · exact ⟨_, tyx hs x1 "int" rfl, kit_ty (by decide +kernel)⟩
  · exact ⟨_, tyx hs x1 "str" rfl, kit_ty (by decide +kernel)⟩
  · exact ⟨_, tyx hs x1 "tuple" rfl, kit_ty (by decide +kernel)⟩
  · exact ⟨_, tyx hs x1 "list" rfl, kit_ty (by decide +kernel)⟩⟩
theorem i_bool : IsiD X C oIsBool (.ty "bool") (.type "bool") := ⟨.ty "bool", fun {H F x dx w} hs x1 g => by
  cases dx <;> cases g
  · exact ⟨_, tyx hs x1 "NoneType" rfl, kit_ty (by decide +kernel)⟩
  · exact ⟨_, tyx hs x1 "bool" rfl, kit_ty (by decide +kernel)⟩
  · exact ⟨_, tyx hs x1 "int" rfl, kit_ty (by decide +kernel)⟩
  · exact ⟨_, tyx hs x1 "str" rfl, kit_ty (by decide +kernel)⟩
  · exact ⟨_, tyx hs x1 "tuple" rfl, kit_ty (by decide +kernel)⟩
  · exact ⟨_, tyx hs x1 "list" rfl, kit_ty (by decide +kernel)⟩⟩
theorem i_str : IsiD X C oIsStr (.ty "str") (.type "str") := ⟨.ty "str", fun {H F x dx w} hs x1 g => by
  cases dx <;> cases g
  · exact ⟨_, tyx hs x1 "NoneType" rfl, kit_ty (by decide +kernel)⟩
  · exact ⟨_, tyx hs x1 "bool" rfl, kit_ty (by decide +kernel)⟩
  · exact ⟨_, tyx hs x1 "int" rfl, kit_ty (by decide +kernel)⟩
  · exact ⟨_, tyx hs x1 "str" rfl, kit_ty (by decide +kernel)⟩
  · exact ⟨_, tyx hs x1 "tuple" rfl, kit_ty (by decide +kernel)⟩
  · exact ⟨_, tyx hs x1 "list" rfl, kit_ty (by decide +kernel)⟩⟩
theorem i_tuple : IsiD X C oIsTup (.ty "tuple") (.type "tuple") := ⟨.ty "tuple", fun {H F x dx w} hs x1 g => by
  cases dx <;> cases g
  · exact ⟨_, tyx hs x1 "NoneType" rfl, kit_ty (by decide +kernel)⟩
  · exact ⟨_, tyx hs x1 "bool" rfl, kit_ty (by decide +kernel)⟩
  · exact ⟨_, tyx hs x1 "int" rfl, kit_ty (by decide +kernel)⟩
  · exact ⟨_, tyx hs x1 "str" rfl, kit_ty (by decide +kernel)⟩
  · exact ⟨_, tyx hs x1 "tuple" rfl, kit_ty (by decide +kernel)⟩
  · exact ⟨_, tyx hs x1 "list" rfl, kit_ty (by decide +kernel)⟩⟩
/-- against the class of the instances -/
theorem i_web (cl : Cls X.K C) (ha : PySem.W.findIn X.K (.ref C) "__class__" = some (some (.builtin "object.__class__"))) (hn : PySem.W.specialIn X.K (.builtin "object.__class__") "__get__" = some (some (.builtin "getset_descriptor.__get__"))) (htk : PySem.W.takesIn X.K (.builtin "object.__class__") = some true)
    (hm : PySem.W.mroIn X.K C (.type "object") = some true) (hk : PySem.W.kitOne X.K (.ref C) (.ref C) = some true) : IsiD X C oIsWeb (.ref C) (.ref C) := ⟨.own C, fun {H F x dx w} hs x1 g => by
  cases dx <;> cases g
  obtain ⟨aa, dx, vs, rfl, h1, h2⟩ := x1.webI hs
  exact ⟨_, .base (.ins h1 cl ha hn htk hm), hk⟩⟩

/-! ### new lists, dicts -/
theorem rNew_ok {K : PySem.W.Frag} {H0 F0 H F : Hp} {σ : St} {s : S} {vs : List V} {ds : List D} {Q : VK} (k : RetR K C κ H0 F0 σ H F s s (.fr ds) Q) (T : Stt K C κ H0 F0 σ H F s) (x : DPs K C F vs ds) : ∀ p, H p = none → LenOk (upd H p (.lst vs)) → Q (.ref p) (upd H p (.lst vs)) := fun p hp => k.new T hp x
/-- list(x) of a name -/
theorem vList_some {i : Nat} {s s' : S} {d : R} (h : vList i s = some (d, s')) : s' = s ∧ ∃ A1, getA s i = some A1 ∧ ((∃ xs, (A1 = .d (.lst xs) ∨ A1 = .d (.tup xs) ∨ A1 = .own xs) ∧ d = .fr xs) ∨ ∃ kvs, A1 = .d (.dic kvs) ∧ d = .fr (kvs.map fun kv => .str kv.1)) := by
  unfold vList at h
  split at h
  · rename_i xs q; cases h; exact ⟨rfl, _, q, .inl ⟨xs, .inl rfl, rfl⟩⟩
  · rename_i xs q; cases h; exact ⟨rfl, _, q, .inl ⟨xs, .inr (.inl rfl), rfl⟩⟩
  · rename_i xs q; cases h; exact ⟨rfl, _, q, .inr ⟨xs, rfl, rfl⟩⟩
  · rename_i xs q; cases h; exact ⟨rfl, _, q, .inl ⟨xs, .inr (.inr rfl), rfl⟩⟩
  · cases h
theorem keys_DPs {K : PySem.W.Frag} {F : Hp} : ∀ {vs : List (Key × V)} {ds : List (Str × D)}, DPk K C F vs ds → DPs K C F (vs.map fun kv => kV kv.1) (ds.map fun kv => .str kv.1)
  | _, _, .nil => .nil
  | _, _, .cons a b => .cons (.str _) (keys_DPs b)
theorem pr_listv (hc : X.calm = true) (i : Nat) {y : Str} {p p2 : Pos} (hv : PE X (.Name y p2) (tVar i)) (hg : Gl X "list") (hm : X.mg "list" = none)
    (he : starEach [.Name y p2] X.env = (false, eval (.Name y p2) X.env) :: starEach [] X.env := by rfl) (hpl : (backTo pos (starEach [] X.env)).any (·.1) = false := by rfl) : PE X (.Call (.Name "list" p) [.Name y p2] [] pos) (tR X.K C κ (vList i)) :=
  pr_mk (pe_callTy (CallR.or call_list_of (call_listD hc)) hg hm (by decide +kernel) (pa_cons hv pa_nil he) (by decide) (by decide) he hpl) fun {H0 F0 σ H F s d s'} Q l T q k => by
  obtain ⟨rfl, A1, e1, h⟩ := vList_some q
  obtain ⟨v, hv1, hh⟩ := T.slot i _ e1
  refine ⟨v, hv1, ?_⟩
  rcases h with ⟨xs, h1 | h1 | h1, rfl⟩ | ⟨kvs, rfl, rfl⟩
  · subst h1
    obtain ⟨a1, vs, rfl, h2, h3⟩ := DP.lstL T.sub hh
    exact .inl ⟨a1, vs, rfl, .inl (.inl (.inl h2)), rNew_ok k T h3⟩
  · subst h1
    obtain ⟨a1, vs, rfl, h2, h3⟩ := DP.tupT T.sub hh
    exact .inl ⟨a1, vs, rfl, .inr h2, rNew_ok k T h3⟩
  · subst h1
    obtain ⟨pp, vs, rfl, f, hp, xx⟩ := hh
    exact .inl ⟨pp, vs, rfl, .inl (.inl (.inl hp)), rNew_ok k T xx⟩
  · obtain ⟨a1, vs, rfl, hF, rd, n, xx⟩ := DP.dicD T.sub hh
    exact .inr ⟨a1, vs, rfl, rd, rNew_ok k T (keys_DPs xx)⟩
theorem vDict_some {i : Nat} {s s' : S} {d : R} (h : vDict i s = some (d, s')) : s' = s ∧ ∃ kvs, (getA s i = some (.d (.dic kvs)) ∨ getA s i = some (.dct kvs)) ∧ d = .fd kvs := by
  unfold vDict at h
  split at h
  · rename_i xs q; cases h; exact ⟨rfl, xs, .inl q, rfl⟩
  · rename_i xs q; cases h; exact ⟨rfl, xs, .inr q, rfl⟩
  · cases h
theorem pr_dictv (i : Nat) {y : Str} {p p2 : Pos} (hv : PE X (.Name y p2) (tVar i)) (hg : Gl X "dict") (hm : X.mg "dict" = none)
    (he : starEach [.Name y p2] X.env = (false, eval (.Name y p2) X.env) :: starEach [] X.env := by rfl) (hpl : (backTo pos (starEach [] X.env)).any (·.1) = false := by rfl) : PE X (.Call (.Name "dict" p) [.Name y p2] [] pos) (tR X.K C κ (vDict i)) :=
  pr_mk (pe_callTy call_dictD hg hm (by decide +kernel) (pa_cons hv pa_nil he) (by decide) (by decide) he hpl) fun {H0 F0 σ H F s d s'} Q l T q k => by
  obtain ⟨rfl, kvs, h, rfl⟩ := vDict_some q
  rcases h with h | h
  · obtain ⟨v, hv1, hh⟩ := T.slot i _ h
    obtain ⟨a1, vs, rfl, hF, rd, n, xx⟩ := DP.dicD T.sub hh
    exact ⟨_, hv1, a1, vs, rfl, rd, fun p hp => k.newD T hp n xx⟩
  · obtain ⟨v, hv1, pp, vs, rfl, f, hp, n, xx⟩ := T.slot i _ h
    exact ⟨_, hv1, pp, vs, rfl, .inl hp, fun p hp => k.newD T hp n xx⟩
/-- {} -/
theorem pr_dnew : PE X (.Dict [] [] pos) (tR X.K C κ rDnew) := pr_mk pe_dnewK fun {H0 F0 σ H F s d s'} Q l T q k => by
  obtain ⟨rfl, rfl⟩ := mRet_some q
  exact fun p hp => k.newD T hp List.nodup_nil .nil
/-- data, as a value just made -/
theorem pr_d (h : PE X e (tD X.K C κ φ)) : PE X e (tR X.K C κ (rD φ)) := pr_mk h fun {H0 F0 σ H F s d s'} Q l T q k => by
  obtain ⟨x, s1, h1, h2⟩ := mBind_some q
  obtain ⟨rfl, rfl⟩ := mRet_some h2
  exact ⟨H0, F0, F, s, T, x, s', h1, fun v1 H1 F1 l1 T1 p1 x1 l2 => k v1 H1 F1 l1 T1 p1 x1⟩
theorem pr_cat (ha : PE X a (tD X.K C κ φa)) (hb : PE X b (tD X.K C κ φb)) : PE X (.BinOp a .Add b pos) (tR X.K C κ (rCat φa φb)) := pr_mk (pe_op op_cat ha hb) fun {H0 F0 σ H F s d s'} Q l T q k => by
  obtain ⟨x, s1, h1, h2⟩ := mBind_some q
  obtain ⟨y, s2, h3, h4⟩ := mBind_some h2
  refine ⟨H0, F0, F, s, T, x, s1, h1, fun v1 H1 F1 l1 T1 p1 x1 => ⟨H0, F0, F1, s1, T1, y, s2, h3, fun v2 H2 F2 l2 T2 p2 x2 => ?_⟩⟩
  cases x <;> cases y <;> first | cases h4 | skip
  rename_i xs ys
  have h4 : (if xs.length + ys.length ≤ 1000 then mRet (R.fr (xs ++ ys)) else mFail) s2 = some (d, s') := h4
  by_cases hl : xs.length + ys.length ≤ 1000
  · rw [if_pos hl] at h4
    obtain ⟨rfl, rfl⟩ := mRet_some h4
    obtain ⟨a1, vs, rfl, z1, z2⟩ := (x1.mono p2.fz).lstL T2.sub
    obtain ⟨a2, ws, rfl, z3, z4⟩ := x2.lstL T2.sub
    exact ⟨a1, a2, vs, ws, rfl, rfl, z1, z3, by rw [z2.length, z4.length]; exact line1000 hl, rNew_ok (k.pull (p1.trans p2)) T2 (z2.append z4)⟩
  · rw [if_neg hl] at h4
    cases h4
/-- slices -/
theorem mOpt_some {m : M D} {s s' : S} {o : Option Int} (h : mOpt (some m) s = some (o, s')) : ∃ i, m s = some (.int i, s') ∧ o = some i := by
  obtain ⟨x, s1, h1, h2⟩ := mBind_some h
  cases x <;> try (cases h2; done)
  obtain ⟨rfl, rfl⟩ := mRet_some h2
  exact ⟨_, h1, rfl⟩
structure PoD (X : Cx) (C : Addr) (κ : Option Addr) (e : Option Expr) (o : Option (M D)) : Prop where
  ex : ∃ t : TO, PO X e t ∧ ∀ {H0 F0 : Hp} {σ : St} {H F : Hp} {s : S} {l : Option Int} {s' : S} (Q : Option Int → Hp → Prop), LenOk H → Stt X.K C κ H0 F0 σ H F s → mOpt o s = some (l, s') →
    (∀ H' F', LenOk H' → Stt X.K C κ H0 F0 σ H' F' s' → Stp κ σ H F s H' F' s' → Q l H') → t σ H Q
theorem po_noneD : PoD X C κ none none := ⟨_, po_none, fun {H0 F0 σ H F s l s'} Q ll T q k => by
  obtain ⟨rfl, rfl⟩ := mRet_some q
  exact k H F ll T Stp.refl⟩
theorem po_someD (h : PE X e (tD X.K C κ φ)) : PoD X C κ (some e) (some φ) := ⟨_, po_some h, fun {H0 F0 σ H F s l s'} Q ll T q k => by
  obtain ⟨i, h1, rfl⟩ := mOpt_some q
  exact ⟨H0, F0, F, s, T, _, s', h1, fun v1 H1 F1 l1 T1 p1 x1 => ⟨i, x1.intI, k H1 F1 l1 T1 p1⟩⟩⟩
theorem pr_sl {lo hi : Option Expr} {ol oh : Option (M D)} {p2 : Pos} (ha : PE X a (tD X.K C κ φa)) (hl : PoD X C κ lo ol) (hh : PoD X C κ hi oh) : PE X (.Subscript a (.Slice lo hi none p2) pos) (tR X.K C κ (rSl φa ol oh)) := by
  obtain ⟨tl, pl, kl⟩ := hl.ex
  obtain ⟨th, ph, kh⟩ := hh.ex
  refine pr_mk (pe_slice sl_list ha pl ph) fun {H0 F0 σ H F s d s'} Q l T q k => ?_
  obtain ⟨x, s1, h1, h2⟩ := mBind_some q
  obtain ⟨y, s2, h3, h4⟩ := mBind_some h2
  obtain ⟨z, s3, h5, h6⟩ := mBind_some h4
  refine ⟨H0, F0, F, s, T, x, s1, h1, fun v1 H1 F1 l1 T1 p1 x1 => kl _ l1 T1 h3 fun H2 F2 l2 T2 p2 => kh _ l2 T2 h5 fun H3 F3 l3 T3 p3 => ?_⟩
  have x3 := (x1.mono p2.fz).mono p3.fz
  have k3 := k.pull ((p1.trans p2).trans p3)
  cases x <;> try (cases h6; done)
  · rename_i xs
    obtain ⟨rfl, rfl⟩ := mRet_some h6
    obtain ⟨a1, vs, rfl, z1, z2⟩ := x3.lstL T3.sub
    exact ⟨a1, vs, rfl, .inl (.inl z1), rNew_ok k3 T3 (cut_DPs z2 _ _)⟩
  · rename_i ns
    obtain ⟨rfl, rfl⟩ := mRet_some h6
    obtain ⟨a1, rfl, z1⟩ := x3.scrL T3.sub
    refine ⟨a1, _, rfl, z1, rNew_ok k3 T3 ?_⟩
    rw [cutV_D, cutD_map]
    exact DPs.ints _
theorem pd_slT {lo hi : Option Expr} {ol oh : Option (M D)} {p2 : Pos} (ha : PE X a (tD X.K C κ φa)) (hl : PoD X C κ lo ol) (hh : PoD X C κ hi oh) : PE X (.Subscript a (.Slice lo hi none p2) pos) (tD X.K C κ (xSlT φa ol oh)) := by
  obtain ⟨tl, pl, kl⟩ := hl.ex
  obtain ⟨th, ph, kh⟩ := hh.ex
  refine pd_mk (pe_slice sl_tup ha pl ph) fun {H0 F0 σ H F s d s'} Q l T q k => ?_
  obtain ⟨x, s1, h1, h2⟩ := mBind_some q
  obtain ⟨y, s2, h3, h4⟩ := mBind_some h2
  obtain ⟨z, s3, h5, h6⟩ := mBind_some h4
  refine ⟨H0, F0, F, s, T, x, s1, h1, fun v1 H1 F1 l1 T1 p1 x1 => kl _ l1 T1 h3 fun H2 F2 l2 T2 p2 => kh _ l2 T2 h5 fun H3 F3 l3 T3 p3 => ?_⟩
  have x3 := (x1.mono p2.fz).mono p3.fz
  have k3 := k.pull ((p1.trans p2).trans p3)
  cases x <;> first | cases h6 | skip
  rename_i xs
  have h6 : (if (cutD xs y z).length < xs.length then mRet (D.tup (cutD xs y z)) else mFail) s3 = some (d, s') := h6
  by_cases hc : (cutD xs y z).length < xs.length
  · rw [if_pos hc] at h6
    obtain ⟨rfl, rfl⟩ := mRet_some h6
    obtain ⟨a1, vs, rfl, z1, z2⟩ := x3.tupT T3.sub
    refine ⟨a1, vs, rfl, z1, fun hw => ?_, fun p hp => k3.newF T3 hp (.tup upd_same ((cut_DPs z2 _ _).mono (Same.updN (T3.f0 hp))))⟩
    rw [z2.length] at hw
    unfold cutD at hc
    rw [hw.1, hw.2, List.length_take, List.length_drop] at hc
    omega
  · rw [if_neg hc] at h6
    cases h6
/-- dict of a list of pairs -/
theorem pairsOf_cons {d : D} {ds : List D} {ps : List (Str × D)} (e : pairsOf (d :: ds) = some ps) : ∃ kk dv ys, d = .tup [.str kk, dv] ∧ pairsOf ds = some ys ∧ ps = (kk, dv) :: ys := by
  unfold pairsOf at e
  split at e
  · rename_i q
    cases q
  · rename_i kk dv r q
    cases q
    cases h : pairsOf ds with
    | none => rw [h] at e; cases e
    | some ys => rw [h] at e; cases e; exact ⟨kk, dv, ys, rfl, rfl, rfl⟩
  · cases e
theorem pairs_ok {K : PySem.W.Frag} {H F : Hp} (hs : Sub F H) : ∀ {ds : List D} {vs : List V} {ps : List (Str × D)}, DPs K C F vs ds → pairsOf ds = some ps → ∃ (as : List Addr) (kvs : List (Key × V)), vs = as.map V.ref ∧ Paired (fun p kv => SqT K H p [kV kv.1, kv.2]) as kvs ∧ DPk K C F kvs ps
  | [], _, ps, .nil, e => by
    cases (show some ([] : List (Str × D)) = some ps from e)
    exact ⟨[], [], rfl, .nil, .nil⟩
  | d :: ds, _, ps, .cons x y, e => by
    obtain ⟨kk, dv, ys, rfl, h, rfl⟩ := pairsOf_cons e
    obtain ⟨as, kvs, rfl, h1, h2⟩ := pairs_ok hs y h
    obtain ⟨a1, vs, rfl, z1, z2⟩ := x.tupT hs
    cases z2 with
    | cons u1 u2 =>
      cases u2 with
      | cons u3 u4 =>
        cases u4
        obtain rfl := u1.strI
        exact ⟨a1 :: as, (Sum.inr kk, _) :: kvs, rfl, .cons z1 h1, .cons u3 h2⟩
theorem KN.put {vs : List (Key × V)} {k : Key} {v : V} (n : KN vs) : KN (putK vs k v) := by
  unfold KN at n ⊢
  unfold putK
  by_cases hc : (vs.any fun kv => decide (kv.1 = k)) = true
  · rw [if_pos hc]
    have : (vs.map fun kv => if kv.1 = k then (kv.1, v) else kv).map (·.1) = vs.map (·.1) := by
      rw [List.map_map]
      refine List.map_congr_left fun p _ => ?_
      show (if p.1 = k then (p.1, v) else p).1 = p.1
      split <;> rfl
    rw [this]
    exact n
  · rw [if_neg hc, List.map_append]
    refine nd_snoc n fun m => hc ?_
    obtain ⟨p, hp, e⟩ := List.mem_map.mp m
    exact List.any_eq_true.mpr ⟨p, hp, decide_eq_true e⟩
theorem merge_DPk {K : PySem.W.Frag} {F : Hp} : ∀ {vs : List (Key × V)} {ds : List (Str × D)} {ws : List (Key × V)} {es : List (Str × D)}, DPk K C F vs ds → DPk K C F ws es → KN ws → KN (mergeK ws vs) ∧ DPk K C F (mergeK ws vs) (dAll es ds)
  | _, _, _, _, .nil, y, n => ⟨n, y⟩
  | _, _, ws, es, .cons (k := kk) (v := v) (vs := vs) (d := d) (ds := ds) a b, y, n => merge_DPk (ws := putK ws (Sum.inr kk) v) (es := dPut es kk d) b (y.put n a) n.put
theorem pr_dict {p : Pos} (hc : X.calm = true) (hg : Gl X "dict") (hm : X.mg "dict" = none) (ha : PE X a (tD X.K C κ φa))
    (he : starEach [a] X.env = (false, eval a X.env) :: starEach [] X.env := by rfl) (hpl : (backTo pos (starEach [] X.env)).any (·.1) = false := by rfl) : PE X (.Call (.Name "dict" p) [a] [] pos) (tR X.K C κ (rDict φa)) :=
  pr_mk (pe_callTy (call_dictP hc) hg hm (by decide +kernel) (pa_cons ha pa_nil he) (by decide) (by decide) he hpl) fun {H0 F0 σ H F s d s'} Q l T q k => by
  obtain ⟨x, s1, h1, h2⟩ := mBind_some q
  refine ⟨H0, F0, F, s, T, x, s1, h1, fun v1 H1 F1 l1 T1 p1 x1 => ?_⟩
  cases x <;> first | cases h2 | skip
  rename_i xs
  cases g : pairsOf xs with
  | none =>
    have h2 : (match pairsOf xs with | some ps => if ps.length ≤ 1000 then mRet (R.fd (dAll [] ps)) else mFail | none => mFail) s1 = some (d, s') := h2
    rw [g] at h2
    cases h2
  | some ps =>
    have h2 : (match pairsOf xs with | some ps => if ps.length ≤ 1000 then mRet (R.fd (dAll [] ps)) else mFail | none => mFail) s1 = some (d, s') := h2
    rw [g] at h2
    have h2 : (if ps.length ≤ 1000 then mRet (R.fd (dAll [] ps)) else mFail) s1 = some (d, s') := h2
    by_cases hl : ps.length ≤ 1000
    · rw [if_pos hl] at h2
      obtain ⟨rfl, rfl⟩ := mRet_some h2
      obtain ⟨a1, vs, rfl, z1, z2⟩ := x1.lstL T1.sub
      obtain ⟨as, kvs, rfl, z3, z4⟩ := pairs_ok T1.sub z2 g
      obtain ⟨n, z5⟩ := merge_DPk (ws := []) (es := []) z4 .nil List.nodup_nil
      exact ⟨a1, as, kvs, rfl, .inl (.inl z1), z3, fun p hp => (k.pull p1).newD T1 hp n z5⟩
    · rw [if_neg hl] at h2
      cases h2

/-! ### x.pop(k), x.index(y) -/
theorem own_tyV {K : PySem.W.Frag} {H0 F0 H F : Hp} {σ : St} {s : S} {i : Nat} (T : Stt K C κ H0 F0 σ H F s) (h : hasL i s = true) : ∃ v, σ[i]? = some (some v) ∧ tyV K "list" v H := by
  rcases hasL_ok h with ⟨xs, e⟩ | ⟨xs, e⟩
  · obtain ⟨v, hv, pp, vs, rfl, f, hp, xx⟩ := T.slot i _ e
    exact ⟨_, hv, .inl ⟨rfl, vs, .inl (.inl hp)⟩⟩
  · obtain ⟨v, hv, hh⟩ := T.slot i _ e
    obtain ⟨a1, vs, rfl, z1, z2⟩ := DP.lstL T.sub hh
    exact ⟨_, hv, .inl ⟨rfl, vs, .inl (.inl z1)⟩⟩
theorem vPop_some {i : Nat} {b : M D} {s s' : S} {d : D} (h : vPop i b s = some (d, s')) : hasL i s = true ∧ ∃ j s1 xs, b s = some (.int j, s1) ∧ getA s1 i = some (.own xs) ∧ 0 ≤ j ∧ j < 1000 ∧ xs[j.toNat]? = some d ∧ s' = setA s1 i (.own (xs.eraseIdx j.toNat)) := by
  obtain ⟨h1, h2⟩ := mIf_ok h
  obtain ⟨k, s1, h3, h4⟩ := mBind_some h2
  refine ⟨h1, ?_⟩
  split at h4
  · rename_i xs j q
    by_cases hc : 0 ≤ j ∧ j < 1000
    · rw [if_pos hc] at h4
      cases g : xs[j.toNat]? with
      | none => rw [g] at h4; cases h4
      | some e => rw [g] at h4; cases h4; exact ⟨j, s1, xs, h3, q, hc.1, hc.2, g, rfl⟩
    · rw [if_neg hc] at h4
      cases h4
  · cases h4
theorem seqIx {j : Int} {n : Nat} (h0 : 0 ≤ j) (h : j.toNat < n) : seqIndex? j n = some j.toNat := by
  have e : ixN n j = some j.toNat := by
    unfold ixN
    rw [if_pos h0, if_pos (by omega)]
  exact (ixN_seq e).1
theorem pd_pop (i : Nat) {y : Str} {p2 apos : Pos} (hv : PE X (.Name y p2) (tVar i)) (hb : PE X b (tD X.K C κ φb))
    (hbase : attributeBase (.Name y p2) "pop" X.env (eval (.Name y p2) X.env) = eval (.Name y p2) X.env := by rfl)
    (hfew : ((backTo pos (starEach (b :: []) X.env)).all (fun x => !x.1) && (backToKw pos (keywordEach [] X.env)).all (fun x => x.1.isSome)
      && decide ((b :: ([] : List Expr)).length + ([] : List Keyword).length + (if ([] : List Keyword).isEmpty then 0 else 1) < 30)) = true := by rfl)
    (hline : (apos.endLine == pos.line) = true := by rfl) (hs : starEach (b :: []) X.env = (false, eval b X.env) :: starEach [] X.env := by rfl) (hplain : (backTo pos (starEach [] X.env)).any (·.1) = false := by rfl) :
    PE X (.Call (.Attribute (.Name y p2) "pop" apos) [b] [] pos) (tD X.K C κ (vPop i φb)) :=
  pd_mk (pe_bm PySem.F.plainAttrs_list PySem.F.slot_list_pop PySem.F.type_list_pop mt_popAt hv (pa_cons hb pa_nil hs) hbase hfew hline hs hplain) fun {H0 F0 σ H F s d s'} Q l T q k => by
  obtain ⟨h1, j, s1, xs, h2, h3, h4, h5, h6, rfl⟩ := vPop_some q
  obtain ⟨v, hv1, ty⟩ := own_tyV T h1
  refine ⟨v, hv1, ty, H0, F0, F, s, T, _, s1, h2, fun v1 H1 F1 l1 T1 p1 x1 => ?_⟩
  obtain ⟨v2, hv2, pp, vs, rfl, f, hp, xx⟩ := T1.slot i _ h3
  rw [hv1] at hv2
  cases hv2
  obtain ⟨w, hw, hd⟩ := xx.get h6
  obtain rfl := x1.intI
  have hj : j.toNat < vs.length := (List.getElem?_eq_some_iff.mp hw).1
  refine ⟨pp, vs, j, j.toNat, w, rfl, rfl, hp, by omega, by omega, seqIx h4 hj, hw, fun l2 => ?_⟩
  have T2 := T1.own (o := .lst (vs.eraseIdx j.toNat)) (b := .own (xs.eraseIdx j.toNat)) h3 rfl hv1 f (fun _ _ z => by rw [hp] at z; cases z) rfl ⟨pp, _, rfl, f, upd_same, xx.erase _⟩
  refine k _ _ _ l2 T2 (p1.trans ⟨Same.refl _, fun bb o e1 e2 e3 e4 => ?_, fun bb u i2 a2 e1 o1 q1 => ?_, fun _ => upd_none, fun _ _ _ => upd_frz fun _ _ z => by rw [hp] at z; cases z⟩) hd
  · have nb : bb ≠ pp := fun z => e4 i _ h3 rfl (by rw [z]; exact hv1)
    rw [upd_ne nb]
    exact ⟨e1, e2⟩
  · rw [getA_set (getA_lt h3)] at e1
    by_cases hi : i2 = i
    · subst hi
      exact u i2 _ h3 rfl q1
    · rw [if_neg hi] at e1
      exact u i2 a2 e1 o1 q1
theorem ixOf_ok {x : Str} : ∀ {ys : List Str} {n : Nat}, ixOf x ys = some n → ys[n]? = some x ∧ ∀ m z, m < n → ys[m]? = some z → z ≠ x
  | [], _, h => by simp [ixOf] at h
  | y :: r, n, h => by
    unfold ixOf at h
    by_cases e : y = x
    · rw [if_pos e] at h
      cases h
      exact ⟨by simp [e], fun m z hm => by omega⟩
    · rw [if_neg e] at h
      cases g : ixOf x r with
      | none => rw [g] at h; cases h
      | some k =>
        rw [g] at h
        cases h
        obtain ⟨h1, h2⟩ := ixOf_ok g
        refine ⟨by simpa using h1, fun m z hm hz => ?_⟩
        cases m with
        | zero => simp at hz; subst hz; exact e
        | succ m => exact h2 m z (by omega) (by simpa using hz)
theorem vIndex_some {i : Nat} {b : M D} {s s' : S} {d : D} (h : vIndex i b s = some (d, s')) : hasL i s = true ∧ ∃ x xs ys n, b s = some (.str x, s') ∧ (getA s' i = some (.d (.lst xs)) ∨ getA s' i = some (.own xs)) ∧ strsOf xs = some ys ∧ ixOf x ys = some n ∧ d = .int n := by
  obtain ⟨h1, h2⟩ := mIf_ok h
  obtain ⟨k, s1, h3, h4⟩ := mBind_some h2
  refine ⟨h1, ?_⟩
  split at h4
  · rename_i xs x q
    cases g : strsOf xs with
    | none => rw [g] at h4; cases h4
    | some ys =>
      rw [g] at h4
      have h4 : (match ixOf x ys with | some n => some (D.int n, s1) | none => none) = some (d, s') := h4
      cases g2 : ixOf x ys with
      | none => rw [g2] at h4; cases h4
      | some n => rw [g2] at h4; cases h4; exact ⟨x, xs, ys, n, h3, .inl q, g, g2, rfl⟩
  · rename_i xs x q
    cases g : strsOf xs with
    | none => rw [g] at h4; cases h4
    | some ys =>
      rw [g] at h4
      have h4 : (match ixOf x ys with | some n => some (D.int n, s1) | none => none) = some (d, s') := h4
      cases g2 : ixOf x ys with
      | none => rw [g2] at h4; cases h4
      | some n => rw [g2] at h4; cases h4; exact ⟨x, xs, ys, n, h3, .inr q, g, g2, rfl⟩
  · cases h4
theorem pd_index (i : Nat) {y : Str} {p2 apos : Pos} (hv : PE X (.Name y p2) (tVar i)) (hb : PE X b (tD X.K C κ φb))
    (hbase : attributeBase (.Name y p2) "index" X.env (eval (.Name y p2) X.env) = eval (.Name y p2) X.env := by rfl)
    (hfew : ((backTo pos (starEach (b :: []) X.env)).all (fun x => !x.1) && (backToKw pos (keywordEach [] X.env)).all (fun x => x.1.isSome)
      && decide ((b :: ([] : List Expr)).length + ([] : List Keyword).length + (if ([] : List Keyword).isEmpty then 0 else 1) < 30)) = true := by rfl)
    (hline : (apos.endLine == pos.line) = true := by rfl) (hs : starEach (b :: []) X.env = (false, eval b X.env) :: starEach [] X.env := by rfl) (hplain : (backTo pos (starEach [] X.env)).any (·.1) = false := by rfl) :
    PE X (.Call (.Attribute (.Name y p2) "index" apos) [b] [] pos) (tD X.K C κ (vIndex i φb)) :=
  pd_mk (pe_bm PySem.F.plainAttrs_list PySem.F.slot_list_index PySem.F.type_list_index mt_index hv (pa_cons hb pa_nil hs) hbase hfew hline hs hplain) fun {H0 F0 σ H F s d s'} Q l T q k => by
  obtain ⟨h1, x, xs, ys, n, h2, h3, h4, h5, rfl⟩ := vIndex_some q
  obtain ⟨v, hv1, ty⟩ := own_tyV T h1
  refine ⟨v, hv1, ty, H0, F0, F, s, T, _, s', h2, fun v1 H1 F1 l1 T1 p1 x1 => ?_⟩
  obtain rfl := x1.strI
  obtain ⟨g1, g2⟩ := ixOf_ok h5
  have key : ∃ a1 vs, v = .ref a1 ∧ SqL X.K H1 a1 vs ∧ vs = ys.map V.str := by
    rcases h3 with e | e
    · obtain ⟨v2, hv2, hh⟩ := T1.slot i _ e
      rw [hv1] at hv2
      cases hv2
      obtain ⟨a1, vs, rfl, z1, z2⟩ := DP.lstL T1.sub hh
      exact ⟨a1, vs, rfl, .inl (.inl z1), (z2.strsV h4).1⟩
    · obtain ⟨v2, hv2, pp, vs, rfl, f, hp, xx⟩ := T1.slot i _ e
      rw [hv1] at hv2
      cases hv2
      exact ⟨pp, vs, rfl, .inl (.inl hp), (xx.strsV h4).1⟩
  obtain ⟨a1, vs, rfl, z1, rfl⟩ := key
  refine ⟨a1, _, .str x, n, .str x, rfl, rfl, z1, rfl, flat_strs _, by rw [List.getElem?_map, g1]; rfl, by show (x == x) = true; simp, fun m z' hm hz => ?_, (k.pull p1).here T1 (.int _)⟩
  rw [List.getElem?_map] at hz
  cases q2 : ys[m]? with
  | none => rw [q2] at hz; cases hz
  | some u =>
    rw [q2] at hz
    cases hz
    show (u == x) = false
    have := g2 m u hm q2
    simpa using this
end
end Dl
end

/-! ## DRule5 -/
section
set_option Elab.async false
set_option linter.all false
set_option maxRecDepth 100000
set_option maxHeartbeats 2000000
/-! The data layer: promises of defs, calls, methods, new instances. -/
namespace Dl
open PySem PySem.Spec PyProof.Rows L2
/-- what a call leaves of the heap: κ, what it was lent, aside -/
structure Frm (κ : Option Addr) (H F H' F' : Hp) : Prop where
  sub : Sub F' H'
  fz : Same F F'
  kp : ∀ b o, H b = some o → F b = none → some b ≠ κ → H' b = some o
  nw : ∀ b o, F' b = some o → F b = some o ∨ H b = none
  lk : ∀ b o u, H b = some (.frz o u) → H' b = some (.frz o u)
section
variable (K : PySem.W.Frag) (C : Addr)
/-- the promise of a def that only reads its arguments -/
def spP (G1 : List D → Option D) : Sp := fun vs H Q _ => ∃ F0 ds d, Sub F0 H ∧ DPs K C F0 vs ds ∧ G1 ds = some d ∧ ∀ v H' F', Frm none H F0 H' F' → DP K C F' v d → Q v H'
/-- .. of one that is lent an object and may change it -/
def spG (G1 : G → List D → Option (D × G)) : Sp := fun vs H Q _ => ∃ k F0 ws ds g d g', vs = .ref k :: ws ∧ Sub F0 H ∧ F0 k = none ∧ Brw K C F0 H k g ∧ DPs K C F0 ws ds ∧ G1 g ds = some (d, g') ∧
  ∀ v H' F', Frm (some k) H F0 H' F' → F' k = none → Brw K C F' H' k g' → DP K C F' v d → Q v H'
end
/-- a def of the module by its name -/
structure FnD (P : Program) (w : World) (K : PySem.W.Frag) (mg : Str → Option Value) (base : Heap) (x : Str) (k : Nat) (sp : Sp) : Prop where
  ex : ∃ f fd ps, FnOk P w K mg base CX0 k f fd ps sp ∧ mg x = some (.ref f) ∧ PySem.W.keepIn K (.ref f) = true ∧ Binds K fd ps []

section
variable {K : PySem.W.Frag} {C : Addr} {κ : Option Addr} {H0 F0 H F H' F' : Hp} {σ : St} {s : S}
theorem Frm.out (f : Frm κ H F H' F') {b : Addr} {o : HO} (h : H b = some o) (n : F b = none) : F' b = none := by
  cases q : F' b with
  | none => rfl
  | some u =>
    rcases f.nw b u q with z | z
    · rw [n] at z; cases z
    · rw [h] at z; cases z
theorem Frm.gr (f : Frm κ H F H' F') (hk : ∀ k, κ = some k → H' k ≠ none) (b : Addr) (h : H' b = none) : H b = none := by
  cases q : H b with
  | none => rfl
  | some o =>
    exfalso
    cases z : F b with
    | none =>
      by_cases e : some b = κ
      · exact hk b e.symm h
      · have := f.kp b o q z e
        rw [h] at this; cases this
    | some u =>
      have := f.sub.ne h
      rw [f.fz b u z] at this; cases this
theorem Stt.call (T : Stt K C κ H0 F0 σ H F s) (f : Frm none H F H' F') : Stt K C κ H0 F0 σ H' F' s :=
  T.move (fun _ => False) (fun _ z => z.elim) f.sub f.fz (fun b o _ e n => ⟨f.kp b o e n (fun z => nomatch z), f.out e n⟩) (fun b o e => (f.nw b o e).imp id T.h0) f.lk
theorem Stp.call (f : Frm none H F H' F') : Stp κ σ H F s H' F' s :=
  ⟨f.fz, fun b o e n _ _ => ⟨f.kp b o e n (fun z => nomatch z), f.out e n⟩, fun _ h => h, f.gr (fun _ z => nomatch z), f.lk⟩
theorem Brw.some {k : Addr} {g : G} (h : Brw K C F H k g) : H k ≠ none := by
  cases g with
  | no => exact h.elim
  | keg a b c => intro z; rw [show H k = _ from h] at z; cases z
  | obj fs => obtain ⟨dx, vs, e, _⟩ := h; intro z; rw [e] at z; cases z
theorem Stt.callG (T : Stt K C κ H0 F0 σ H F s) {k : Addr} {g : G} (e : κ = some k) (f : Frm (some k) H F H' F') (n : F' k = none) (b : Brw K C F' H' k g) : Stt K C κ H0 F0 σ H' F' { s with g := g } := by
  obtain ⟨h1, h2, h3⟩ := T.kg k e
  have nk : ∀ {p}, H0 p = none → some p ≠ some k := fun {p} h z => h2 (by cases z; exact h)
  refine ⟨f.sub, fun c u z n2 q => ?_, T.fz.trans f.fz, fun c u z => ?_, T.len, fun i a z => ?_, T.uq, T.og, fun k' z => ?_, fun c o u z => f.lk c o u (T.lk c o u z)⟩
  · have q1 := T.fr c u z n2 q
    cases y : F c with
    | none => exact f.kp c u q1 y (by rw [e] at q; exact q)
    | some u2 =>
      rcases T.nw c u2 y with w | w
      · rw [n2] at w; cases w
      · rw [z] at w; cases w
  · rcases f.nw c u z with y | y
    · exact T.nw c u y
    · exact .inr (T.h0 y)
  · obtain ⟨v, q1, q2⟩ := T.slot i a z
    refine ⟨v, q1, ?_⟩
    cases a with
    | d x => exact DP.mono f.fz q2
    | own ds =>
      obtain ⟨p, vs, rfl, f1, f2, f3⟩ := q2
      exact ⟨p, vs, rfl, f.out f2 f1, f.kp p _ f2 f1 (nk (T.og i _ p z rfl q1)), f3.mono f.fz⟩
    | dct ds =>
      obtain ⟨p, vs, rfl, f1, f2, m, f3⟩ := q2
      exact ⟨p, vs, rfl, f.out f2 f1, f.kp p _ f2 f1 (nk (T.og i _ p z rfl q1)), m, f3.mono f.fz⟩
    | brw => exact q2
  · rw [e] at z
    cases z
    exact ⟨n, h2, b⟩
theorem Stp.callG {k : Addr} {g : G} (f : Frm (some k) H F H' F') (e : κ = some k) (b : H' k ≠ none) : Stp κ σ H F s H' F' { s with g := g } :=
  ⟨f.fz, fun c o h n q _ => ⟨f.kp c o h n (by rw [e] at q; exact q), f.out h n⟩, fun _ h => h, f.gr (fun k' z => by cases z; exact b), f.lk⟩
/-- a call that is lent a thing of nobody's -/
theorem Stt.callN (T : Stt K C κ H0 F0 σ H F s) {k : Addr} (h0 : H0 k = none) (u : Unow σ s k) (f : Frm (some k) H F H' F') : Stt K C κ H0 F0 σ H' F' s :=
  T.move (fun b => b = k) (fun b e => by subst e; exact ⟨h0, u⟩) f.sub f.fz (fun b o nb e n => ⟨f.kp b o e n (fun z => nb (by cases z; rfl)), f.out e n⟩) (fun b o e => (f.nw b o e).imp id T.h0) f.lk
end

section
variable {X : Cx} {C : Addr} {κ : Option Addr} {e a b c : Expr} {pos : Pos} {φ φa φb φc : M D} {φs : List (M D)} {es : List Expr}
theorem xCall_some {G1 : List D → Option D} {s s' : S} {d : D} (h : xCall G1 φs s = some (d, s')) : ∃ xs, mAll φs s = some (xs, s') ∧ G1 xs = some d := by
  obtain ⟨x, s1, h1, h2⟩ := mBind_some h
  obtain ⟨h3, rfl⟩ := mLift_some h2
  exact ⟨x, h1, h3⟩
theorem pd_call {x : Str} {p : Pos} {k : Nat} {G1 : List D → Option D} (f : FnD X.prog X.w X.K X.mg X.base x k (spP X.K C G1)) (hr : Room k X.A) (hg : Gl X x) (ha : PA X (e :: es) (tL X.K C κ (mAll φs))) (hdb : (x == ("__debug__" : Str)) = false := by decide)
    (he : starEach (e :: es) X.env = (false, eval e X.env) :: starEach es X.env := by rfl) (hpl : (backTo pos (starEach es X.env)).any (·.1) = false := by rfl) : PE X (.Call (.Name x p) (e :: es) [] pos) (tD X.K C κ (xCall G1 φs)) := by
  obtain ⟨fa, fd, ps, F, hm, hk, hb⟩ := f.ex
  refine pd_mk (pe_call F hr hg hm hk hb .nil pass0 ha hdb he hpl) fun {H0 F0 σ H F s d s'} Q l T q k => ?_
  obtain ⟨xs, h1, h2⟩ := xCall_some q
  exact ⟨H0, F0, F, s, T, xs, s', h1, fun vs H1 F1 l1 T1 p1 x1 => ⟨F1, xs, d, T1.sub, by rw [List.append_nil]; exact x1, h2, fun v H' F' fr y l2 => k v H' F' l2 (T1.call fr) (p1.trans (Stp.call fr)) y⟩⟩
theorem hasB_ok {i : Nat} {s : S} (h : hasB i s = true) : getA s i = some .brw := by
  unfold hasB at h
  split at h
  · rename_i q; exact q
  · cases h
theorem xCallG_some {G1 : G → List D → Option (D × G)} {i : Nat} {s s' : S} {d : D} (h : xCallG G1 i φs s = some (d, s')) : getA s i = some .brw ∧ ∃ xs s1 g, mAll φs s = some (xs, s1) ∧ G1 s1.g xs = some (d, g) ∧ s' = { s1 with g := g } := by
  obtain ⟨h1, h2⟩ := mIf_ok h
  obtain ⟨xs, s1, h3, h4⟩ := mBind_some h2
  refine ⟨hasB_ok h1, xs, s1, ?_⟩
  have h4 : (match G1 s1.g xs with | some (d, g) => some (d, ({ s1 with g := g } : S)) | none => none) = some (d, s') := h4
  cases q : G1 s1.g xs with
  | none => rw [q] at h4; cases h4
  | some r =>
    obtain ⟨d1, g⟩ := r
    rw [q] at h4
    cases h4
    exact ⟨g, h3, rfl, rfl⟩
/-- f(keg, ..) -/
theorem pd_callG {x y : Str} {p p2 : Pos} {k : Nat} {G1 : G → List D → Option (D × G)} (i : Nat) (f : FnD X.prog X.w X.K X.mg X.base x k (spG X.K C G1)) (hr : Room k X.A) (hg : Gl X x) (hv : PE X (.Name y p2) (tVar i)) (ha : PA X es (tL X.K C κ (mAll φs))) (hdb : (x == ("__debug__" : Str)) = false := by decide)
    (he : starEach (.Name y p2 :: es) X.env = (false, eval (.Name y p2) X.env) :: starEach es X.env := by rfl) (hpl : (backTo pos (starEach es X.env)).any (·.1) = false := by rfl) : PE X (.Call (.Name x p) (.Name y p2 :: es) [] pos) (tD X.K C κ (xCallG G1 i φs)) := by
  obtain ⟨fa, fd, ps, F, hm, hk, hb⟩ := f.ex
  refine pd_mk (pe_call F hr hg hm hk hb .nil pass0 (pa_cons hv ha he) hdb he hpl) fun {H0 F0 σ H F s d s'} Q l T q k => ?_
  obtain ⟨e1, xs, s1, g, h1, h2, rfl⟩ := xCallG_some q
  obtain ⟨v, hv1, kk, hk1, rfl⟩ := T.slot i _ e1
  refine ⟨_, hv1, H0, F0, F, s, T, xs, s1, h1, fun vs H1 F1 l1 T1 p1 x1 => ?_⟩
  obtain ⟨z1, z2, z3⟩ := T1.kg kk hk1
  exact ⟨kk, F1, vs, xs, s1.g, d, g, by rw [List.append_nil], T1.sub, z1, z3, x1, h2, fun v H' F' fr n b y l2 => k v H' F' l2 (T1.callG hk1 fr n b) (p1.trans (Stp.callG fr hk1 b.some)) y⟩
/-- f([..]) where the new list is the keg -/
theorem xCallK_some {G1 : G → List D → Option (D × G)} {m : M R} {s s' : S} {d : D} (h : xCallK G1 m s = some (d, s')) : ∃ x y z g, m s = some (.fr [.int x, .int y, .int z], s') ∧ G1 (.keg x y z) [] = some (d, g) := by
  obtain ⟨r, s1, h1, h2⟩ := mBind_some h
  split at h2
  · rename_i x y z
    cases q : G1 (.keg x y z) [] with
    | none => rw [q] at h2; cases h2
    | some r =>
      obtain ⟨d1, g⟩ := r
      rw [q] at h2
      obtain ⟨rfl, rfl⟩ := mRet_some h2
      exact ⟨x, y, z, g, h1, q⟩
  · cases h2
/-- o.m(e, ..) -/
theorem xMeth_some {G1 : List D → Option D} {m : Str} {o : M D} {s s' : S} {d : D} (h : xMeth G1 m o φs s = some (d, s')) : ∃ fs s1 xs, o s = some (.web fs, s1) ∧ dGet fs m = none ∧ mAll φs s1 = some (xs, s') ∧ G1 (.web fs :: xs) = some d := by
  obtain ⟨r, s1, h1, h2⟩ := mBind_some h
  cases r <;> try (cases h2; done)
  rename_i fs
  have h2 : (if (dGet fs m).isNone = true then mBind (mAll φs) fun xs => mLift (G1 (.web fs :: xs)) else mFail) s1 = some (d, s') := h2
  cases q : dGet fs m with
  | some u => rw [q] at h2; cases h2
  | none =>
    rw [q] at h2
    have h2 : (mBind (mAll φs) fun xs => mLift (G1 (.web fs :: xs))) s1 = some (d, s') := h2
    obtain ⟨xs, s2, h3, h4⟩ := mBind_some h2
    obtain ⟨h5, rfl⟩ := mLift_some h4
    exact ⟨fs, s1, xs, h1, q, h3, h5⟩
theorem pd_meth {pl : Sem Bool} {o : Expr} {m : Str} {apos : Pos} {fa : Addr} {fd : FuncData} {ps : List Str} {k : Nat} {G1 : List D → Option D} (he : PE X o (tD X.K C κ φ)) (cl : Cls X.K C) (hm : Meth X.K C m fa) (F : FnOk X.prog X.w X.K X.mg X.base CX0 k fa fd ps (spP X.K C G1)) (hr : Room k X.A) (hb : Binds X.K fd ps []) (ha : PA X (e :: es) (tL X.K C κ (mAll φs)))
    (hst : starEach (e :: es) X.env = (false, eval e X.env) :: starEach es X.env := by rfl) (hpl : (backTo pos (starEach es X.env)).any (·.1) = false := by rfl)
    (ht : eval (.Call (.Attribute o m apos) (e :: es) [] pos) X.env = (do
      let ov ← eval o X.env
      standAt apos.atName
      let (f, first) ← holding [ov] (getMethod ov m pl)
      callWith pos f first (backTo pos (starEach (e :: es) X.env)) (backToKw pos (keywordEach [] X.env))) := by rfl) :
    PE X (.Call (.Attribute o m apos) (e :: es) [] pos) (tD X.K C κ (xMeth G1 m φ φs)) := pd_mk (pe_meth he cl hm F hr hb .nil pass0 ha hst hpl ht) fun {H0 F0 σ H F s d s'} Q l T q k => by
  obtain ⟨fs, s1, xs, h1, h2, h3, h4⟩ := xMeth_some q
  refine ⟨H0, F0, F, s, T, _, s1, h1, fun v1 H1 F1 l1 T1 p1 x1 => ?_⟩
  obtain ⟨aa, dx, vs, rfl, z1, z2⟩ := x1.webI T1.sub
  refine ⟨aa, dx, vs, rfl, z1, z2.none h2, H0, F0, F1, s1, T1, xs, s', h3, fun ws H2 F2 l2 T2 p2 x2 => ?_⟩
  exact ⟨F2, _, d, T2.sub, by rw [List.append_nil]; exact .cons (x1.mono p2.fz) x2, h4, fun v H' F' fr y l3 => k v H' F' l3 (T2.call fr) ((p1.trans p2).trans (Stp.call fr)) y⟩
/-- o.p -/
theorem xProp_some {G1 : List D → Option D} {o : M D} {s s' : S} {d : D} (h : xProp G1 o s = some (d, s')) : ∃ fs, o s = some (.web fs, s') ∧ G1 [.web fs] = some d := by
  obtain ⟨r, s1, h1, h2⟩ := mBind_some h
  cases r <;> try (cases h2; done)
  rename_i fs
  obtain ⟨h5, rfl⟩ := mLift_some h2
  exact ⟨fs, h1, h5⟩
theorem pd_prop {f : Str} {pp ga : Addr} {fd : FuncData} {ps : List Str} {k : Nat} {G1 : List D → Option D} (he : PE X e (tD X.K C κ φ)) (cl : Cls X.K C) (hp : PropOf X.K C f pp ga) (F : FnOk X.prog X.w X.K X.mg X.base CX0 k ga fd ps (spP X.K C G1)) (hr : Room (k + 1) X.A) (hb : Binds X.K fd ps [])
    (hab : attributeBase e f X.env (eval e X.env) = eval e X.env := by rfl) : PE X (.Attribute e f pos) (tD X.K C κ (xProp G1 φ)) := pd_mk (pe_prop he cl hp F hr hb .nil pass0 hab) fun {H0 F0 σ H F s d s'} Q l T q k => by
  obtain ⟨fs, h1, h2⟩ := xProp_some q
  refine ⟨H0, F0, F, s, T, _, s', h1, fun v1 H1 F1 l1 T1 p1 x1 => ?_⟩
  obtain ⟨aa, dx, vs, rfl, z1, z2⟩ := x1.webI T1.sub
  exact ⟨aa, dx, vs, rfl, z1, F1, _, d, T1.sub, .one x1, h2, fun v H' F' fr y l3 => k v H' F' l3 (T1.call fr) (p1.trans (Stp.call fr)) y⟩
/-- a new instance -/
theorem xMake_some {G1 : G → List D → Option (D × G)} {s s' : S} {d : D} (h : xMake G1 φs s = some (d, s')) : ∃ xs fs, mAll φs s = some (xs, s') ∧ G1 (.obj []) xs = some (.non, .obj fs) ∧ d = .web fs := by
  obtain ⟨xs, s1, h1, h2⟩ := mBind_some h
  cases q : G1 (.obj []) xs with
  | none =>
    rw [q] at h2
    cases h2
  | some r =>
    obtain ⟨d1, g⟩ := r
    rw [q] at h2
    cases d1 <;> cases g <;> try (cases h2; done)
    obtain ⟨rfl, rfl⟩ := mRet_some h2
    exact ⟨xs, _, h1, q, rfl⟩
theorem pd_make {x : Str} {p : Pos} {fI : Addr} {fd : FuncData} {ps : List Str} {k : Nat} {G1 : G → List D → Option (D × G)} (M1 : Mk X.K C fI) (F : FnOk X.prog X.w X.K X.mg X.base CX0 k fI fd ps (spG X.K C G1)) (hr : Room (k + 1) X.A) (hg : Gl X x) (hm : X.mg x = some (.ref C)) (hb : Binds X.K fd ps []) (ha : PA X (e :: es) (tL X.K C κ (mAll φs)))
    (hdb : (x == ("__debug__" : Str)) = false := by decide) (he : starEach (e :: es) X.env = (false, eval e X.env) :: starEach es X.env := by rfl) (hpl : (backTo pos (starEach es X.env)).any (·.1) = false := by rfl) :
    PE X (.Call (.Name x p) (e :: es) [] pos) (tD X.K C κ (xMake G1 φs)) := pd_mk (pe_make M1 F hr hg hm hb .nil pass0 ha hdb he hpl) fun {H0 F0 σ H F s d s'} Q l T q k => by
  obtain ⟨xs, fs, h1, h2, rfl⟩ := xMake_some q
  refine ⟨H0, F0, F, s, T, xs, s', h1, fun vs H1 F1 l1 T1 p1 x1 xa dx nx nd ne => ?_⟩
  have T2 := T1.new (o := .own xa) nd
  have nx2 : upd H1 dx (.own xa) xa = none := by rw [upd_ne (fun z => ne z.symm)]; exact nx
  have T3 := T2.new (o := .ins C dx []) nx2
  have u3 : Unow σ s' xa := T1.unow_new nx
  have h03 : H0 xa = none := T1.h0 nx
  have f3 : F1 xa = none := T1.f0 nx
  refine ⟨xa, F1, vs, xs, .obj [], .non, .obj fs, by rw [List.append_nil], T3.sub, f3, ⟨dx, [], upd_same, .nil⟩, x1, h2, fun v H' F' fr n b y => ⟨y.nonI, fun l2 => ?_⟩⟩
  obtain ⟨dx2, ws, z1, z2⟩ := b
  have T4 := T3.callN h03 u3 fr
  have p4 : Stp κ σ H1 F1 s' H' F' s' := ⟨fr.fz, fun c o h m q1 q2 => by
    have c1 : c ≠ xa := ne_of_none h nx
    have c2 : c ≠ dx := ne_of_none h nd
    have h' : upd (upd H1 dx (.own xa)) xa (.ins C dx []) c = some o := by rw [upd_ne c1, upd_ne c2]; exact h
    exact ⟨fr.kp c o h' m (fun z => c1 (by cases z; rfl)), fr.out h' m⟩, fun _ q => q, fun c h => upd_none (upd_none (fr.gr (fun k' z => by cases z; rw [z1]; intro q; cases q) c h)), fun c o u h => fr.lk c o u (upd_frz (nofrz_none nx2) (upd_frz (nofrz_none nd) h))⟩
  obtain ⟨T5, p5⟩ := frz_new T4 (p1.trans p4) z1 n h03 u3 (p1.gr xa nx)
  exact k _ _ _ l2 T5 p5 (.web upd_same (z2.mono (Same.updN n)))
/-- f(g(..)) where g makes the keg -/
theorem pd_callK {x : Str} {p : Pos} {k : Nat} {G1 : G → List D → Option (D × G)} {m : M R} (f : FnD X.prog X.w X.K X.mg X.base x k (spG X.K C G1)) (hr : Room k X.A) (hg : Gl X x) (ha : PE X e (tR X.K C κ m)) (hdb : (x == ("__debug__" : Str)) = false := by decide)
    (he : starEach [e] X.env = (false, eval e X.env) :: starEach [] X.env := by rfl) (hpl : (backTo pos (starEach [] X.env)).any (·.1) = false := by rfl) : PE X (.Call (.Name x p) [e] [] pos) (tD X.K C κ (xCallK G1 m)) := by
  obtain ⟨fa, fd, ps, F, hm, hk, hb⟩ := f.ex
  refine pd_mk (pe_call F hr hg hm hk hb .nil pass0 (pa_cons ha pa_nil he) hdb he hpl) fun {H0 F0 σ H F s d s'} Q l T q k => ?_
  obtain ⟨x, y, z, g, h1, h2⟩ := xCallK_some q
  refine ⟨H0, F0, F, s, T, _, s', h1, fun v1 H1 F1 l1 T1 p1 x1 => ?_⟩
  obtain ⟨pp, vs, rfl, f1, hp, xx, h0, u, zz⟩ := x1
  have ev : vs = [.int x, .int y, .int z] := by
    cases xx with
    | cons a1 r => cases r with
      | cons a2 r => cases r with
        | cons a3 r =>
          cases r
          rw [a1.intI, a2.intI, a3.intI]
  subst ev
  refine ⟨pp, F1, [], [], .keg x y z, d, g, rfl, T1.sub, f1, hp, .nil, h2, fun v H' F' fr n b w l2 => ?_⟩
  have p4 : Stp κ σ H F s H' F' s' := ⟨p1.fz.trans fr.fz, fun c o h m q1 q2 => by
    obtain ⟨e1, e2⟩ := p1.kp c o h m q1 q2
    have c1 : c ≠ pp := ne_of_none h zz
    exact ⟨fr.kp c o e1 e2 (fun z => c1 (by cases z; rfl)), fr.out e1 e2⟩, p1.ow, fun c h => p1.gr c (fr.gr (fun k' z => by cases z; exact b.some) c h), fun c o u h => fr.lk c o u (p1.lk c o u h)⟩
  exact k v H' F' l2 (T1.callN h0 u fr) p4 w
end
end Dl
end

/-! ## DRule6 -/
section
set_option Elab.async false
set_option linter.all false
set_option maxRecDepth 100000
set_option maxHeartbeats 2000000
/-! The data layer: what is walked, targets, comprehensions. -/
namespace Dl
open PySem PySem.Spec PyProof.Rows L2
/-- the iterator gives these items, while the frozen part stands -/
def WalkD (K : PySem.W.Frag) (C : Addr) (H F : Hp) (J : It) (items : List D) : Prop :=
  items.length ≤ sizeLine ∧ ∃ (g : Hp → Prop) (Y : Nat → Hp → V → Hp → Prop), Walk J items.length g Y ∧ (∀ H' F', Same F F' → Sub F' H' → (∀ b o u, H b = some (.frz o u) → H' b = some (.frz o u)) → g H') ∧
    ∀ i H1 v H2 F', Same F F' → Sub F' H1 → i < items.length → Y i H1 v H2 → ∃ d, items[i]? = some d ∧
      ((H2 = H1 ∧ DP K C F' v d) ∨ ∃ T a b da db, v = .ref T ∧ H1 T = none ∧ H2 = upd H1 T (.tup [a, b]) ∧ d = .tup [da, db] ∧ DP K C F' a da ∧ DP K C F' b db)
def tI (K : PySem.W.Frag) (C : Addr) (κ : Option Addr) (φ : M (List D)) : TI := fun σ H R => ∃ H0 F0 F s, Stt K C κ H0 F0 σ H F s ∧ ∃ xs s', φ s = some (xs, s') ∧
  ∀ J H' F', LenOk H' → Stt K C κ H0 F0 σ H' F' s' → Stp κ σ H F s H' F' s' → WalkD K C H' F' J xs → R J H'
/-- a target that stores into the slots ws -/
structure GOk (K : PySem.W.Frag) (C : Addr) (g : TG) (t : T) (ws : List Nat) : Prop where
  ok : ∀ {κ : Option Addr} {H0 F0 : Hp} {σ : St} {H F : Hp} {s s' : S} {v : V} {d : D} (Q : St → Hp → Prop), Stt K C κ H0 F0 σ H F s → DP K C F v d → t d s = some s' →
    (∀ σ', Stt K C κ H0 F0 σ' H F s' → (∀ j, j ∉ ws → σ'[j]? = σ[j]?) → σ'.length = σ.length → (∀ b, Unow σ s b → Unow σ' s' b) → Q σ' H) → g v σ H Q
structure GsOk (K : PySem.W.Frag) (C : Addr) (g : TGs) (ts : List T) (ws : List Nat) : Prop where
  ok : ∀ {κ : Option Addr} {H0 F0 : Hp} {σ : St} {H F : Hp} {s s' : S} {vs : List V} {ds : List D} (Q : St → Hp → Prop), Stt K C κ H0 F0 σ H F s → DPs K C F vs ds → gAll ts ds s = some s' →
    (∀ σ', Stt K C κ H0 F0 σ' H F s' → (∀ j, j ∉ ws → σ'[j]? = σ[j]?) → σ'.length = σ.length → (∀ b, Unow σ s b → Unow σ' s' b) → Q σ' H) → g vs σ H Q

section
variable {X : Cx} {C : Addr} {κ : Option Addr} {e a b c tgE iter : Expr} {pos : Pos} {φ φa φb φc : M D} {φs : List (M D)} {es : List Expr}
theorem go_name (i : Nat) {K : PySem.W.Frag} : GOk K C (gName i) (gNm i) [i] := ⟨fun {κ H0 F0 σ H F s s' v d} Q T x h k => by
  have h : (if i < s.e.length then some (setA s i (.d d)) else none) = some s' := h
  by_cases hi : i < s.e.length
  · rw [if_pos hi] at h
    cases h
    exact k _ (T.setD hi x) (fun j hj => List.getElem?_set_ne (fun z => hj (by simp [z]))) (by rw [List.length_set]) fun b u => u.setD hi
  · rw [if_neg hi] at h
    cases h⟩
theorem gs_nil {K : PySem.W.Frag} : GsOk K C gNil [] [] := ⟨fun {κ H0 F0 σ H F s s' vs ds} Q T x h k => by
  cases x with
  | nil =>
    cases (show some s = some s' from h)
    exact ⟨rfl, k σ T (fun _ _ => rfl) rfl fun _ u => u⟩
  | cons a b => cases (show (none : Option S) = some s' from h)⟩
theorem gs_cons {K : PySem.W.Frag} {g : TG} {gs : TGs} {t : T} {ts : List T} {w1 w2 : List Nat} (h1 : GOk K C g t w1) (h2 : GsOk K C gs ts w2) : GsOk K C (gCons g gs) (t :: ts) (w1 ++ w2) := ⟨fun {κ H0 F0 σ H F s s' vs ds} Q T x h k => by
  cases x with
  | nil => cases (show (none : Option S) = some s' from h)
  | @cons v vs d ds a b =>
    have h : (match t d s with | some s' => gAll ts ds s' | none => none) = some s' := h
    cases q : t d s with
    | none => rw [q] at h; cases h
    | some s1 =>
      rw [q] at h
      refine ⟨v, vs, rfl, h1.ok _ T a q fun σ1 T1 e1 l1 u1 => h2.ok _ T1 b h fun σ2 T2 e2 l2 u2 => ?_⟩
      exact k σ2 T2 (fun j hj => (e2 j fun z => hj (List.mem_append_right _ z)).trans (e1 j fun z => hj (List.mem_append_left _ z))) (l2.trans l1) fun b u => u2 b (u1 b u)⟩
/-- a, b = a tuple -/
theorem gAll_len : ∀ {ts : List Dl.T} {xs : List D} {s s' : S}, gAll ts xs s = some s' → ts.length = xs.length
  | [], [], _, _, _ => rfl
  | [], _ :: _, _, _, h => by cases h
  | _ :: _, [], _, _, h => by cases h
  | t :: ts, x :: xs, s, s', h => by
    have h : (match t x s with | some s' => gAll ts xs s' | none => none) = some s' := h
    cases q : t x s with
    | none => rw [q] at h; cases h
    | some s1 => rw [q] at h; rw [List.length_cons, List.length_cons, gAll_len h]
theorem go_tup {n : Nat} {gs : TGs} {ts : List Dl.T} {ws : List Nat} (h : GsOk X.K C gs ts ws) (hn : ts.length = n := by rfl) : GOk X.K C (gTup X.K n gs) (gTp ts) ws := ⟨fun {κ H0 F0 σ H F s s' v d} Q T x h1 k => by
  cases d <;> try (cases h1; done)
  rename_i xs
  have h1 : gAll ts xs s = some s' := h1
  obtain ⟨a1, vs, rfl, z1, z2⟩ := x.tupT T.sub
  exact ⟨a1, vs, rfl, z1, by rw [z2.length, ← gAll_len h1]; exact hn, h.ok Q T z2 h1 k⟩⟩
/-- a, b = a list -/
theorem go_lst {n : Nat} {gs : TGs} {ts : List Dl.T} {ws : List Nat} (h : GsOk X.K C gs ts ws) (hn : ts.length = n := by rfl) : GOk X.K C (gUnl X.K n gs) (gLs ts) ws := ⟨fun {κ H0 F0 σ H F s s' v d} Q T x h1 k => by
  cases d <;> try (cases h1; done)
  rename_i xs
  have h1 : gAll ts xs s = some s' := h1
  obtain ⟨a1, vs, rfl, z1, z2⟩ := x.lstL T.sub
  exact ⟨a1, vs, rfl, .inl (.inl z1), by rw [z2.length, ← gAll_len h1]; exact hn, h.ok Q T z2 h1 k⟩⟩

/-! ### what is walked -/
theorem pi_mk {wi : TI} {φ : M (List D)} (h : PI X tgE iter wi) (w : ∀ {H0 F0 : Hp} {σ : St} {H F : Hp} {s : S} {xs : List D} {s' : S} (R : It → Hp → Prop), LenOk H → Stt X.K C κ H0 F0 σ H F s → φ s = some (xs, s') →
    (∀ J H' F', LenOk H' → Stt X.K C κ H0 F0 σ H' F' s' → Stp κ σ H F s H' F' s' → WalkD X.K C H' F' J xs → R J H') → wi σ H fun J H' => LenOk H' → R J H') : PI X tgE iter (tI X.K C κ φ) :=
  ⟨fun pins s σ H R I ⟨H0, F0, F, st, T, xs, s', ed, k⟩ => thn (h.run pins s σ H _ I (w R (lenOk_of I) T ed k)) fun _ _ hq => thn hq fun _ _ ⟨it, fp, tn, J, H', e, I', tr, t0, f, r⟩ => ⟨it, fp, tn, J, H', e, I', tr, t0, f, r (lenOk_of I')⟩⟩
theorem DP.lstF {K : PySem.W.Frag} {F : Hp} {v : V} {ds : List D} (x : DP K C F v (.lst ds)) : ∃ a vs, v = .ref a ∧ F a = some (.lst vs) ∧ DPs K C F vs ds := by
  cases x with
  | lst e q => exact ⟨_, _, rfl, e, q⟩
theorem DP.tupF {K : PySem.W.Frag} {F : Hp} {v : V} {ds : List D} (x : DP K C F v (.tup ds)) : ∃ a vs, v = .ref a ∧ (F a = some (.tup vs) ∨ KTup K a vs) ∧ DPs K C F vs ds := by
  cases x with
  | tup e q => exact ⟨_, _, rfl, .inl e, q⟩
  | tupK e q => exact ⟨_, _, rfl, .inr e, q⟩
theorem Sub.lst {F H : Hp} (h : Sub F H) {a : Addr} {vs : List V} (e : F a = some (.lst vs)) : H a = some (.lst vs) := by
  rcases h a _ e with z | ⟨_, _, z, _⟩
  · exact z
  · cases z
theorem Sub.tup {K : PySem.W.Frag} {F H : Hp} (h : Sub F H) {a : Addr} {vs : List V} (e : F a = some (.tup vs) ∨ KTup K a vs) : SqT K H a vs := by
  rcases e with e | e
  · rcases h a _ e with z | ⟨_, _, z, _⟩
    · exact .inl (.inl z)
    · cases z
  · exact .inr e
theorem walk_lstD {K : PySem.W.Frag} {H F : Hp} {a : Addr} {vs : List V} {ds : List D} (e : F a = some (.lst vs)) (x : DPs K C F vs ds) (l : LenOk H) (hs : Sub F H) : WalkD K C H F (Itl K a) ds := by
  refine ⟨by rw [← x.length]; exact l a _ (hs.lst e), fun H => SqL K H a vs, YAt vs, by rw [← x.length]; exact walk_list, fun H' F' sm sb _ => .inl (.inl (sb.lst (sm _ _ e))), fun i H1 v H2 F' sm sb hi y => ?_⟩
  obtain ⟨rfl, hv⟩ := y
  obtain ⟨d, h1, h2⟩ := x.getV hv
  exact ⟨d, h1, .inl ⟨rfl, h2.mono sm⟩⟩
theorem walk_tupD {K : PySem.W.Frag} {H F : Hp} {a : Addr} {vs : List V} {ds : List D} (e : F a = some (.tup vs) ∨ KTup K a vs) (x : DPs K C F vs ds) (l : LenOk H) (hs : Sub F H) : WalkD K C H F (Itt K a) ds := by
  refine ⟨by rw [← x.length]; exact sqT_len l (hs.tup e), fun H => SqT K H a vs, YAt vs, by rw [← x.length]; exact walk_tup, fun H' F' sm sb _ => sb.tup (e.imp (sm _ _) id), fun i H1 v H2 F' sm sb hi y => ?_⟩
  obtain ⟨rfl, hv⟩ := y
  obtain ⟨d, h1, h2⟩ := x.getV hv
  exact ⟨d, h1, .inl ⟨rfl, h2.mono sm⟩⟩
theorem w_lst (h : PE X e (tD X.K C κ φ)) : PI X tgE e (tI X.K C κ (iLst φ)) := pi_mk (pi_list h) fun {H0 F0 σ H F s xs s'} R l T q k => by
  obtain ⟨x, s1, h1, h2⟩ := mBind_some q
  refine ⟨H0, F0, F, s, T, x, s1, h1, fun v1 H1 F1 l1 T1 p1 x1 => ?_⟩
  cases x <;> try (cases h2; done)
  obtain ⟨rfl, rfl⟩ := mRet_some h2
  obtain ⟨a1, vs, rfl, z1, z2⟩ := x1.lstF
  exact ⟨a1, rfl, ⟨vs, .inl (.inl (T1.sub.lst z1))⟩, fun l2 => k _ H1 F1 l2 T1 p1 (walk_lstD z1 z2 l2 T1.sub)⟩
theorem w_tup (h : PE X e (tD X.K C κ φ)) : PI X tgE e (tI X.K C κ (iTup φ)) := pi_mk (pi_tup h) fun {H0 F0 σ H F s xs s'} R l T q k => by
  obtain ⟨x, s1, h1, h2⟩ := mBind_some q
  refine ⟨H0, F0, F, s, T, x, s1, h1, fun v1 H1 F1 l1 T1 p1 x1 => ?_⟩
  cases x <;> try (cases h2; done)
  obtain ⟨rfl, rfl⟩ := mRet_some h2
  obtain ⟨a1, vs, rfl, z1, z2⟩ := x1.tupF
  exact ⟨a1, rfl, ⟨vs, T1.sub.tup z1⟩, fun l2 => k _ H1 F1 l2 T1 p1 (walk_tupD z1 z2 l2 T1.sub)⟩
theorem w_str {h0 : PE X e (tD X.K C κ φ)} : PI X tgE e (tI X.K C κ (iStr φ)) := pi_mk (pi_str h0) fun {H0 F0 σ H F s xs s'} R l T q k => by
  obtain ⟨x, s1, h1, h2⟩ := mBind_some q
  refine ⟨H0, F0, F, s, T, x, s1, h1, fun v1 H1 F1 l1 T1 p1 x1 => ?_⟩
  cases x <;> try (cases h2; done)
  rename_i z
  have h2 : (if z.length ≤ 1000 then mRet (z.cps.toList.map fun c => D.str ⟨#[c]⟩) else mFail) s1 = some (xs, s') := h2
  by_cases hz : z.length ≤ 1000
  · rw [if_pos hz] at h2
    obtain ⟨rfl, rfl⟩ := mRet_some h2
    refine ⟨z, x1.strI, fun l2 => k _ H1 F1 l2 T1 p1 ⟨by rw [List.length_map]; exact line1000 hz, _, _, by rw [List.length_map, Array.length_toList]; exact walk_str, fun _ _ _ _ _ => trivial, fun i Ha v Hb F' sm sb hi y => ?_⟩⟩
    obtain ⟨rfl, cc, h3, rfl⟩ := y
    exact ⟨_, by rw [List.getElem?_map, Array.getElem?_toList, h3]; rfl, .inl ⟨rfl, .str _⟩⟩
  · rw [if_neg hz] at h2
    cases h2
theorem walk_rgD {K : PySem.W.Frag} {H F : Hp} (lo : Int) (n : Nat) (hn : n ≤ 2000) : WalkD K C H F (Itr lo n) (rgD lo n) := by
  have hl : (rgD lo n).length = n := by unfold rgD; rw [List.length_map, List.length_range]
  refine ⟨by rw [hl, sizeLine_eq]; omega, _, _, by rw [hl]; exact walk_range, fun _ _ _ _ _ => trivial, fun i Ha v Hb F' sm sb hi y => ?_⟩
  obtain ⟨rfl, rfl⟩ := y
  refine ⟨.int (lo + i), ?_, .inl ⟨rfl, .int _⟩⟩
  rw [hl] at hi
  unfold rgD
  rw [List.getElem?_map, List.getElem?_range hi]
  rfl
theorem w_range1 {p : Pos} (hg : Gl X "range") (hm : X.mg "range" = none) (h : PE X a (tD X.K C κ φ)) (hs : starEach [a] X.env = [(false, eval a X.env)] := by rfl) : PI X tgE (.Call (.Name "range" p) [a] [] pos) (tI X.K C κ (iRange1 φ)) := pi_mk (pi_range1 hg hm (pa_cons h pa_nil hs) hs) fun {H0 F0 σ H F s xs s'} R l T q k => by
  obtain ⟨x, s1, h1, h2⟩ := mBind_some q
  refine ⟨H0, F0, F, s, T, x, s1, h1, fun v1 H1 F1 l1 T1 p1 x1 => ?_⟩
  cases x <;> try (cases h2; done)
  rename_i z
  have h2 : (if z ≤ 1000 ∧ -1000 ≤ z then mRet (rgD 0 z.toNat) else mFail) s1 = some (xs, s') := h2
  by_cases hz : z ≤ 1000 ∧ -1000 ≤ z
  · rw [if_pos hz] at h2
    obtain ⟨rfl, rfl⟩ := mRet_some h2
    exact ⟨z, by rw [x1.intI], by omega, by omega, fun l2 => k _ H1 F1 l2 T1 p1 (walk_rgD 0 z.toNat (by omega))⟩
  · rw [if_neg hz] at h2
    cases h2
theorem w_range2 {p : Pos} (hg : Gl X "range") (hm : X.mg "range" = none) (ha : PE X a (tD X.K C κ φa)) (hb : PE X b (tD X.K C κ φb)) (hs : starEach [a, b] X.env = [(false, eval a X.env), (false, eval b X.env)] := by rfl) (hs2 : starEach [b] X.env = [(false, eval b X.env)] := by rfl) : PI X tgE (.Call (.Name "range" p) [a, b] [] pos) (tI X.K C κ (iRange2 φa φb)) :=
  pi_mk (pi_range2 hg hm (pa_cons ha (pa_cons hb pa_nil hs2) (by rw [hs, hs2])) hs hs2) fun {H0 F0 σ H F s xs s'} R l T q k => by
  obtain ⟨x, s1, h1, h2⟩ := mBind_some q
  obtain ⟨y, s2, h3, h4⟩ := mBind_some h2
  refine ⟨H0, F0, F, s, T, x, s1, h1, fun v1 H1 F1 l1 T1 p1 x1 => ⟨H0, F0, F1, s1, T1, y, s2, h3, fun v2 H2 F2 l2 T2 p2 x2 => ?_⟩⟩
  cases x <;> cases y <;> try (cases h4; done)
  rename_i i j
  have h4 : (if (i ≤ 1000 ∧ -1000 ≤ i) ∧ (j ≤ 1000 ∧ -1000 ≤ j) then mRet (rgD i (j - i).toNat) else mFail) s2 = some (xs, s') := h4
  by_cases hz : (i ≤ 1000 ∧ -1000 ≤ i) ∧ (j ≤ 1000 ∧ -1000 ≤ j)
  · rw [if_pos hz] at h4
    obtain ⟨rfl, rfl⟩ := mRet_some h4
    exact ⟨i, j, by rw [x1.intI, x2.intI], ⟨by omega, by omega, by omega, by omega⟩, fun l2 => k _ H2 F2 l2 T2 (p1.trans p2) (walk_rgD i (j - i).toNat (by omega))⟩
  · rw [if_neg hz] at h4
    cases h4
/-- zip -/
theorem zip_get {xs ys : List D} {i : Nat} {x y : D} (hx : xs[i]? = some x) (hy : ys[i]? = some y) : ((xs.zip ys).map fun p => D.tup [p.1, p.2])[i]? = some (.tup [x, y]) := by
  have e : (xs.zip ys)[i]? = some (x, y) := List.getElem?_zip_eq_some.mpr ⟨hx, hy⟩
  rw [List.getElem?_map, e]
  rfl
theorem walk_zipT {K : PySem.W.Frag} {a b : Addr} {xs ys : List V} {n : Nat} (hn : n = min xs.length ys.length) : Walk (RZ.ItzT K a b) n (fun H => SqT K H a xs ∧ SqT K H b ys) (YPair (fun i => xs[i]?) (fun i => ys[i]?)) := by
  subst hn
  refine ⟨fun i _ hi q => ?_, fun _ q => ⟨xs, ys, q.1, q.2, by omega⟩, fun i H v H' _ q y => ?_⟩
  · have h1 : i < xs.length := by omega
    have h2 : i < ys.length := by omega
    exact ⟨xs, ys, xs[i], ys[i], q.1, q.2, by simp [h1], by simp [h2]⟩
  · obtain ⟨T, x, z, h1, h2, h3, h4, h5⟩ := y
    exact ⟨T, x, z, h1, h2, h3, h4 xs q.1, h5 ys q.2⟩
theorem ypairD {K : PySem.W.Frag} {F : Hp} {vs ws : List V} {xs ys : List D} (h1 : DPs K C F vs xs) (h2 : DPs K C F ws ys) {i : Nat} {H1 H2 F' : Hp} {v : V} (sm : Same F F') (y : YPair (fun i => vs[i]?) (fun i => ws[i]?) i H1 v H2) :
    ∃ d, ((xs.zip ys).map fun p => D.tup [p.1, p.2])[i]? = some d ∧ ((H2 = H1 ∧ DP K C F' v d) ∨ ∃ T a b da db, v = .ref T ∧ H1 T = none ∧ H2 = upd H1 T (.tup [a, b]) ∧ d = .tup [da, db] ∧ DP K C F' a da ∧ DP K C F' b db) := by
  obtain ⟨T, x, z, rfl, q1, q2, q3, q4⟩ := y
  obtain ⟨d1, e1, f1⟩ := h1.getV q3
  obtain ⟨d2, e2, f2⟩ := h2.getV q4
  exact ⟨_, zip_get e1 e2, .inr ⟨T, x, z, d1, d2, rfl, q1, q2, rfl, f1.mono sm, f2.mono sm⟩⟩
theorem w_zip {elts : List Expr} {kk : Nat} {tpos p : Pos} (hg : Gl X "zip") (hm : X.mg "zip" = none) (ha : PE X a (tD X.K C κ φa)) (hb : PE X b (tD X.K C κ φb)) (hs : starEach [a, b] X.env = (false, eval a X.env) :: starEach [b] X.env := by rfl) (hs2 : starEach [b] X.env = (false, eval b X.env) :: starEach [] X.env := by rfl) (hpl : (backTo pos (starEach [b] X.env)).any (·.1) = false := by rfl) :
    PI X (.Tuple elts kk tpos) (.Call (.Name "zip" p) [a, b] [] pos) (tI X.K C κ (iZip φa φb)) := pi_mk (RZ.pi_zipA hg hm (pa_cons ha (pa_cons hb pa_nil hs2) hs) hs hpl) fun {H0 F0 σ H F s xs s'} R l T q k => by
  obtain ⟨x, s1, h1, h2⟩ := mBind_some q
  obtain ⟨y, s2, h3, h4⟩ := mBind_some h2
  refine ⟨H0, F0, F, s, T, x, s1, h1, fun v1 H1 F1 l1 T1 p1 x1 => ⟨H0, F0, F1, s1, T1, y, s2, h3, fun v2 H2 F2 l2 T2 p2 x2 => ?_⟩⟩
  have x1' := x1.mono p2.fz
  cases x <;> cases y <;> try (cases h4; done)
  · rename_i xs ys
    obtain ⟨rfl, rfl⟩ := mRet_some h4
    obtain ⟨a1, vs, rfl, z1, z2⟩ := x1'.tupF
    obtain ⟨a2, ws, rfl, z3, z4⟩ := x2.tupF
    refine ⟨a1, a2, vs, ws, rfl, .inr ⟨T2.sub.tup z1, T2.sub.tup z3, fun l3 => k _ H2 F2 l3 T2 (p1.trans p2) ⟨?_, _, _, walk_zipT (xs := vs) (ys := ws) ?_, fun H' F' sm sb _ => ⟨sb.tup (z1.imp (sm _ _) id), sb.tup (z3.imp (sm _ _) id)⟩, fun i Ha v Hb F' sm sb hi y => ypairD z2 z4 sm y⟩⟩⟩
    · rw [List.length_map, List.length_zip, ← z2.length]
      exact Nat.le_trans (Nat.min_le_left _ _) (sqT_len l3 (T2.sub.tup z1))
    · rw [List.length_map, List.length_zip, z2.length, z4.length]
  · rename_i xs ys
    obtain ⟨rfl, rfl⟩ := mRet_some h4
    obtain ⟨a1, vs, rfl, z1, z2⟩ := x1'.lstF
    obtain ⟨a2, ws, rfl, z3, z4⟩ := x2.lstF
    refine ⟨a1, a2, vs, ws, rfl, .inl ⟨.inl (.inl (T2.sub.lst z1)), .inl (.inl (T2.sub.lst z3)), fun l3 => k _ H2 F2 l3 T2 (p1.trans p2) ⟨?_, _, _, walk_zip (xs := vs) (ys := ws) ?_, fun H' F' sm sb _ => ⟨.inl (.inl (sb.lst (sm _ _ z1))), .inl (.inl (sb.lst (sm _ _ z3)))⟩, fun i Ha v Hb F' sm sb hi y => ypairD z2 z4 sm y⟩⟩⟩
    · rw [List.length_map, List.length_zip, ← z2.length]
      exact Nat.le_trans (Nat.min_le_left _ _) (l3 a1 _ (T2.sub.lst z1))
    · rw [List.length_map, List.length_zip, z2.length, z4.length]
/-- the script, walked -/
theorem w_scr (h : PE X e (tD X.K C κ φ)) : PI X tgE e (tI X.K C κ (iScr φ)) := pi_mk (pi_list h) fun {H0 F0 σ H F s xs s'} R l T q k => by
  obtain ⟨x, s1, h1, h2⟩ := mBind_some q
  refine ⟨H0, F0, F, s, T, x, s1, h1, fun v1 H1 F1 l1 T1 p1 x1 => ?_⟩
  cases x <;> try (cases h2; done)
  rename_i ns
  obtain ⟨rfl, rfl⟩ := mRet_some h2
  cases x1 with
  | @scr a1 o _ e1 =>
    have ex : ∀ {F' H' : Hp}, Same F1 F' → Sub F' H' → SqL X.K H' a1 (ns.map V.int) := fun {F' H'} sm sb => .inl (.inr ⟨o, by
      rcases sb a1 _ (sm _ _ e1) with z | ⟨_, _, z, _⟩
      · exact z
      · cases z⟩)
    refine ⟨a1, rfl, ⟨_, ex (Same.refl _) T1.sub⟩, fun l2 => k _ H1 F1 l2 T1 p1 ⟨by rw [List.length_map, ← List.length_map (f := V.int)]; exact sqL_len l2 (ex (Same.refl _) T1.sub), _, _, by rw [List.length_map, ← List.length_map (f := V.int)]; exact walk_list (xs := ns.map V.int), fun H' F' sm sb _ => ex sm sb, fun i Ha v Hb F' sm sb hi y => ?_⟩⟩
    obtain ⟨rfl, hv⟩ := y
    obtain ⟨d, h3, h4⟩ := (DPs.ints (K := X.K) (C := C) (F := F') ns).getV hv
    exact ⟨d, h3, .inl ⟨rfl, h4⟩⟩
  | @scrK a1 _ e1 =>
    have ex : ∀ (H' : Hp), SqL X.K H' a1 (ns.map V.int) := fun H' => .inr e1
    refine ⟨a1, rfl, ⟨_, ex _⟩, fun l2 => k _ H1 F1 l2 T1 p1 ⟨by rw [List.length_map, ← List.length_map (f := V.int)]; exact sqL_len l2 (ex H1), _, _, by rw [List.length_map, ← List.length_map (f := V.int)]; exact walk_list (xs := ns.map V.int), fun H' F' sm sb _ => ex H', fun i Ha v Hb F' sm sb hi y => ?_⟩⟩
    obtain ⟨rfl, hv⟩ := y
    obtain ⟨d, h3, h4⟩ := (DPs.ints (K := X.K) (C := C) (F := F') ns).getV hv
    exact ⟨d, h3, .inl ⟨rfl, h4⟩⟩
/-- a dict, locked, for items() -/
def tDL (K : PySem.W.Frag) (C : Addr) (κ : Option Addr) (φ : M D) : TE := fun σ H Q => ∃ H0 F0 F s, Stt K C κ H0 F0 σ H F s ∧ ∃ d s', φ s = some (.dic d, s') ∧
  ∀ a ob kvs H' F', LenOk H' → Stt K C κ H0 F0 σ H' F' s' → Stp κ σ H F s H' F' s' → F' a = some (.dK kvs) → H' a = some (.frz ob (.dK kvs)) → DPk K C F' kvs d → Q (.ref a) H'
theorem pe_lk (h : PE X e (tD X.K C κ φ)) : PE X e (tDL X.K C κ φ) := ⟨fun pins s σ H Q I ⟨H0, F0, F, st, T, d, s', ed, k⟩ => by
  refine thn (h.run pins s σ H (fun v H' => ∃ F', LenOk H' ∧ Stt X.K C κ H0 F0 σ H' F' s' ∧ Stp κ σ H F st H' F' s' ∧ DP X.K C F' v (.dic d)) I ⟨H0, F0, F, st, T, _, s', ed, fun v H' F' l T' p x => ⟨F', l, T', p, x⟩⟩) fun u s1 ⟨v, H', I', r, F', l, T', p, x⟩ => ?_
  cases x with
  | @dic a kvs _ e1 n x =>
    rcases T'.sub a _ e1 with z | ⟨k2, ob, z, z2⟩
    · obtain ⟨od, I2⟩ := I'.lock z trivial
      exact ⟨.ref a, _, I2, r, k a od kvs _ F' (lenOk_of I2) (T'.lock e1 z) (p.trans (Stp.lock e1 z)) e1 upd_same x⟩
    · exact ⟨.ref a, H', I', r, k a ob kvs H' F' l T' p e1 z2 x⟩⟩
theorem items_get {K : PySem.W.Frag} {F : Hp} : ∀ {kvs : List (Key × V)} {ds : List (Str × D)} {i : Nat} {k : Key} {v : V}, DPk K C F kvs ds → kvs[i]? = some (k, v) → ∃ z d, ds[i]? = some (z, d) ∧ k = Sum.inr z ∧ DP K C F v d
  | _, _, _, _, _, .nil, h => by simp at h
  | _, _, 0, _, _, .cons a _, h => by simp at h; obtain ⟨rfl, rfl⟩ := h; exact ⟨_, _, rfl, rfl, a⟩
  | _, _, i + 1, _, _, .cons _ b, h => by
    obtain ⟨z, d, h1, h2⟩ := items_get (i := i) b (by simpa using h)
    exact ⟨z, d, by simpa using h1, h2⟩
theorem w_items {elts : List Expr} {kk : Nat} {tpos apos : Pos} (h : PE X e (tD X.K C κ φ)) (hbase : attributeBase e "items" X.env (eval e X.env) = eval e X.env := by rfl) (hline : (apos.endLine == pos.line) = true := by rfl) :
    PI X (.Tuple elts kk tpos) (.Call (.Attribute e "items" apos) [] [] pos) (tI X.K C κ (iItems φ)) := pi_mk (pi_items (pe_lk h) hbase hline) fun {H0 F0 σ H F s xs s'} R l T q k => by
  obtain ⟨x, s1, h1, h2⟩ := mBind_some q
  cases x <;> try (cases h2; done)
  rename_i ds
  obtain ⟨rfl, rfl⟩ := mRet_some h2
  refine ⟨H0, F0, F, s, T, _, s', h1, fun a1 ob kvs H1 F1 l1 T1 p1 e1 e2 x1 => ⟨a1, ob, kvs, rfl, e2, fun l2 => k _ H1 F1 l2 T1 p1 ⟨?_, (fun H => H a1 = some (.frz ob (.dK kvs))), YPair (fun i => kvs[i]?.map fun kv => kV kv.1) (fun i => kvs[i]?.map Prod.snd), ?_, fun H' F' sm sb hl => hl _ _ _ e2, fun i Ha v Hb F' sm sb hi y => ?_⟩⟩⟩
  · rw [List.length_map, ← x1.length]
    exact l2 a1 _ e2
  · rw [List.length_map, ← x1.length]
    exact walk_items
  · obtain ⟨T2, k2, v2, rfl, q1, q2, q3, q4⟩ := y
    have q3 : kvs[i]?.map (fun kv => kV kv.1) = some k2 := q3
    have q4 : kvs[i]?.map Prod.snd = some v2 := q4
    cases g : kvs[i]? with
    | none => rw [g] at q3; cases q3
    | some pr =>
      obtain ⟨k3, v3⟩ := pr
      rw [g] at q3 q4
      cases q3
      cases q4
      obtain ⟨z, d, g1, rfl, g2⟩ := items_get x1 g
      exact ⟨.tup [.str z, d], by rw [List.getElem?_map, g1]; rfl, .inr ⟨T2, _, _, _, _, rfl, q1, q2, rfl, .str z, g2.mono sm⟩⟩
end
end Dl
end

/-! ## DRule7 -/
section
set_option Elab.async false
set_option linter.all false
set_option maxRecDepth 100000
set_option maxHeartbeats 2000000
/-! The data layer: comprehensions. -/
namespace Dl
open PySem PySem.Spec PyProof.Rows L2

theorem getA_wipe {s : S} : ∀ {vs : List Nat} {j : Nat} {a : A}, getA (wipeS s vs) j = some a → j ∉ vs ∧ getA s j = some a
  | [], _, _, h => ⟨by simp, h⟩
  | v :: vs, j, a, h => by
    obtain ⟨h1, h2⟩ := getA_clr (s := wipeS s vs) h
    obtain ⟨h3, h4⟩ := getA_wipe h2
    exact ⟨by simp only [List.mem_cons, not_or]; exact ⟨h1, h3⟩, h4⟩
theorem getA_wipe_in {s : S} : ∀ {vs : List Nat} {j : Nat}, j ∉ vs → getA (wipeS s vs) j = getA s j
  | [], _, _ => rfl
  | v :: vs, j, h => by
    have h1 : j ≠ v := fun e => h (by rw [e]; exact List.mem_cons_self)
    have h2 : j ∉ vs := fun m => h (List.mem_cons_of_mem _ m)
    refine Eq.trans ?_ (getA_wipe_in h2)
    show getA (clrA (wipeS s vs) v) j = _
    unfold getA clrA
    show (match ((wipeS s vs).e.set v none)[j]? with | some (some a) => some a | _ => none) = _
    rw [List.getElem?_set_ne (fun z => h1 z.symm)]
    all_goals rfl
theorem Unow.wipe {σ : St} {s : S} {b : Addr} (h : Unow σ s b) (vs : List Nat) : Unow (L2.wipe σ vs) (wipeS s vs) b := fun i a e o q => by
  obtain ⟨h1, h2⟩ := getA_wipe e
  rw [wipe_out h1] at q
  exact h i a h2 o q
theorem freeOf_ok {s : S} {vs : List Nat} (h : freeOf s vs = true) {i : Nat} {a : A} (hi : i ∈ vs) (e : getA s i = some a) : isOwn a = false := by
  have q := List.all_eq_true.mp h i hi
  rw [e] at q
  simpa using q
/-- nothing owned in the wiped slots -/
theorem Unow.unwipe {σ : St} {s : S} {b : Addr} {vs : List Nat} (f : freeOf s vs = true) (h : Unow (L2.wipe σ vs) (wipeS s vs) b) : Unow σ s b := fun i a e o q => by
  by_cases hi : i ∈ vs
  · rw [freeOf_ok f hi e] at o
    cases o
  · exact h i a (by rw [getA_wipe_in hi]; exact e) o (by rw [wipe_out hi]; exact q)
theorem backS_len (s s0 : S) : ∀ vs : List Nat, (backS s s0 vs).e.length = s.e.length
  | [] => rfl
  | v :: vs => by
    show ((backS s s0 vs).e.set v _).length = _
    rw [List.length_set]
    exact backS_len s s0 vs
theorem getA_back {s s0 : S} (hl : s.e.length = s0.e.length) : ∀ (vs : List Nat) (j : Nat), getA (backS s s0 vs) j = if j ∈ vs then getA s0 j else getA s j
  | [], j => by simp [backS]
  | v :: vs, j => by
    have ih := getA_back hl vs j
    show getA { backS s s0 vs with e := (backS s s0 vs).e.set v _ } j = _
    unfold getA
    show (match ((backS s s0 vs).e.set v (match s0.e[v]? with | some a => a | none => none))[j]? with | some (some a) => some a | _ => none) = _
    by_cases e : j = v
    · subst e
      rw [if_pos List.mem_cons_self]
      by_cases hlt : j < s.e.length
      · rw [List.getElem?_set_self (by rw [backS_len]; exact hlt)]
        have : s0.e[j]? = some s0.e[j] := List.getElem?_eq_getElem (by omega)
        rw [this]
        all_goals (cases s0.e[j] <;> rfl)
      · rw [List.getElem?_eq_none (by simp [backS_len]; omega), List.getElem?_eq_none (by omega)]
    · rw [List.getElem?_set_ne (fun z => e z.symm)]
      have : (j ∈ v :: vs) ↔ j ∈ vs := ⟨fun h => (List.mem_cons.mp h).elim (fun z => (e z).elim) id, List.mem_cons_of_mem _⟩
      simp only [this]
      exact ih
section
variable {K : PySem.W.Frag} {C : Addr} {κ : Option Addr} {H0 F0 H F H1 F1 H2 F2 : Hp} {σ σ2 : St} {s s1 s2 s3 s4 : S}
theorem Stt.back {vs : List Nat} (T2 : Stt K C κ H0 F0 (L2.wipe σ vs) H2 F2 s2) (T1 : Stt K C κ H0 F0 σ H1 F1 s1) (hf : Same F1 F2) (f : freeOf s1 vs = true) : Stt K C κ H0 F0 σ H2 F2 (backS s2 s1 vs) := by
  have hl : s2.e.length = s1.e.length := by
    have a := T2.len
    rw [wipe_length] at a
    rw [a, T1.len]
  have hg : (backS s2 s1 vs).g = s2.g := by
    have : ∀ vs : List Nat, (backS s2 s1 vs).g = s2.g := by
      intro vs
      induction vs with
      | nil => rfl
      | cons v vs ih => exact ih
    exact this vs
  have ow : ∀ {j a}, getA (backS s2 s1 vs) j = some a → isOwn a = true → j ∉ vs ∧ getA s2 j = some a := fun {j a} e o => by
    rw [getA_back hl] at e
    by_cases hj : j ∈ vs
    · rw [if_pos hj] at e
      rw [freeOf_ok f hj e] at o
      cases o
    · rw [if_neg hj] at e
      exact ⟨hj, e⟩
  refine ⟨T2.sub, T2.fr, T2.fz, T2.nw, by rw [backS_len, hl]; exact T1.len, fun j a e => ?_, fun j k a b v e1 o1 e2 o2 q1 q2 => ?_, fun j a p e o q => ?_, fun k e => ?_, T2.lk⟩
  · rw [getA_back hl] at e
    by_cases hj : j ∈ vs
    · rw [if_pos hj] at e
      obtain ⟨v, q1, q2⟩ := T1.slot j a e
      have o := freeOf_ok f hj e
      refine ⟨v, q1, ?_⟩
      cases a with
      | d x => exact DP.mono hf q2
      | own ds => cases o
      | dct ds => cases o
      | brw => exact q2
    · rw [if_neg hj] at e
      obtain ⟨v, q1, q2⟩ := T2.slot j a e
      rw [wipe_out hj] at q1
      exact ⟨v, q1, q2⟩
  · obtain ⟨h1, h2⟩ := ow e1 o1
    obtain ⟨h3, h4⟩ := ow e2 o2
    exact T2.uq j k a b v h2 o1 h4 o2 (by rw [wipe_out h1]; exact q1) (by rw [wipe_out h3]; exact q2)
  · obtain ⟨h1, h2⟩ := ow e o
    exact T2.og j a p h2 o (by rw [wipe_out h1]; exact q)
  · rw [hg]
    exact T2.kg k e
theorem Unow.back {vs : List Nat} (hl : s2.e.length = s1.e.length) (f : freeOf s1 vs = true) {b : Addr} (h : Unow (L2.wipe σ vs) s2 b) : Unow σ (backS s2 s1 vs) b := fun j a e o q => by
  rw [getA_back hl] at e
  by_cases hj : j ∈ vs
  · rw [if_pos hj] at e
    rw [freeOf_ok f hj e] at o
    cases o
  · rw [if_neg hj] at e
    exact h j a e o (by rw [wipe_out hj]; exact q)
/-- steps under other slots -/
theorem Stp.via (a : Stp κ σ H F s H1 F1 s1) (u1 : ∀ b, Unow σ s1 b → Unow σ2 s2 b) (b : Stp κ σ2 H1 F1 s2 H2 F2 s3) (u2 : ∀ b, Unow σ2 s3 b → Unow σ s4 b) : Stp κ σ H F s H2 F2 s4 :=
  ⟨a.fz.trans b.fz, fun c o h1 h2 h3 h4 => by
    obtain ⟨q1, q2⟩ := a.kp c o h1 h2 h3 h4
    exact b.kp c o q1 q2 h3 (u1 c (a.ow c h4)), fun c h => u2 c (b.ow c (u1 c (a.ow c h))), fun c h => a.gr c (b.gr c h), fun c o u h => b.lk c o u (a.lk c o u h)⟩
theorem wipe_eq {vs ws : List Nat} (hw : ∀ i ∈ ws, i ∈ vs) (h1 : ∀ j, j ∉ ws → σ2[j]? = (L2.wipe σ vs)[j]?) (h2 : σ2.length = (L2.wipe σ vs).length) : L2.wipe σ2 vs = L2.wipe σ vs := by
  have nn : ∀ (τ : St) (us : List Nat) (j : Nat), j ∈ us → j < τ.length → (L2.wipe τ us)[j]? = some none := by
    intro τ us
    induction us with
    | nil => intro j hj _; cases hj
    | cons u us ih =>
      intro j hj hl
      show ((L2.wipe τ us).set u none)[j]? = _
      by_cases e : u = j
      · subst e
        rw [List.getElem?_set_self (by rw [wipe_length]; exact hl)]
      · rw [List.getElem?_set_ne e]
        exact ih j ((List.mem_cons.mp hj).resolve_left fun z => e z.symm) hl
  have hl : σ2.length = σ.length := by rw [h2, wipe_length]
  refine List.ext_getElem? fun j => ?_
  by_cases hj : j ∈ vs
  · by_cases hlt : j < σ.length
    · rw [nn σ2 vs j hj (by omega), nn σ vs j hj hlt]
    · rw [List.getElem?_eq_none (by rw [wipe_length]; omega), List.getElem?_eq_none (by rw [wipe_length]; omega)]
  · rw [wipe_out hj]
    exact h1 j fun z => hj (hw j z)
/-- what a turn's item does to the heap -/
theorem turn_item {T1 : Addr} {x : V} {d : D} (T : Stt K C κ H0 F0 σ H F s) (y : (H2 = H ∧ DP K C F x d) ∨ ∃ T a b da db, x = .ref T ∧ H T = none ∧ H2 = upd H T (.tup [a, b]) ∧ d = .tup [da, db] ∧ DP K C F a da ∧ DP K C F b db) :
    ∃ Fx, Stt K C κ H0 F0 σ H2 Fx s ∧ Stp κ σ H F s H2 Fx s ∧ DP K C Fx x d := by
  rcases y with ⟨rfl, x1⟩ | ⟨Tp, a, b, da, db, rfl, h1, rfl, rfl, x1, x2⟩
  · exact ⟨F, T, Stp.refl, x1⟩
  · have hF := T.f0 h1
    exact ⟨_, T.newF h1, Stp.newF T h1, .tup upd_same (.cons (x1.mono (Same.updN hF)) (.cons (x2.mono (Same.updN hF)) .nil))⟩
end

theorem compLoop_cons {tg : T} {t : M Bool} {e : M D} {vs : List Nat} {x : D} {xs : List D} {s s' : S} {r : List D} (h : compLoop tg t e vs (x :: xs) s = some (r, s')) :
    ∃ s1 b s2, tg x s = some s1 ∧ t s1 = some (b, s2) ∧ ((b = true ∧ ∃ d s3 q, e s2 = some (d, s3) ∧ compLoop tg t e vs xs (wipeS s3 vs) = some (q, s') ∧ r = d :: q) ∨ (b = false ∧ compLoop tg t e vs xs (wipeS s2 vs) = some (r, s'))) := by
  unfold compLoop at h
  cases h1 : tg x s with
  | none => rw [h1] at h; cases h
  | some s1 =>
    rw [h1] at h
    dsimp only at h
    cases h2 : t s1 with
    | none => rw [h2] at h; cases h
    | some p =>
      obtain ⟨b, s2⟩ := p
      rw [h2] at h
      dsimp only at h
      refine ⟨s1, b, s2, rfl, h2, ?_⟩
      cases b with
      | false => exact .inr ⟨rfl, h⟩
      | true =>
        rw [if_pos rfl] at h
        cases h3 : e s2 with
        | none => rw [h3] at h; cases h
        | some p =>
          obtain ⟨d, s3⟩ := p
          rw [h3] at h
          dsimp only at h
          cases h4 : compLoop tg t e vs xs (wipeS s3 vs) with
          | none => rw [h4] at h; cases h
          | some p =>
            obtain ⟨q, s4⟩ := p
            rw [h4] at h
            cases h
            exact .inl ⟨rfl, d, s3, q, rfl, h4, rfl⟩
theorem rComp_some {src : M (List D)} {tg : T} {t : M Bool} {e : M D} {vs : List Nat} {s s' : S} {r : R} (h : rComp src tg t e vs s = some (r, s')) :
    ∃ xs s1 q s2, src s = some (xs, s1) ∧ freeOf s1 vs = true ∧ compLoop tg t e vs xs (wipeS s1 vs) = some (q, s2) ∧ r = .fr q ∧ s' = backS s2 s1 vs := by
  obtain ⟨xs, s1, h1, h2⟩ := mBind_some h
  have h2 : (if freeOf s1 vs = true then (match compLoop tg t e vs xs (wipeS s1 vs) with | none => none | some (r, s') => some (R.fr r, backS s' s1 vs)) else none) = some (r, s') := h2
  by_cases f : freeOf s1 vs = true
  · rw [if_pos f] at h2
    cases h3 : compLoop tg t e vs xs (wipeS s1 vs) with
    | none => rw [h3] at h2; cases h2
    | some p =>
      obtain ⟨q, s2⟩ := p
      rw [h3] at h2
      cases h2
      exact ⟨xs, s1, q, s2, h1, f, h3, rfl, rfl⟩
  · rw [if_neg f] at h2
    cases h2

/-- a comprehension's reading -/
theorem lc_read {K : PySem.W.Frag} {C : Addr} {κ : Option Addr} {g : TG} {tg : T} {ws vs : List Nat} {src : M (List D)} {τ : M Bool} {φ : M D} (hg : GOk K C g tg ws) (hw : ∀ i ∈ ws, i ∈ vs) {H0 F0 : Hp} {σ : St} {H F : Hp} {s s' : S} {d : R} {Q : VK}
    (T : Stt K C κ H0 F0 σ H F s) (q : rComp src tg τ φ vs s = some (d, s')) (k : RetR K C κ H0 F0 σ H F s s' d Q) : tLc (tI K C κ src) g (tT K C κ τ) (tD K C κ φ) vs σ H fun v H' => LenOk H' → Q v H' := by
  obtain ⟨xs, s1, out, s2, h1, f, h2, rfl, rfl⟩ := rComp_some q
  refine ⟨H0, F0, F, s, T, xs, s1, h1, fun J H1 F1 l1 T1 p1 wd Dn hD => ?_⟩
  obtain ⟨hlen, gg, Y, wk, hG, hY⟩ := wd
  have T1w := T1.wipe vs
  have hD0 := T1.h0 hD
  have hDF := T1.f0 hD
  refine lc_it wk (fun i Hi => ∃ Fi si acc accD rest, Stt K C κ H0 F0 (L2.wipe σ vs) Hi Fi si ∧ Stp κ (L2.wipe σ vs) H1 F1 (wipeS s1 vs) Hi Fi si ∧ Hi Dn = some (.lst acc) ∧ DPs K C Fi acc accD ∧ Fi Dn = none ∧ Unow (L2.wipe σ vs) si Dn ∧
      compLoop tg τ φ vs (xs.drop i) si = some (rest, s2) ∧ out = accD ++ rest ∧ acc.length ≤ i) ?_ ?_ ?_ ?_
  · exact ⟨F1, wipeS s1 vs, [], [], out, T1w.new hD, Stp.new T1w hD, upd_same, .nil, hDF, T1w.unow_new hD, h2, rfl, Nat.le_refl _⟩
  · rintro i Hi hi ⟨Fi, si, acc, accD, rest, Ti, pi, _⟩
    exact hG Hi Fi pi.fz Ti.sub pi.lk
  · rintro i x Hi H' hi ⟨Fi, si, acc, accD, rest, Ti, pi, hacc, xacc, fD, uD, hc, ho, hlt⟩ y
    obtain ⟨dd, hd, y⟩ := hY i Hi x H' Fi pi.fz Ti.sub hi y
    obtain ⟨Fx, Tx, px, xx⟩ := turn_item (T1 := Dn) Ti y
    have ed : xs.drop i = dd :: xs.drop (i + 1) := by
      obtain ⟨hh, e⟩ := List.getElem?_eq_some_iff.mp hd
      rw [List.drop_eq_getElem_cons hh, e]
    rw [ed] at hc
    obtain ⟨sa, b, sb, c1, c2, c3⟩ := compLoop_cons hc
    refine hg.ok _ Tx xx c1 fun σ2 Ta ea la ua => ?_
    have hwe := wipe_eq hw ea la
    refine ⟨hwe, H0, F0, Fx, sa, Ta, b, sb, c2, fun H3 F3 l3 T3 p3 => ?_⟩
    have p03 := (pi.trans px).via (s4 := wipeS sb vs) ua p3 (fun c u => by rw [← hwe]; exact u.wipe vs)
    obtain ⟨kD1, kF1⟩ := px.kp Dn _ hacc fD (Ti.kne hD0) uD
    obtain ⟨kD3, kF3⟩ := p3.kp Dn _ kD1 kF1 (Ti.kne hD0) (ua Dn (px.ow Dn uD))
    have u3 := p3.ow Dn (ua Dn (px.ow Dn uD))
    rcases c3 with ⟨rfl, d1, sc, q1, c4, c5, rfl⟩ | ⟨rfl, c4⟩
    · refine iteT ⟨H0, F0, F3, sb, T3, d1, sc, c4, fun v4 H4 F4 l4 T4 p4 x4 => ?_⟩
      obtain ⟨kD4, kF4⟩ := p4.kp Dn _ kD3 kF3 (Ti.kne hD0) u3
      have u4 := p4.ow Dn u3
      have l16 : xs.length ≤ sizeLine := hlen
      refine ⟨acc, kD4, by omega, F4, wipeS sc vs, acc ++ [v4], accD ++ [d1], q1, ?_, ?_, upd_same, ((xacc.mono px.fz).mono (p3.fz.trans p4.fz)).append (.one x4), kF4, ?_, c5, by rw [ho, List.append_assoc]; rfl, by rw [List.length_append]; exact Nat.succ_le_succ hlt⟩
      · have T5 := (T4.chg (p := Dn) (o := .lst (acc ++ [v4])) (fun _ _ z => by rw [kD4] at z; cases z) hD0 kF4 u4).wipe vs
        rw [hwe] at T5
        exact T5
      · have p04 := (pi.trans px).via (s4 := wipeS sc vs) ua (p3.trans p4) (fun c u => by rw [← hwe]; exact u.wipe vs)
        refine ⟨p04.fz, fun c o e1 e2 e3 e4 => ?_, p04.ow, fun c h => p04.gr c (upd_none h), fun c o u h => upd_frz (fun _ _ z => by rw [kD4] at z; cases z) (p04.lk c o u h)⟩
        obtain ⟨r1, r2⟩ := p04.kp c o e1 e2 e3 e4
        rw [upd_ne (ne_of_none e1 hD)]
        exact ⟨r1, r2⟩
      · rw [← hwe]
        exact u4.wipe vs
    · refine iteF ⟨F3, wipeS sb vs, acc, accD, rest, ?_, p03, kD3, (xacc.mono px.fz).mono p3.fz, kF3, ?_, c4, ho, Nat.le_succ_of_le hlt⟩
      · have T5 := T3.wipe vs
        rw [hwe] at T5
        exact T5
      · rw [← hwe]
        exact u3.wipe vs
  · rintro Hn ⟨Fn, sn, acc, accD, rest, Tn, pn, hacc, xacc, fD, uD, hc, ho, _⟩ l2
    rw [List.drop_length] at hc
    have hc : some (([] : List D), sn) = some (rest, s2) := hc
    cases hc
    rw [List.append_nil] at ho
    subst ho
    have hl : s2.e.length = s1.e.length := by
      have a := Tn.len
      rw [wipe_length] at a
      rw [a, T1.len]
    have Tb := Tn.back T1 pn.fz f
    have pb : Stp κ σ H F s Hn Fn (backS s2 s1 vs) := p1.via (fun b u => u.wipe vs) pn (fun b u => Unow.back hl f u)
    exact k _ Hn Fn l2 Tb pb ⟨Dn, acc, rfl, fD, hacc, xacc, hD0, Unow.back hl f uD, p1.gr Dn hD⟩

section
variable {X : Cx} {C : Addr} {κ : Option Addr} {elt tgE iter : Expr} {ifs : List Expr} {scope : Scope} {own : List (Str × Nat)} {pos spos : Pos} {g : TG} {tg : T} {ws : List Nat} {src : M (List D)} {τ : M Bool} {φ : M D}
theorem pts_nilD : PTs X [] (tT X.K C κ (mRet true)) := ⟨fun pins s σ H Q I ⟨H0, F0, F, st, T, b, s', e, k⟩ => by
  obtain ⟨rfl, rfl⟩ := mRet_some e
  exact pts_nil.run pins s σ H Q I (k H F (lenOk_of I) T Stp.refl)⟩
theorem pts_oneD {c : Expr} (h : PT X c (tT X.K C κ τ)) : PTs X [c] (tT X.K C κ τ) := pts_one h
theorem pr_comp (hc : X.calm = true) (hN : X.N.Nodup) (hi : PI X tgE iter (tI X.K C κ src)) (ok : BlkOk X.N X.env.scope scope own) (hg : GOk X.K C g tg ws) (hw : ∀ i ∈ ws, i ∈ own.map (·.2))
    (hgt : ∀ (s : Shared) (H : Hp) (Ca : Addr) (cl : List (Str × Addr)) (fp : List Addr), PG (X.blk s H scope (compEnvC scope cl Ca X.env) fp) tgE g)
    (ht : ∀ (s : Shared) (H : Hp) (Ca : Addr) (cl : List (Str × Addr)) (fp : List Addr), PTs (X.blk s H scope (compEnvC scope cl Ca X.env) fp) ifs (tT X.K C κ τ))
    (he : ∀ (s : Shared) (H : Hp) (Ca : Addr) (cl : List (Str × Addr)) (fp : List Addr), PE (X.blk s H scope (compEnvC scope cl Ca X.env) fp) elt (tD X.K C κ φ)) (hs : ∀ x, foldedSetIterable iter X.env x = pure x := by intro _; rfl) :
    PE X (.ListComp elt [⟨tgE, iter, ifs, 0⟩] scope pos) (tR X.K C κ (rComp src tg τ φ (own.map (·.2)))) := pr_mk (pe_lc hc hN hi ok hgt ht he hs) fun {H0 F0 σ H F s d s'} Q l T q k => lc_read hg hw T q k
end
end Dl
end

/-! ## DRule8 -/
section
set_option Elab.async false
set_option linter.all false
set_option maxRecDepth 100000
set_option maxHeartbeats 2000000
/-! The data layer: statements, defs. -/
namespace Dl
open PySem PySem.Spec PyProof.Rows L2
/-- locks stay -/
def Lk (H H' : Hp) : Prop := ∀ b o u, H b = some (.frz o u) → H' b = some (.frz o u)
theorem Lk.refl (H : Hp) : Lk H H := fun _ _ _ h => h
theorem Lk.trans {H H1 H2 : Hp} (a : Lk H H1) (b : Lk H1 H2) : Lk H H2 := fun c o u h => b c o u (a c o u h)
def lenD (D : Ends) : Ends := ⟨fun σ' H' => LenOk H' → D.nx σ' H', fun v H' => LenOk H' → D.rt v H', fun σ' H' => LenOk H' → D.bk σ' H', fun σ' H' => LenOk H' → D.ct σ' H'⟩
section
variable (K : PySem.W.Frag) (C : Addr) (κ : Option Addr)
def PostS (H0 F0 H F : Hp) (D : Ends) : Option O → Prop
  | some (.nx s') => ∀ σ' H' F', LenOk H' → Stt K C κ H0 F0 σ' H' F' s' → Same F F' → Lk H H' → D.nx σ' H'
  | some (.rt d s') => ∀ v σ' H' F', LenOk H' → Stt K C κ H0 F0 σ' H' F' s' → Same F F' → Lk H H' → DP K C F' v d → D.rt v H'
  | none => False
def tS (ψ : P) : TS := fun D σ H => ∃ H0 F0 F s, Stt K C κ H0 F0 σ H F s ∧ PostS K C κ H0 F0 H F D (ψ s)
/-- a target that may change the heap -/
structure GOh (g : TG) (t : T) : Prop where
  ok : ∀ {H0 F0 : Hp} {σ : St} {H F : Hp} {s s' : S} {v : V} {d : D} (Q : St → Hp → Prop), LenOk H → Stt K C κ H0 F0 σ H F s → DP K C F v d → t d s = some s' →
    (∀ σ' H' F', LenOk H' → Stt K C κ H0 F0 σ' H' F' s' → Same F F' → Lk H H' → Q σ' H') → g v σ H Q
structure GsOh (g : TGs) (ts : List T) : Prop where
  ok : ∀ {H0 F0 : Hp} {σ : St} {H F : Hp} {s s' : S} {vs : List V} {ds : List D} (Q : St → Hp → Prop), LenOk H → Stt K C κ H0 F0 σ H F s → DPs K C F vs ds → gAll ts ds s = some s' →
    (∀ σ' H' F', LenOk H' → Stt K C κ H0 F0 σ' H' F' s' → Same F F' → Lk H H' → Q σ' H') → g vs σ H Q
end
section
variable {K : PySem.W.Frag} {C : Addr} {κ : Option Addr} {H0 F0 H F H1 F1 : Hp} {D : Ends}
theorem PostS.pull {o : Option O} (h : PostS K C κ H0 F0 H F D o) (sm : Same F F1) (lk : Lk H H1) : PostS K C κ H0 F0 H1 F1 D o := by
  cases o with
  | none => exact h
  | some o => cases o with
    | nx s => exact fun σ' H' F' l T q k => h σ' H' F' l T (sm.trans q) (lk.trans k)
    | rt d s => exact fun v σ' H' F' l T q k x => h v σ' H' F' l T (sm.trans q) (lk.trans k) x
theorem GOk.h {g : TG} {t : T} {ws : List Nat} (h : GOk K C g t ws) : GOh K C κ g t := ⟨fun Q l T x e k => h.ok Q T x e fun σ' T' _ _ _ => k σ' _ _ l T' (Same.refl _) (Lk.refl _)⟩
end
section
variable {X : Cx} {C : Addr} {κ : Option Addr} {e a b c tgE iter : Expr} {pos : Pos} {φ φa φb φc : M D} {m m1 m2 : M R} {τ : M Bool} {st : Stmt} {rest sts sts2 : List Stmt} {ψ ψ1 ψ2 : P} {g : TG} {t : T}
theorem ps_mk {t : TS} (h : PS X st t) (w : ∀ {H0 F0 : Hp} {σ : St} {H F : Hp} {s : S} (D : Ends), LenOk H → Stt X.K C κ H0 F0 σ H F s → PostS X.K C κ H0 F0 H F D (ψ s) → t (lenD D) σ H) : PS X st (tS X.K C κ ψ) :=
  ⟨fun pins s σ H D I ⟨H0, F0, F, st, T, k⟩ => thn (h.run pins s σ H _ I (w D (lenOk_of I) T k)) fun f s' q => by
    cases f with
    | next => obtain ⟨σ', H', I', q⟩ := q; exact ⟨σ', H', I', q (lenOk_of I')⟩
    | brk => obtain ⟨σ', H', I', q⟩ := q; exact ⟨σ', H', I', q (lenOk_of I')⟩
    | cont => obtain ⟨σ', H', I', q⟩ := q; exact ⟨σ', H', I', q (lenOk_of I')⟩
    | ret u => obtain ⟨v, σ', H', I', r, q⟩ := q; exact ⟨v, σ', H', I', r, q (lenOk_of I')⟩⟩
theorem pss_mk {t : TS} (h : PSs X sts t) (w : ∀ {H0 F0 : Hp} {σ : St} {H F : Hp} {s : S} (D : Ends), LenOk H → Stt X.K C κ H0 F0 σ H F s → PostS X.K C κ H0 F0 H F D (ψ s) → t (lenD D) σ H) : PSs X sts (tS X.K C κ ψ) :=
  ⟨fun pins s σ H D I ⟨H0, F0, F, st, T, k⟩ => thn (h.run pins s σ H _ I (w D (lenOk_of I) T k)) fun f s' q => by
    cases f with
    | next => obtain ⟨σ', H', I', q⟩ := q; exact ⟨σ', H', I', q (lenOk_of I')⟩
    | brk => obtain ⟨σ', H', I', q⟩ := q; exact ⟨σ', H', I', q (lenOk_of I')⟩
    | cont => obtain ⟨σ', H', I', q⟩ := q; exact ⟨σ', H', I', q (lenOk_of I')⟩
    | ret u => obtain ⟨v, σ', H', I', r, q⟩ := q; exact ⟨v, σ', H', I', r, q (lenOk_of I')⟩⟩
theorem pss_nilS : PSs X [] (tS X.K C κ sNx) := pss_mk pss_nil fun {H0 F0 σ H F s} D l T k => fun l => k σ H F l T (Same.refl F) (Lk.refl H)
theorem pss_neverS : PSs X sts (tS X.K C κ sNo) := pss_mk pss_never fun D l T k => k
theorem ps_neverS : PS X st (tS X.K C κ sNo) := ps_mk ps_never fun D l T k => k
theorem pss_oneS (h : PS X st (tS X.K C κ ψ)) : PSs X [st] (tS X.K C κ ψ) := pss_one h
theorem pss_consS (h1 : PS X st (tS X.K C κ ψ1)) (h2 : PSs X rest (tS X.K C κ ψ2)) : PSs X (st :: rest) (tS X.K C κ (sSeq ψ1 ψ2)) := pss_mk (pss_cons h1 h2) fun {H0 F0 σ H F s} D l T k => by
  refine ⟨H0, F0, F, s, T, ?_⟩
  unfold sSeq at k
  cases q : ψ1 s with
  | none => rw [q] at k; exact k
  | some o =>
    rw [q] at k
    cases o with
    | nx s1 => exact fun σ' H' F' l1 T1 sm lk => ⟨H0, F0, F', s1, T1, by
        have k := PostS.pull k sm lk
        revert k
        show PostS X.K C κ H0 F0 H' F' D (ψ2 s1) → PostS X.K C κ H0 F0 H' F' (lenD D) (ψ2 s1)
        cases ψ2 s1 with
        | none => exact id
        | some o => cases o with
          | nx s2 => exact fun k σ' H' F' l T q r _ => k σ' H' F' l T q r
          | rt d s2 => exact fun k v σ' H' F' l T q r x _ => k v σ' H' F' l T q r x⟩
    | rt d s1 => exact fun v σ' H' F' l1 T1 sm lk x _ => k v σ' H' F' l1 T1 sm lk x
theorem ps_exprS (he : PE X e (tD X.K C κ φ)) (hs : swapsWith e none pos.line X.env = pure false := by rfl) : PS X (.Expr e pos) (tS X.K C κ (sDrop φ)) := ps_mk (ps_expr he hs) fun {H0 F0 σ H F s} D l T k => by
  unfold sDrop at k
  cases q : φ s with
  | none => rw [q] at k; exact k.elim
  | some p =>
    obtain ⟨d, s1⟩ := p
    rw [q] at k
    exact ⟨H0, F0, F, s, T, d, s1, q, fun v H' F' l1 T1 p1 x _ => k σ H' F' l1 T1 p1.fz p1.lk⟩
theorem ps_retS (he : PE X e (tD X.K C κ φ)) : PS X (.Return (some e) pos) (tS X.K C κ (sRet φ)) := ps_mk (ps_ret he) fun {H0 F0 σ H F s} D l T k => by
  unfold sRet at k
  cases q : φ s with
  | none => rw [q] at k; exact k.elim
  | some p =>
    obtain ⟨d, s1⟩ := p
    rw [q] at k
    exact ⟨H0, F0, F, s, T, d, s1, q, fun v H' F' l1 T1 p1 x _ => k v σ H' F' l1 T1 p1.fz p1.lk x⟩
theorem PostS.len {K : PySem.W.Frag} {H0 F0 H F : Hp} {D : Ends} {o : Option O} (k : PostS K C κ H0 F0 H F D o) : PostS K C κ H0 F0 H F (lenD D) o := by
  cases o with
  | none => exact k
  | some o => cases o with
    | nx s2 => exact fun σ' H' F' l T q r _ => k σ' H' F' l T q r
    | rt d s2 => exact fun v σ' H' F' l T q r x _ => k v σ' H' F' l T q r x
theorem ps_ifS (hc : PT X c (tT X.K C κ τ)) (ha : PSs X sts (tS X.K C κ ψ1)) (hb : PSs X sts2 (tS X.K C κ ψ2)) : PS X (.If c sts sts2 pos) (tS X.K C κ (sIf τ ψ1 ψ2)) := ps_mk (ps_if hc ha hb) fun {H0 F0 σ H F s} D l T k => by
  unfold sIf at k
  cases q : τ s with
  | none => rw [q] at k; exact k.elim
  | some p =>
    obtain ⟨w, s1⟩ := p
    rw [q] at k
    refine ⟨H0, F0, F, s, T, w, s1, q, fun H' F' l1 T1 p1 => ?_⟩
    cases w with
    | true => exact iteT ⟨H0, F0, F', s1, T1, (PostS.pull k p1.fz p1.lk).len⟩
    | false => exact iteF ⟨H0, F0, F', s1, T1, (PostS.pull k p1.fz p1.lk).len⟩

/-! ### stores -/
theorem Stt.putR {K : PySem.W.Frag} {H0 F0 Hs H F : Hp} {σ : St} {s : S} {i : Nat} {v : V} {r : R} (T : Stt K C κ H0 F0 σ H F s) (hi : i < s.e.length) (x : RV K C H0 Hs σ H F s v r) : Stt K C κ H0 F0 (σ.set i (some v)) H F (putR s i r) := by
  cases r with
  | d x1 => exact T.setD hi x
  | fr ds =>
    obtain ⟨p, vs, rfl, f, hp, xx, h0, u, _⟩ := x
    exact T.setO hi rfl h0 u ⟨p, vs, rfl, f, hp, xx⟩
  | fd ds =>
    obtain ⟨p, vs, rfl, f, hp, n, xx, h0, u, _⟩ := x
    exact T.setO hi rfl h0 u ⟨p, vs, rfl, f, hp, n, xx⟩
theorem ps_setS (i : Nat) {x : Str} {p : Pos} (hN : X.N.Nodup) (hi : X.N[i]? = some x) (hx : Loc X.env.scope x) (he : PE X e (tR X.K C κ m)) (hs : swapsWith e (some (.Name x p)) pos.line X.env = pure false := by rfl) (hf : X.fn x = true ∨ X.env.scope.names.lookup x = some .local := by first | exact .inl rfl | exact .inr rfl | assumption) :
    PS X (.Assign [.Name x p] e pos) (tS X.K C κ (sSet i m)) := ps_mk (ps_set hN hi hx he hs hf) fun {H0 F0 σ H F s} D l T k => by
  unfold sSet at k
  cases q : m s with
  | none => rw [q] at k; exact k.elim
  | some p =>
    obtain ⟨r, s1⟩ := p
    rw [q] at k
    dsimp only at k
    by_cases hl : i < s1.e.length
    · rw [if_pos hl] at k
      exact ⟨H0, F0, F, s, T, r, s1, q, fun v H' F' l1 T1 p1 xx _ => k _ H' F' l1 (T1.putR hl xx) p1.fz p1.lk⟩
    · rw [if_neg hl] at k
      exact k.elim
theorem ps_asgS (he : PE X e (tD X.K C κ φ)) (hg : PG X tgE g) (go : GOh X.K C κ g t) (hs : swapsWithSole [tgE] e pos.line X.env = pure false := by rfl) (hw : swappedStores [tgE] e X.env = pure none := by rfl)
    (h1 : (assignEach [tgE] X.env).map (·.2) = [assign tgE X.env] := by rfl) : PS X (.Assign [tgE] e pos) (tS X.K C κ (sAsg t φ)) := ps_mk (ps_asg he hg hs hw h1) fun {H0 F0 σ H F s} D l T k => by
  unfold sAsg at k
  cases q : φ s with
  | none => rw [q] at k; exact k.elim
  | some p =>
    obtain ⟨d, s1⟩ := p
    rw [q] at k
    dsimp only at k
    cases q2 : t d s1 with
    | none => rw [q2] at k; exact k.elim
    | some s2 =>
      rw [q2] at k
      exact ⟨H0, F0, F, s, T, d, s1, q, fun v H' F' l1 T1 p1 xx => go.ok _ l1 T1 xx q2 fun σ' H2 F2 l2 T2 sm lk _ => k σ' H2 F2 l2 T2 (p1.fz.trans sm) (Lk.trans p1.lk lk)⟩
theorem gs_nilH : GsOh X.K C κ gNil [] := ⟨fun {H0 F0 σ H F s s' vs ds} Q l T x h k => by
  cases x with
  | nil =>
    cases (show some s = some s' from h)
    exact ⟨rfl, k σ H F l T (Same.refl F) (Lk.refl H)⟩
  | cons a b => cases (show (none : Option S) = some s' from h)⟩
theorem gs_consH {gs : TGs} {ts : List Dl.T} (h1 : GOh X.K C κ g t) (h2 : GsOh X.K C κ gs ts) : GsOh X.K C κ (gCons g gs) (t :: ts) := ⟨fun {H0 F0 σ H F s s' vs ds} Q l T x h k => by
  cases x with
  | nil => cases (show (none : Option S) = some s' from h)
  | @cons v vs d ds a b =>
    have h : (match t d s with | some s' => gAll ts ds s' | none => none) = some s' := h
    cases q : t d s with
    | none => rw [q] at h; cases h
    | some s1 =>
      rw [q] at h
      exact ⟨v, vs, rfl, h1.ok _ l T a q fun σ1 H1 F1 l1 T1 sm lk => h2.ok _ l1 T1 (b.mono sm) h fun σ2 H2 F2 l2 T2 sm2 lk2 => k σ2 H2 F2 l2 T2 (sm.trans sm2) (lk.trans lk2)⟩⟩
theorem go_tupH {n : Nat} {gs : TGs} {ts : List Dl.T} (h : GsOh X.K C κ gs ts) (hn : ts.length = n := by rfl) : GOh X.K C κ (gTup X.K n gs) (gTp ts) := ⟨fun {H0 F0 σ H F s s' v d} Q l T x h1 k => by
  cases d <;> try (cases h1; done)
  rename_i xs
  have h1 : gAll ts xs s = some s' := h1
  obtain ⟨a1, vs, rfl, z1, z2⟩ := x.tupT T.sub
  exact ⟨a1, vs, rfl, z1, by rw [z2.length, ← gAll_len h1]; exact hn, h.ok Q l T z2 h1 k⟩⟩
theorem go_lstH {n : Nat} {gs : TGs} {ts : List Dl.T} (h : GsOh X.K C κ gs ts) (hn : ts.length = n := by rfl) : GOh X.K C κ (gUnl X.K n gs) (gLs ts) := ⟨fun {H0 F0 σ H F s s' v d} Q l T x h1 k => by
  cases d <;> try (cases h1; done)
  rename_i xs
  have h1 : gAll ts xs s = some s' := h1
  obtain ⟨a1, vs, rfl, z1, z2⟩ := x.lstL T.sub
  exact ⟨a1, vs, rfl, .inl (.inl z1), by rw [z2.length, ← gAll_len h1]; exact hn, h.ok Q l T z2 h1 k⟩⟩
theorem gIx_some {i : Nat} {b : M D} {x : D} {s s' : S} (h : gIx i b x s = some s') : (∃ A1, getA s i = some A1) ∧ ∃ k s1 xs j, b s = some (.int k, s1) ∧ getA s1 i = some (.own xs) ∧ ixN xs.length k = some j ∧ s' = setA s1 i (.own (xs.set j x)) := by
  unfold gIx at h
  cases q : mIf (hasA i) b s with
  | none => rw [q] at h; cases h
  | some p =>
    obtain ⟨d, s1⟩ := p
    obtain ⟨h1, h2⟩ := mIf_ok q
    refine ⟨hasA_ok h1, ?_⟩
    rw [q] at h
    cases d <;> try (cases h; done)
    rename_i k
    dsimp only at h
    cases q2 : getA s1 i with
    | none => rw [q2] at h; cases h
    | some A1 =>
      rw [q2] at h
      cases A1 <;> try (cases h; done)
      rename_i xs
      dsimp only at h
      cases q3 : ixN xs.length k with
      | none => rw [q3] at h; cases h
      | some j =>
        rw [q3] at h
        cases h
        exact ⟨k, s1, xs, j, h2, q2, q3, rfl⟩
theorem own_set {K : PySem.W.Frag} {H0 F0 H F : Hp} {σ : St} {s : S} {i : Nat} {p : Addr} {A1 B1 : A} {o o1 : HO} (T : Stt K C κ H0 F0 σ H F s) (e : getA s i = some A1) (ho : isOwn A1 = true) (hv : σ[i]? = some (some (.ref p))) (hF : F p = none) (hp : H p = some o1) (no : ∀ ob u, o1 ≠ .frz ob u) (hb : isOwn B1 = true) (x : Hold K C κ (upd H p o) F (.ref p) B1) :
    Stt K C κ H0 F0 σ (upd H p o) F (setA s i B1) ∧ Lk H (upd H p o) := by
  have nf : ∀ ob u, H p ≠ some (.frz ob u) := fun ob u z => by rw [hp] at z; cases z; exact no _ _ rfl
  exact ⟨T.own e ho hv hF nf hb x, fun _ _ _ => upd_frz nf⟩
theorem go_ix (i : Nat) : GOh X.K C κ (gSub (tVar i) (tD X.K C κ φb) rSetL) (gIx i φb) := ⟨fun {H0 F0 σ H F s s' v d} Q l T x h k => by
  obtain ⟨⟨A1, e0⟩, kk, s1, xs, j, h1, h2, h3, rfl⟩ := gIx_some h
  obtain ⟨v0, hv0, _⟩ := T.slot i _ e0
  refine ⟨v0, hv0, H0, F0, F, s, T, _, s1, h1, fun v1 H1 F1 l1 T1 p1 x1 => ?_⟩
  obtain ⟨v2, hv2, pp, vs, rfl, f, hp, xx⟩ := T1.slot i _ h2
  rw [hv0] at hv2
  cases hv2
  refine ⟨pp, vs, kk, j, rfl, x1.intI, hp, by rw [xx.length]; exact h3, ?_⟩
  obtain ⟨T2, lk⟩ := own_set (o := .lst (vs.set j v)) (B1 := .own (xs.set j d)) T1 h2 rfl hv0 f hp (fun _ _ z => nomatch z) rfl ⟨pp, _, rfl, f, upd_same, xx.set (x.mono p1.fz) j⟩
  refine k σ _ _ (fun aa o e => ?_) T2 p1.fz (Lk.trans p1.lk lk)
  by_cases z : aa = pp
  · subst z
    rw [upd_same] at e
    cases e
    show (vs.set j v).length ≤ sizeLine
    rw [List.length_set]
    exact l1 aa _ hp
  · rw [upd_ne z] at e
    exact l1 aa o e⟩
/-- d[k] = v by values -/
def rSetD : V → V → V → Hp → (Hp → Prop) → Prop := fun o i v H Q => ∃ p H', o = .ref p ∧ DPut H p i v H' ∧ Q H'
theorem set_dict (hu : X.A.units + 1 < cLine) : PSet X rSetD := by
  intro pins s σ H o i v ov iv u Q I ro ri rv h
  obtain ⟨p, H', rfl, dp, q⟩ := h
  cases ro
  exact d_setItem hu I dp ri rv fun s' I' => ⟨H', I', q⟩
theorem gDx_some {i : Nat} {b : M D} {x : D} {s s' : S} (h : gDx i b x s = some s') : (∃ A1, getA s i = some A1) ∧ ∃ k s1 xs, b s = some (.str k, s1) ∧ getA s1 i = some (.dct xs) ∧ xs.length < 1000 ∧ s' = setA s1 i (.dct (dPut xs k x)) := by
  unfold gDx at h
  cases q : mIf (hasA i) b s with
  | none => rw [q] at h; cases h
  | some p =>
    obtain ⟨d, s1⟩ := p
    obtain ⟨h1, h2⟩ := mIf_ok q
    refine ⟨hasA_ok h1, ?_⟩
    rw [q] at h
    cases d <;> try (cases h; done)
    rename_i k
    dsimp only at h
    cases q2 : getA s1 i with
    | none => rw [q2] at h; cases h
    | some A1 =>
      rw [q2] at h
      cases A1 <;> try (cases h; done)
      rename_i xs
      dsimp only at h
      by_cases hc : xs.length < 1000
      · rw [if_pos hc] at h
        cases h
        exact ⟨k, s1, xs, h2, q2, hc, rfl⟩
      · rw [if_neg hc] at h
        cases h
theorem len_upd {H : Hp} {p : Addr} {o : HO} (l : LenOk H) (h : LenO o) : LenOk (upd H p o) := fun aa u e => by
  by_cases z : aa = p
  · subst z
    rw [upd_same] at e
    cases e
    exact h
  · rw [upd_ne z] at e
    exact l aa u e
theorem go_dx (i : Nat) : GOh X.K C κ (gSub (tVar i) (tD X.K C κ φb) rSetD) (gDx i φb) := ⟨fun {H0 F0 σ H F s s' v d} Q l T x h k => by
  obtain ⟨⟨A1, e0⟩, kk, s1, xs, h1, h2, h3, rfl⟩ := gDx_some h
  obtain ⟨v0, hv0, _⟩ := T.slot i _ e0
  refine ⟨v0, hv0, H0, F0, F, s, T, _, s1, h1, fun v1 H1 F1 l1 T1 p1 x1 => ?_⟩
  obtain ⟨v2, hv2, pp, vs, rfl, f, hp, n, xx⟩ := T1.slot i _ h2
  rw [hv0] at hv2
  cases hv2
  obtain rfl := x1.strI
  have hlen : vs.length < 1000 := by rw [xx.length]; exact h3
  obtain ⟨T2, lk⟩ := own_set (o := .dK (putK vs (Sum.inr kk) v)) (B1 := .dct (dPut xs kk d)) T1 h2 rfl hv0 f hp (fun _ _ z => nomatch z) rfl ⟨pp, _, rfl, f, upd_same, n.put, xx.put n (x.mono p1.fz)⟩
  refine ⟨pp, _, rfl, DPut.k (k := Sum.inr kk) hp (small1000 (Nat.le_of_lt hlen)), k σ _ _ (len_upd l1 ?_) T2 p1.fz (Lk.trans p1.lk lk)⟩
  have := length_putK vs (Sum.inr kk : Key) v
  exact line1000 (by omega)⟩
theorem gKg_some {i k : Nat} {x : D} {s s' : S} (h : gKg i k x s = some s') : getA s i = some .brw ∧ ∃ a b c n, s.g = .keg a b c ∧ x = .int n ∧ ((k = 0 ∧ s' = { s with g := .keg n b c }) ∨ (k = 1 ∧ s' = { s with g := .keg a n c }) ∨ (k = 2 ∧ s' = { s with g := .keg a b n })) := by
  unfold gKg at h
  split at h
  · rename_i a b c n q1 q2
    refine ⟨q1, a, b, c, n, q2, rfl, ?_⟩
    split at h
    · cases h; exact .inl ⟨rfl, rfl⟩
    · cases h; exact .inr (.inl ⟨rfl, rfl⟩)
    · cases h; exact .inr (.inr ⟨rfl, rfl⟩)
    · cases h
  · cases h
theorem go_kg (i : Nat) (j : Nat) : GOh X.K C κ (gSub (tVar i) (tC (.int (j : Int))) rSetL) (gKg i j) := ⟨fun {H0 F0 σ H F s s' v d} Q l T x h k => by
  obtain ⟨e0, a1, b1, c1, n, hg, rfl, hs⟩ := gKg_some h
  obtain ⟨v0, hv0, kk, hk, rfl⟩ := T.slot i _ e0
  obtain ⟨z1, z2, z3⟩ := T.kg kk hk
  rw [hg] at z3
  have z3 : H kk = some (.lst [.int a1, .int b1, .int c1]) := z3
  have nf : ∀ ob u, H kk ≠ some (.frz ob u) := fun _ _ z => by rw [z3] at z; cases z
  obtain rfl := x.intI
  refine ⟨_, hv0, kk, _, (j : Int), j, rfl, rfl, z3, ?_, ?_⟩
  · rcases hs with ⟨rfl, _⟩ | ⟨rfl, _⟩ | ⟨rfl, _⟩ <;> rfl
  · rcases hs with ⟨rfl, rfl⟩ | ⟨rfl, rfl⟩ | ⟨rfl, rfl⟩
    · exact k σ _ _ (len_upd l (show 3 ≤ sizeLine from line1000 (by decide))) (T.brw hk nf (show Brw X.K C F _ kk (.keg n b1 c1) from upd_same)) (Same.refl F) fun _ _ _ => upd_frz nf
    · exact k σ _ _ (len_upd l (show 3 ≤ sizeLine from line1000 (by decide))) (T.brw hk nf (show Brw X.K C F _ kk (.keg a1 n c1) from upd_same)) (Same.refl F) fun _ _ _ => upd_frz nf
    · exact k σ _ _ (len_upd l (show 3 ≤ sizeLine from line1000 (by decide))) (T.brw hk nf (show Brw X.K C F _ kk (.keg a1 b1 n) from upd_same)) (Same.refl F) fun _ _ _ => upd_frz nf⟩
/-- the borrowed list, read -/
theorem pd_kg (i : Nat) (j : Nat) {x : Str} {p p2 : Pos} {kc : Nat} (hv : PE X (.Name x p) (tVar i)) (hs : PlainIx (.Constant (.int (j : Int)) kc p2) := by exact fun _ _ => rfl) : PE X (.Subscript (.Name x p) (.Constant (.int (j : Int)) kc p2) pos) (tD X.K C κ (xKg i j)) := pd_mk (pe_ix ix_list hv pe_int hs) fun {H0 F0 σ H F s d s'} Q l T q k => by
  unfold xKg at q
  split at q
  · rename_i a1 b1 c1 e0 hg
    obtain ⟨v0, hv0, kk, hk, rfl⟩ := T.slot i _ e0
    obtain ⟨z1, z2, z3⟩ := T.kg kk hk
    rw [hg] at z3
    have z3 : H kk = some (.lst [.int a1, .int b1, .int c1]) := z3
    split at q
    · cases q; exact ⟨_, hv0, kk, _, _, .int a1, rfl, rfl, .inl (.inl z3), rfl, k.here T (.int _)⟩
    · cases q; exact ⟨_, hv0, kk, _, _, .int b1, rfl, rfl, .inl (.inl z3), rfl, k.here T (.int _)⟩
    · cases q; exact ⟨_, hv0, kk, _, _, .int c1, rfl, rfl, .inl (.inl z3), rfl, k.here T (.int _)⟩
    · cases q
  · cases q
end
end Dl
end

/-! ## DRule9 -/
section
set_option Elab.async false
set_option linter.all false
set_option maxRecDepth 100000
set_option maxHeartbeats 2000000
/-! The data layer: more statements, defs. -/
namespace Dl
open PySem PySem.Spec PyProof.Rows L2
/-- xs.append(e) -/
def vApp (i : Nat) (b : M D) : M D := mIf (hasL i) <| mBind b fun d s => match getA s i with
  | some (.own xs) => if xs.length < 1000 then some (.non, setA s i (.own (xs ++ [d]))) else none
  | _ => none
theorem vApp_some {i : Nat} {b : M D} {s s' : S} {d : D} (h : vApp i b s = some (d, s')) : hasL i s = true ∧ d = .non ∧ ∃ x s1 xs, b s = some (x, s1) ∧ getA s1 i = some (.own xs) ∧ xs.length < 1000 ∧ s' = setA s1 i (.own (xs ++ [x])) := by
  obtain ⟨h1, h2⟩ := mIf_ok h
  obtain ⟨x, s1, h3, h4⟩ := mBind_some h2
  split at h4
  · rename_i xs q
    by_cases hc : xs.length < 1000
    · rw [if_pos hc] at h4
      cases h4
      exact ⟨h1, rfl, x, s1, xs, h3, q, hc, rfl⟩
    · rw [if_neg hc] at h4
      cases h4
  · cases h4
section
variable {X : Cx} {C : Addr} {κ : Option Addr} {e a b c tgE iter : Expr} {pos : Pos} {φ φa φb φc : M D} {φs : List (M D)} {es : List Expr} {m m1 m2 : M R} {τ : M Bool} {st : Stmt} {rest sts sts2 body : List Stmt} {ψ ψ1 ψ2 : P} {g : TG} {t : T} {src : M (List D)}
theorem pd_append (i : Nat) {y : Str} {p2 apos : Pos} (hv : PE X (.Name y p2) (tVar i)) (hb : PE X b (tD X.K C κ φb))
    (hbase : attributeBase (.Name y p2) "append" X.env (eval (.Name y p2) X.env) = eval (.Name y p2) X.env := by rfl)
    (hfew : ((backTo pos (starEach (b :: []) X.env)).all (fun x => !x.1) && (backToKw pos (keywordEach [] X.env)).all (fun x => x.1.isSome)
      && decide ((b :: ([] : List Expr)).length + ([] : List Keyword).length + (if ([] : List Keyword).isEmpty then 0 else 1) < 30)) = true := by rfl)
    (hline : (apos.endLine == pos.line) = true := by rfl) (hs : starEach (b :: []) X.env = (false, eval b X.env) :: starEach [] X.env := by rfl) (hplain : (backTo pos (starEach [] X.env)).any (·.1) = false := by rfl) :
    PE X (.Call (.Attribute (.Name y p2) "append" apos) [b] [] pos) (tD X.K C κ (vApp i φb)) :=
  pd_mk (pe_bm PySem.F.plainAttrs_list PySem.F.slot_list_append PySem.F.type_list_append mt_append hv (pa_cons hb pa_nil hs) hbase hfew hline hs hplain) fun {H0 F0 σ H F s d s'} Q l T q k => by
  obtain ⟨h1, rfl, x, s1, xs, h2, h3, h5, rfl⟩ := vApp_some q
  obtain ⟨v, hv1, ty⟩ := own_tyV T h1
  refine ⟨v, hv1, ty, H0, F0, F, s, T, _, s1, h2, fun v1 H1 F1 l1 T1 p1 x1 => ?_⟩
  obtain ⟨v2, hv2, pp, vs, rfl, f, hp, xx⟩ := T1.slot i _ h3
  rw [hv1] at hv2
  cases hv2
  refine ⟨pp, vs, v1, rfl, rfl, hp, by rw [xx.length]; have := line1000 (show 1000 ≤ 1000 from Nat.le_refl _); omega, fun l2 => ?_⟩
  have T2 := T1.own (o := .lst (vs ++ [v1])) (b := .own (xs ++ [x])) h3 rfl hv1 f (fun _ _ z => by rw [hp] at z; cases z) rfl ⟨pp, _, rfl, f, upd_same, xx.append (.one x1)⟩
  refine k _ _ _ l2 T2 (p1.trans ⟨Same.refl _, fun bb o e1 e2 e3 e4 => ?_, fun bb u i2 a2 e1 o1 q1 => ?_, fun _ => upd_none, fun _ _ _ => upd_frz fun _ _ z => by rw [hp] at z; cases z⟩) .non
  · have nb : bb ≠ pp := fun z => e4 i _ h3 rfl (by rw [z]; exact hv1)
    rw [upd_ne nb]
    exact ⟨e1, e2⟩
  · rw [getA_set (getA_lt h3)] at e1
    by_cases hi : i2 = i
    · subst hi
      exact u i2 _ h3 rfl q1
    · rw [if_neg hi] at e1
      exact u i2 a2 e1 o1 q1

/-! ### a comprehension kept in a local on one line -/
theorem ps_setLcS {i : Nat} {y : Str} {py : Pos} {elt : Expr} {ifs : List Expr} {scope : Scope} {own : List (Str × Nat)} {spos : Pos} {tg : T} {ws : List Nat} (hc : X.calm = true) (hN : X.N.Nodup) (hy : X.N[i]? = some y) (hyl : X.env.scope.names.lookup y = some .local)
    (hsw : swapsWith (.ListComp elt [⟨tgE, iter, ifs, 0⟩] scope pos) (some (.Name y py)) spos.line X.env = pure true) (hi : PI X tgE iter (tI X.K C κ src)) (ok : BlkOk X.N X.env.scope scope own) (hg : GOk X.K C g tg ws) (hw : ∀ i ∈ ws, i ∈ own.map (·.2))
    (hgt : ∀ (s : Shared) (H : Hp) (Ca : Addr) (cl : List (Str × Addr)) (fp : List Addr), PG (X.blk s H scope (compEnvC scope cl Ca X.env) fp) tgE g)
    (ht : ∀ (s : Shared) (H : Hp) (Ca : Addr) (cl : List (Str × Addr)) (fp : List Addr), PTs (X.blk s H scope (compEnvC scope cl Ca X.env) fp) ifs (tT X.K C κ τ))
    (he : ∀ (s : Shared) (H : Hp) (Ca : Addr) (cl : List (Str × Addr)) (fp : List Addr), PE (X.blk s H scope (compEnvC scope cl Ca X.env) fp) elt (tD X.K C κ φ)) (hs : ∀ x, foldedSetIterable iter X.env x = pure x := by intro _; rfl) :
    PS X (.Assign [.Name y py] (.ListComp elt [⟨tgE, iter, ifs, 0⟩] scope pos) spos) (tS X.K C κ (sSet i (rComp src tg τ φ (own.map (·.2))))) := ps_mk (ps_setLc hc hN hy hyl hsw hi ok hgt ht he hs) fun {H0 F0 σ H F s} Dn l T k => by
  unfold sSet at k
  cases q : rComp src tg τ φ (own.map (·.2)) s with
  | none => rw [q] at k; exact k.elim
  | some p =>
    obtain ⟨r, s1⟩ := p
    rw [q] at k
    dsimp only at k
    by_cases hl : i < s1.e.length
    · rw [if_pos hl] at k
      exact lc_read hg hw (Q := fun v H' => Dn.nx (σ.set i (some v)) H') T q fun v H' F' l1 T1 p1 xx => k _ H' F' l1 (T1.putR hl xx) p1.fz p1.lk
    · rw [if_neg hl] at k
      exact k.elim

/-! ### two names at once -/
def ownR : R → Bool
  | .d _ => false
  | _ => true
theorem Unow.putR {σ : St} {s : S} {i : Nat} {b : Addr} {v : V} {r : R} (hi : i < s.e.length) (h : Unow σ s b) (ne : ownR r = true → v ≠ .ref b) : Unow (σ.set i (some v)) (Dl.putR s i r) b := fun j a e o q => by
  have key : ∀ A1, getA (setA s i A1) j = some a → (isOwn A1 = true → v ≠ .ref b) → False := fun A1 e n => by
    rw [getA_set hi] at e
    by_cases hj : j = i
    · rw [if_pos hj] at e
      cases e
      subst hj
      by_cases hl : j < σ.length
      · rw [List.getElem?_set_self hl] at q
        cases q
        exact n o rfl
      · rw [List.getElem?_eq_none (by simpa using hl)] at q
        cases q
    · rw [if_neg hj] at e
      rw [List.getElem?_set_ne (fun z => hj z.symm)] at q
      exact h j a e o q
  cases r with
  | d x => exact key _ e fun z => nomatch z
  | fr xs => exact key _ e fun _ => ne rfl
  | fd xs => exact key _ e fun _ => ne rfl
theorem putR_len (s : S) (i : Nat) (r : R) : (putR s i r).e.length = s.e.length := by cases r <;> exact setA_len _ _ _
theorem RV.old {K : PySem.W.Frag} {H0 H1 Hs F1 : Hp} {σ : St} {s1 : S} {v : V} : ∀ {r : R}, RV K C H0 Hs σ H1 F1 s1 v r → ownR r = true → ∃ p o, v = .ref p ∧ H1 p = some o
  | .d _, _, h => nomatch h
  | .fr _, ⟨p, vs, e, _, h, _⟩, _ => ⟨p, _, e, h⟩
  | .fd _, ⟨p, vs, e, _, h, _⟩, _ => ⟨p, _, e, h⟩
/-- both stored -/
theorem Stt.put2 {K : PySem.W.Frag} {H0 F0 Hs H1 F1 H F : Hp} {σ : St} {s1 s : S} {i j : Nat} {v w : V} {r q : R} (T : Stt K C κ H0 F0 σ H F s) (hi : i < s.e.length) (hj : j < s.e.length) (x1 : RV K C H0 Hs σ H1 F1 s1 v r) (x : RV K C H0 Hs σ H F s v r) (y : RV K C H0 H1 σ H F s w q) :
    Stt K C κ H0 F0 ((σ.set i (some v)).set j (some w)) H F (Dl.putR (Dl.putR s i r) j q) := by
  refine (T.putR hi x).putR (Hs := H1) (by rw [putR_len]; exact hj) ?_
  have hne : ∀ p, H1 p = none → ownR r = true → v ≠ .ref p := fun p hp ho z => by
    obtain ⟨p2, o, e, h⟩ := x1.old ho
    rw [z] at e
    cases e
    rw [hp] at h
    cases h
  cases q with
  | d z => exact y
  | fr ds =>
    obtain ⟨p, vs, rfl, f, h, z, h0, u, n⟩ := y
    exact ⟨p, vs, rfl, f, h, z, h0, u.putR hi (hne p n), n⟩
  | fd ds =>
    obtain ⟨p, vs, rfl, f, h, m, z, h0, u, n⟩ := y
    exact ⟨p, vs, rfl, f, h, m, z, h0, u.putR hi (hne p n), n⟩
theorem sPar_ok {K : PySem.W.Frag} {H0 F0 H F : Hp} {Dn : Ends} {s : S} {i j : Nat} (k : PostS K C κ H0 F0 H F Dn (sPar i j m1 m2 s)) :
    ∃ r s1 q s2, m1 s = some (r, s1) ∧ m2 s1 = some (q, s2) ∧ i < s2.e.length ∧ j < s2.e.length ∧ i ≠ j ∧ PostS K C κ H0 F0 H F Dn (some (.nx (putR (putR s2 i r) j q))) := by
  unfold sPar at k
  cases q1 : m1 s with
  | none => rw [q1] at k; exact k.elim
  | some p =>
    obtain ⟨r, s1⟩ := p
    rw [q1] at k
    dsimp only at k
    cases q2 : m2 s1 with
    | none => rw [q2] at k; exact k.elim
    | some p =>
      obtain ⟨q, s2⟩ := p
      rw [q2] at k
      dsimp only at k
      by_cases hc : i < s2.e.length ∧ j < s2.e.length ∧ i ≠ j
      · rw [if_pos hc] at k
        exact ⟨r, s1, q, s2, rfl, q2, hc.1, hc.2.1, hc.2.2, k⟩
      · rw [if_neg hc] at k
        exact k.elim
/-- a, b = x, y of two locals -/
theorem ps_parS {i j : Nat} {x y : Str} {px py pt : Pos} {kt k2 pt2} (hc : X.calm = true) (hN : X.N.Nodup) (hi : X.N[i]? = some x) (hj : X.N[j]? = some y) (hij : i ≠ j)
    (hx : X.env.scope.names.lookup x = some .local) (hy : X.env.scope.names.lookup y = some .local) (ha : PE X a (tR X.K C κ m1)) (hb : PE X b (tR X.K C κ m2))
    (hw : swappedStores [.Tuple [.Name x px, .Name y py] kt pt] (.Tuple [a, b] k2 pt2) X.env = pure (some [x, y]))
    (hs : swapsWithSole [.Tuple [.Name x px, .Name y py] kt pt] (.Tuple [a, b] k2 pt2) pos.line X.env = pure false := by rfl)
    (hst : starEach [a, b] X.env = (false, eval a X.env) :: starEach [b] X.env := by rfl) (hst2 : starEach [b] X.env = (false, eval b X.env) :: starEach [] X.env := by rfl) :
    PS X (.Assign [.Tuple [.Name x px, .Name y py] kt pt] (.Tuple [a, b] k2 pt2) pos) (tS X.K C κ (sPar i j m1 m2)) := ps_mk (ps_par hc hN hi hj hij hx hy (pa_cons ha (pa_cons hb pa_nil hst2) hst) hw hs) fun {H0 F0 σ H F s} D l T k => by
  obtain ⟨r, s1, q, s2, q1, q2, l1, l2, ne, k⟩ := sPar_ok k
  refine ⟨H0, F0, F, s, T, r, s1, q1, fun v H1 F1 ln1 T1 p1 x1 => ⟨H0, F0, F1, s1, T1, q, s2, q2, fun w H2 F2 ln2 T2 p2 x2 => ⟨v, w, rfl, fun _ => ?_⟩⟩⟩
  exact k _ H2 F2 ln2 (T2.put2 l1 l2 x1 (x1.keep T1 p2) x2) ((p1.trans p2).fz) ((p1.trans p2).lk)
/-- the same where a name is shared with a block: the pair is made -/
theorem ps_parT {i j : Nat} {x y : Str} {px py pt : Pos} {kt k2 pt2} (hc : X.calm = true) (hN : X.N.Nodup) (hi : X.N[i]? = some x) (hj : X.N[j]? = some y) (hij : i ≠ j) (hx : Loc X.env.scope x) (hy : Loc X.env.scope y) (ha : PE X a (tR X.K C κ m1)) (hb : PE X b (tR X.K C κ m2))
    (hf : X.fn x = true ∨ X.env.scope.names.lookup x = some .local := by first | exact .inl rfl | exact .inr rfl | assumption) (hf2 : X.fn y = true ∨ X.env.scope.names.lookup y = some .local := by first | exact .inl rfl | exact .inr rfl | assumption)
    (hs : swapsWithSole [.Tuple [.Name x px, .Name y py] kt pt] (.Tuple [a, b] k2 pt2) pos.line X.env = pure false := by rfl) (hw : swappedStores [.Tuple [.Name x px, .Name y py] kt pt] (.Tuple [a, b] k2 pt2) X.env = pure none := by rfl)
    (h1 : (assignEach [.Tuple [.Name x px, .Name y py] kt pt] X.env).map (·.2) = [assign (.Tuple [.Name x px, .Name y py] kt pt) X.env] := by rfl)
    (hst : starEach [a, b] X.env = (false, eval a X.env) :: starEach [b] X.env := by rfl) (hst2 : starEach [b] X.env = (false, eval b X.env) :: starEach [] X.env := by rfl)
    (hn : (assignEach [.Name x px, .Name y py] X.env).length = 2 := by rfl) (hsx : (assignEach [.Name x px, .Name y py] X.env).findIdx? (·.1) = none := by rfl)
    (he1 : (assignEach [.Name x px, .Name y py] X.env).map (·.2) = assign (.Name x px) X.env :: (assignEach [.Name y py] X.env).map (·.2) := by rfl) (he2 : (assignEach [.Name y py] X.env).map (·.2) = assign (.Name y py) X.env :: (assignEach [] X.env).map (·.2) := by rfl) :
    PS X (.Assign [.Tuple [.Name x px, .Name y py] kt pt] (.Tuple [a, b] k2 pt2) pos) (tS X.K C κ (sPar i j m1 m2)) := ps_mk (ps_asg (pe_tup (pa_cons ha (pa_cons hb pa_nil hst2) hst)) (pg_tup hc (pgs_cons (pg_name hN hi hx hf) (pgs_cons (pg_name hN hj hy hf2) pgs_nil he2) he1) hn hsx) hs hw h1) fun {H0 F0 σ H F s} D l T k => by
  obtain ⟨r, s1, q, s2, q1, q2, l1, l2, ne, k⟩ := sPar_ok k
  refine ⟨H0, F0, F, s, T, r, s1, q1, fun v H1 F1 ln1 T1 p1 x1 => ⟨H0, F0, F1, s1, T1, q, s2, q2, fun w H2 F2 ln2 T2 p2 x2 => ⟨line1000 (show 2 ≤ 1000 by decide), fun p hp => ?_⟩⟩⟩
  refine ⟨p, [v, w], rfl, .inl (.inl upd_same), rfl, v, [w], rfl, w, [], rfl, rfl, fun l3 => ?_⟩
  have T3 := T2.new (o := .tup [v, w]) hp
  have p3 := Stp.new (κ := κ) (σ := σ) (F := F2) (s := s2) (o := .tup [v, w]) T2 hp
  have p13 := (p1.trans p2).trans p3
  exact k _ _ F2 l3 (T3.put2 l1 l2 x1 (x1.keep T1 (p2.trans p3)) (x2.keep T2 p3)) p13.fz p13.lk
/-- a, b, c = x, y, z of three locals -/
theorem ps_par3S {i j l : Nat} {x y z : Str} {px py pz pt : Pos} {kt k2 pt2} (hc : X.calm = true) (hN : X.N.Nodup) (hi : X.N[i]? = some x) (hj : X.N[j]? = some y) (hl : X.N[l]? = some z) (hij : i ≠ j) (hil : i ≠ l) (hjl : j ≠ l)
    (hx : X.env.scope.names.lookup x = some .local) (hy : X.env.scope.names.lookup y = some .local) (hz : X.env.scope.names.lookup z = some .local) (ha : PA X [a, b, c] (tL X.K C κ (mAll [φa, φb, φc])))
    (hw : swappedStores [.Tuple [.Name x px, .Name y py, .Name z pz] kt pt] (.Tuple [a, b, c] k2 pt2) X.env = pure (some [x, y, z]))
    (hs : swapsWithSole [.Tuple [.Name x px, .Name y py, .Name z pz] kt pt] (.Tuple [a, b, c] k2 pt2) pos.line X.env = pure false := by rfl) :
    PS X (.Assign [.Tuple [.Name x px, .Name y py, .Name z pz] kt pt] (.Tuple [a, b, c] k2 pt2) pos) (tS X.K C κ (sAsg (gTp [gNm i, gNm j, gNm l]) (xTup [φa, φb, φc]))) := ps_mk (ps_par3 hc hN hi hj hl hij hil hjl hx hy hz ha hw hs) fun {H0 F0 σ H F s} D ln T k => by
  unfold sAsg at k
  cases q : xTup [φa, φb, φc] s with
  | none => rw [q] at k; exact k.elim
  | some p =>
    obtain ⟨d, s1⟩ := p
    rw [q] at k
    dsimp only at k
    obtain ⟨xs, s2, q1, q2⟩ := mBind_some q
    by_cases hc : xs.length ≤ 1000
    · rw [if_pos hc] at q2
      obtain ⟨rfl, q3⟩ := mRet_some q2
      subst q3
      refine ⟨H0, F0, F, s, T, xs, s1, q1, fun vs H1 F1 l1 T1 p1 xx => ?_⟩
      have k : PostS X.K C κ H0 F0 H F D (match gAll [gNm i, gNm j, gNm l] xs s1 with | some s2 => some (.nx s2) | none => none) := k
      cases e : gAll [gNm i, gNm j, gNm l] xs s1 with
      | none => rw [e] at k; exact k.elim
      | some s3 =>
        rw [e] at k
        have h3 : xs.length = 3 := (gAll_len e).symm
        have go : GsOk X.K C (gCons (gName i) (gCons (gName j) (gCons (gName l) gNil))) [gNm i, gNm j, gNm l] _ := gs_cons (go_name i) (gs_cons (go_name j) (gs_cons (go_name l) gs_nil))
        obtain ⟨u, r1, e1, v, r2, e2, w, r3, e3, e4, z⟩ := go.ok (fun σ' H' => LenOk H' → D.nx σ' H') T1 xx e fun σ' T' _ _ _ _ => k σ' H1 F1 l1 T' p1.fz p1.lk
        subst e4; subst e3; subst e2; subst e1
        exact ⟨u, v, w, rfl, z⟩
    · rw [if_neg hc] at q2
      cases q2

/-! ### loops -/
theorem ps_forS (hp : PassesOwn (model X.prog X.w) X.A X.env X.xe) (hc : X.calm = true) (hi : PI X tgE iter (tI X.K C κ src)) (hg : PG X tgE g) (go : GOh X.K C κ g t) (hb : PSs X body (tS X.K C κ ψ))
    (hs : ∀ x, foldedSetIterable iter X.env x = pure x := by intro _; rfl) : PS X (.For tgE iter body [] pos) (tS X.K C κ (sFor src t ψ)) := ps_mk (ps_for hp hc hi hg hb hs) fun {H0 F0 σ H F s} D l T k => by
  unfold sFor at k
  cases q : src s with
  | none => rw [q] at k; exact k.elim
  | some p =>
    obtain ⟨xs, s1⟩ := p
    rw [q] at k
    dsimp only at k
    refine ⟨H0, F0, F, s, T, xs, s1, q, fun J H1 F1 l1 T1 p1 wd => ?_⟩
    obtain ⟨hlen, gg, Y, wk, hG, hY⟩ := wd
    refine for_it wk (fun i σi Hi => ∃ Fi si, LenOk Hi ∧ Stt X.K C κ H0 F0 σi Hi Fi si ∧ Same F1 Fi ∧ Lk H1 Hi ∧ PostS X.K C κ H0 F0 Hi Fi D (forLoop t ψ (xs.drop i) si)) ⟨F1, s1, l1, T1, Same.refl _, Lk.refl _, PostS.pull k p1.fz p1.lk⟩ ?_ ?_ ?_
    · rintro i σi Hi hi ⟨Fi, si, li, Ti, smi, lki, _⟩
      exact hG Hi Fi smi Ti.sub lki
    · rintro i x σi Hi H' hi ⟨Fi, si, li, Ti, smi, lki, ki⟩ y
      obtain ⟨dd, hd, y⟩ := hY i Hi x H' Fi smi Ti.sub hi y
      have lx : LenOk H' := by
        rcases y with ⟨rfl, _⟩ | ⟨Tp, a1, b1, _, _, _, _, rfl, _, _, _⟩
        · exact li
        · exact len_upd li (show 2 ≤ sizeLine from line1000 (by decide))
      obtain ⟨Fx, Tx, px, xx⟩ := turn_item (T1 := 0) Ti y
      have ed : xs.drop i = dd :: xs.drop (i + 1) := by
        obtain ⟨hh, e⟩ := List.getElem?_eq_some_iff.mp hd
        rw [List.drop_eq_getElem_cons hh, e]
      rw [ed] at ki
      have ki : PostS X.K C κ H0 F0 Hi Fi D (match t dd si with | none => none | some s1 => match ψ s1 with | some (.nx s2) => forLoop t ψ (xs.drop (i + 1)) s2 | some (.rt d s2) => some (.rt d s2) | none => none) := ki
      cases e1 : t dd si with
      | none => rw [e1] at ki; exact ki.elim
      | some sa =>
        rw [e1] at ki
        dsimp only at ki
        refine go.ok _ lx Tx xx e1 fun σ2 H2 F2 l2 T2 sm2 lk2 => ⟨H0, F0, F2, sa, T2, ?_⟩
        have smT := (smi.trans px.fz).trans sm2
        have lkT := Lk.trans (Lk.trans lki px.lk) lk2
        have ki := PostS.pull ki (px.fz.trans sm2) (Lk.trans px.lk lk2)
        cases e2 : ψ sa with
        | none => rw [e2] at ki; exact ki.elim
        | some o =>
          rw [e2] at ki
          cases o with
          | nx sb => exact fun σ3 H3 F3 l3 T3 sm3 lk3 => ⟨F3, sb, l3, T3, smT.trans sm3, Lk.trans lkT lk3, PostS.pull ki sm3 lk3⟩
          | rt d sb => exact fun v σ3 H3 F3 l3 T3 sm3 lk3 x3 _ => ki v σ3 H3 F3 l3 T3 sm3 lk3 x3
    · rintro σn Hn ⟨Fn, sn, ln, Tn, smn, lkn, kn⟩ _
      rw [List.drop_length] at kn
      exact kn σn Hn Fn ln Tn (Same.refl _) (Lk.refl _)
theorem ps_whileS (hp : PassesOwn (model X.prog X.w) X.A X.env X.xe) (hc : PT X c (tT X.K C κ τ)) (hb : PSs X body (tS X.K C κ ψ)) : PS X (.While c body [] pos) (tS X.K C κ (sWhile τ ψ)) := ps_mk (ps_while hp hc hb) fun {H0 F0 σ H F s} D l T k => by
  cases q : sWhile τ ψ s with
  | none => rw [q] at k; exact k.elim
  | some o =>
    rw [q] at k
    obtain ⟨n, hn⟩ := sWhile_iff.mp q
    refine ⟨fun m σi Hi => ∃ Fi si, LenOk Hi ∧ Stt X.K C κ H0 F0 σi Hi Fi si ∧ whileN τ ψ m si = some o ∧ PostS X.K C κ H0 F0 Hi Fi D (some o), ⟨n, F, s, l, T, hn, k⟩, ?_⟩
    rintro m σi Hi ⟨Fi, si, li, Ti, hm, ki⟩
    cases m with
    | zero => cases (show (none : Option O) = some o from hm)
    | succ m =>
      unfold whileN at hm
      cases e1 : τ si with
      | none => rw [e1] at hm; cases hm
      | some p =>
        obtain ⟨w, sa⟩ := p
        rw [e1] at hm
        dsimp only at hm
        refine ⟨H0, F0, Fi, si, Ti, w, sa, e1, fun H1 F1 l1 T1 p1 => ?_⟩
        have k1 := PostS.pull ki p1.fz p1.lk
        cases w with
        | false =>
          rw [if_neg (by decide)] at hm
          cases hm
          exact iteF fun _ => k1 σi H1 F1 l1 T1 (Same.refl _) (Lk.refl _)
        | true =>
          rw [if_pos rfl] at hm
          refine iteT ⟨fun σ' H' => ∃ m', m' < m + 1 ∧ ∃ Fi si, LenOk H' ∧ Stt X.K C κ H0 F0 σ' H' Fi si ∧ whileN τ ψ m' si = some o ∧ PostS X.K C κ H0 F0 H' Fi D (some o), fun σ' H' z => z, H0, F0, F1, sa, T1, ?_⟩
          cases e2 : ψ sa with
          | none => rw [e2] at hm; cases hm
          | some o2 =>
            rw [e2] at hm
            cases o2 with
            | nx sb => exact fun σ3 H3 F3 l3 T3 sm3 lk3 => ⟨m, Nat.lt_succ_self m, F3, sb, l3, T3, hm, PostS.pull k1 sm3 lk3⟩
            | rt d sb =>
              cases hm
              exact fun v σ3 H3 F3 l3 T3 sm3 lk3 x3 _ => k1 v σ3 H3 F3 l3 T3 sm3 lk3 x3
end
end Dl
end

/-! ## DRule10 -/
section
set_option Elab.async false
set_option linter.all false
set_option maxRecDepth 100000
set_option maxHeartbeats 2000000
/-! The data layer: attributes, defs. -/
namespace Dl
open PySem PySem.Spec PyProof.Rows L2
section
variable {X : Cx} {C : Addr} {κ : Option Addr} {e a b c tgE iter : Expr} {pos : Pos} {φ φa φb φc : M D} {φs : List (M D)} {es : List Expr} {m m1 m2 : M R} {τ : M Bool} {st : Stmt} {rest sts sts2 body : List Stmt} {ψ ψ1 ψ2 : P} {g : TG} {t : T} {src : M (List D)}
theorem ps_fldS (i : Nat) {y f : Str} {p2 pos' : Pos} (cl : Cls X.K C) (na : NoAttr X.K C f) (hv : PE X (.Name y p2) (tVar i)) (he : PE X e (tD X.K C κ φ)) (hs : swapsWith e (some (.Attribute (.Name y p2) f pos')) pos.line X.env = pure false := by rfl) :
    PS X (.Assign [.Attribute (.Name y p2) f pos'] e pos) (tS X.K C κ (sFld i f φ)) := ps_mk (ps_fld hv he hs) fun {H0 F0 σ H F s} Dn l T k => by
  unfold sFld at k
  cases q : φ s with
  | none => rw [q] at k; exact k.elim
  | some p =>
    obtain ⟨d, s1⟩ := p
    rw [q] at k
    dsimp only at k
    split at k
    · rename_i fs q1 q2
      by_cases hl : fs.length < 100
      · rw [if_pos hl] at k
        refine ⟨H0, F0, F, s, T, d, s1, q, fun v H1 F1 l1 T1 p1 x1 => ?_⟩
        obtain ⟨w, hw, kk, hk, rfl⟩ := T1.slot i _ q1
        obtain ⟨z1, z2, z3⟩ := T1.kg kk hk
        rw [q2] at z3
        obtain ⟨dx, vs, e1, xx⟩ := z3
        refine ⟨_, hw, kk, C, dx, vs, rfl, e1, cl, na, by rw [xx.length]; omega, fun l2 => ?_⟩
        have nf : ∀ ob u, H1 kk ≠ some (.frz ob u) := fun _ _ z => by rw [e1] at z; cases z
        exact k σ _ _ l2 (T1.brw hk nf (g := .obj (dPut fs f d)) ⟨dx, _, upd_same, xx.put x1⟩) p1.fz (Lk.trans p1.lk fun _ _ _ => upd_frz nf)
      · rw [if_neg hl] at k
        exact k.elim
    · exact k.elim
end

/-! ### defs -/
abbrev Xc (P : Program) (w : World) (K : PySem.W.Frag) (mg : Str → Option Value) (base : Heap) (N : List Str) (qual : Str) (scope : Scope) (f : Addr) (cdv : Value) (A : Around) (outer : List Env) (s : Shared) (H : Hp) (E : XK) : Cx := (cxOf CX0 P w K mg base N qual scope f cdv A outer s H E).nox
theorem owns0 {P : Program} {w : World} {K : PySem.W.Frag} {mg : Str → Option Value} {base : Heap} {N : List Str} {qual : Str} {scope : Scope} {f : Addr} {cdv : Value} {A : Around} {outer : List Env} {s : Shared} {H : Hp} {E : XK} :
    PassesOwn (model (Xc P w K mg base N qual scope f cdv A outer s H E).prog (Xc P w K mg base N qual scope f cdv A outer s H E).w) (Xc P w K mg base N qual scope f cdv A outer s H E).A (Xc P w K mg base N qual scope f cdv A outer s H E).env (Xc P w K mg base N qual scope f cdv A outer s H E).xe := fun _ _ z => z.elim
section
variable {K : PySem.W.Frag} {C : Addr} {κ : Option Addr} {H0 F0 H F : Hp} {D : Ends}
theorem getA_start {n i : Nat} {ds : List Dl.D} {g : G} {a : A} (h : getA ⟨start n ds, g⟩ i = some a) : ∃ d, ds[i]? = some d ∧ a = .d d := by
  unfold getA start at h
  by_cases hi : i < ds.length
  · rw [List.getElem?_append_left (by simpa using hi), List.getElem?_map] at h
    cases q : ds[i]? with
    | none => rw [q] at h; cases h
    | some d =>
      rw [q] at h
      cases h
      exact ⟨d, rfl, rfl⟩
  · rw [List.getElem?_append_right (by simpa using hi)] at h
    cases q : (List.replicate (n - ds.length) (none : Option A))[i - (ds.map fun d => some (A.d d)).length]? with
    | none => rw [q] at h; cases h
    | some u =>
      have := List.eq_of_mem_replicate (List.mem_of_getElem? q)
      subst this
      rw [q] at h
      cases h
theorem stt_start {N : List Str} {vs : List V} {ds : List Dl.D} (hs : Sub F H) (x : DPs K C F vs ds) : Stt K C none H F (L2.start N vs) H F ⟨start N.length ds, .no⟩ := by
  refine ⟨hs, fun _ _ h _ _ => h, Same.refl F, fun _ _ h => .inl h, ?_, fun i a h => ?_, fun i j a b v e1 o1 => ?_, fun i a p e o => ?_, fun k z => (nomatch z), fun _ _ _ h => h⟩
  · simp [start, L2.start, x.length]
  · obtain ⟨d, hd, rfl⟩ := getA_start h
    obtain ⟨v, hv, q⟩ := x.get hd
    refine ⟨v, ?_, q⟩
    unfold L2.start
    rw [List.getElem?_append_left (by rw [List.length_map]; exact (List.getElem?_eq_some_iff.mp hv).1), List.getElem?_map, hv]
    rfl
  · obtain ⟨d, hd, rfl⟩ := getA_start e1
    cases o1
  · obtain ⟨d, hd, rfl⟩ := getA_start e
    cases o
theorem stt_startG {x : Str} {N : List Str} {k : Addr} {vs : List V} {ds : List Dl.D} {g : G} (hs : Sub F H) (nk : F k = none) (hb : Brw K C F H k g) (xx : DPs K C F vs ds) : Stt K C (some k) H F (L2.start (x :: N) (.ref k :: vs)) H F ⟨some .brw :: start N.length ds, g⟩ := by
  have e0 : ∀ {i : Nat} {a : A}, getA ⟨some .brw :: start N.length ds, g⟩ i = some a → (i = 0 ∧ a = .brw) ∨ ∃ j d, i = j + 1 ∧ ds[j]? = some d ∧ a = .d d := fun {i a} h => by
    cases i with
    | zero =>
      cases h
      exact .inl ⟨rfl, rfl⟩
    | succ j =>
      obtain ⟨d, hd, e⟩ := getA_start (g := g) (show getA ⟨start N.length ds, g⟩ j = some a from h)
      exact .inr ⟨j, d, rfl, hd, e⟩
  refine ⟨hs, fun _ _ h _ _ => h, Same.refl F, fun _ _ h => .inl h, ?_, fun i a h => ?_, fun i j a b v e1 o1 => ?_, fun i a p e o => ?_, fun k' z => ?_, fun _ _ _ h => h⟩
  · simp [start, L2.start, xx.length]
  · rcases e0 h with ⟨rfl, rfl⟩ | ⟨j, d, rfl, hd, rfl⟩
    · exact ⟨.ref k, rfl, k, rfl, rfl⟩
    · obtain ⟨v, hv, q⟩ := xx.get hd
      refine ⟨v, ?_, q⟩
      unfold L2.start
      rw [List.getElem?_append_left (by rw [List.length_map, List.length_cons]; exact Nat.succ_lt_succ (List.getElem?_eq_some_iff.mp hv).1), List.getElem?_map, List.getElem?_cons_succ, hv]
      rfl
  · rcases e0 e1 with ⟨rfl, rfl⟩ | ⟨j, d, rfl, hd, rfl⟩ <;> cases o1
  · rcases e0 e with ⟨rfl, rfl⟩ | ⟨j, d, rfl, hd, rfl⟩ <;> cases o
  · cases z
    exact ⟨nk, hb.some, hb⟩
theorem Stt.frm {σ : St} {s : S} (T : Stt K C κ H0 F0 σ H F s) : Frm κ H0 F0 H F := ⟨T.sub, T.fz, T.fr, T.nw, T.lk⟩
end
theorem fn_P {P : Program} {w : World} {K : PySem.W.Frag} {mg : Str → Option Value} {base : Heap} {x qual : Str} {params : Arguments} {body : List Stmt} {scope : Scope} {f C : Addr} {fd : FuncData} {N ps : List Str} {n j k : Nat} {ψ : Dl.P} (F : FunD K x qual params body scope [] [] f fd) (S : FnScope N ps scope) (hn : N.length = n) (hj : ps.length = j)
    (hbody : ∀ (cdv : Value) (A : Around) (outer : List Env) (s : Shared) (H : Hp) (E : XK), Room k (A.deeper (envOfC qual scope s.heap.objs.size f cdv)) → PSs (Xc P w K mg base N qual scope f cdv A outer s H E) body (tS K C none ψ)) :
    FnOk P w K mg base CX0 (k + 1) f fd ps (spP K C (runP n j ψ)) := by
  subst hn
  subst hj
  have ln : ∀ ds d, runP N.length ps.length ψ ds = some d → ds.length = ps.length ∧ ∃ s', fin (ψ ⟨start N.length ds, .no⟩) = some (d, s') := fun ds d h => by
    unfold runP at h
    by_cases hc : ds.length = ps.length
    · rw [if_pos hc] at h
      refine ⟨hc, ?_⟩
      cases q : fin (ψ ⟨start N.length ds, .no⟩) with
      | none => rw [q] at h; cases h
      | some p =>
        obtain ⟨d1, s1⟩ := p
        rw [q] at h
        cases h
        exact ⟨s1, rfl⟩
    · rw [if_neg hc] at h
      cases h
  refine F.ok S (fun vs H Q E h => ?_) (fun cdv A outer s H vs Q E hr h => ⟨_, PSs.nox (hbody cdv A outer s H E hr), ?_⟩)
  · obtain ⟨F0, ds, d, _, x, h, _⟩ := h
    rw [x.length]
    exact (ln _ _ h).1
  · obtain ⟨F0, ds, d, hs, x, h, k⟩ := h
    obtain ⟨_, s', h⟩ := ln _ _ h
    refine ⟨H, F0, F0, _, stt_start hs x, ?_⟩
    revert h
    cases ψ ⟨start N.length ds, .no⟩ with
    | none => intro h; cases h
    | some o =>
      cases o with
      | nx s1 =>
        intro h
        cases h
        exact fun σ' H' F' l T sm lk => k .non H' F' T.frm .non
      | rt d1 s1 =>
        intro h
        cases h
        exact fun v σ' H' F' l T sm lk x => k v H' F' T.frm x
theorem fn_G {P : Program} {w : World} {K : PySem.W.Frag} {mg : Str → Option Value} {base : Heap} {x qual : Str} {params : Arguments} {body : List Stmt} {scope : Scope} {f C : Addr} {fd : FuncData} {y z : Str} {N ps : List Str} {n j k : Nat} {ψ : Dl.P} (F : FunD K x qual params body scope [] [] f fd) (S : FnScope (y :: N) (z :: ps) scope) (hn : N.length = n) (hj : ps.length = j)
    (hbody : ∀ (κ : Option Addr) (cdv : Value) (A : Around) (outer : List Env) (s : Shared) (H : Hp) (E : XK), Room k (A.deeper (envOfC qual scope s.heap.objs.size f cdv)) → PSs (Xc P w K mg base (y :: N) qual scope f cdv A outer s H E) body (tS K C κ ψ)) :
    FnOk P w K mg base CX0 (k + 1) f fd (z :: ps) (spG K C (runG n j ψ)) := by
  subst hn
  subst hj
  have ln : ∀ g ds d g', runG N.length ps.length ψ g ds = some (d, g') → ds.length = ps.length ∧ ∃ s', fin (ψ ⟨some .brw :: start N.length ds, g⟩) = some (d, s') ∧ s'.g = g' := fun g ds d g' h => by
    unfold runG at h
    by_cases hc : ds.length = ps.length
    · rw [if_pos hc] at h
      refine ⟨hc, ?_⟩
      cases q : fin (ψ ⟨some .brw :: start N.length ds, g⟩) with
      | none => rw [q] at h; cases h
      | some p =>
        obtain ⟨d1, s1⟩ := p
        rw [q] at h
        cases h
        exact ⟨s1, rfl, rfl⟩
    · rw [if_neg hc] at h
      cases h
  refine F.ok S (fun vs H Q E h => ?_) (fun cdv A outer s H vs Q E hr h => ?_)
  · obtain ⟨k1, F0, ws, ds, g, d, g', rfl, _, _, _, x, h, _⟩ := h
    rw [List.length_cons, List.length_cons, x.length, (ln _ _ _ _ h).1]
  · obtain ⟨k1, F0, ws, ds, g, d, g', rfl, hs, nk, hb, x, h, kk⟩ := h
    refine ⟨_, PSs.nox (hbody (some k1) cdv A outer s H E hr), ?_⟩
    obtain ⟨_, s', h2, e⟩ := ln _ _ _ _ h
    clear h
    subst e
    refine ⟨H, F0, F0, _, stt_startG hs nk hb x, ?_⟩
    revert h2
    cases ψ ⟨some .brw :: start N.length ds, g⟩ with
    | none => intro h; cases h
    | some o =>
      cases o with
      | nx s1 =>
        intro h
        cases h
        exact fun σ' H' F' l T sm lk => kk .non H' F' T.frm (T.kg k1 rfl).1 (T.kg k1 rfl).2.2 .non
      | rt d1 s1 =>
        intro h
        cases h
        exact fun v σ' H' F' l T sm lk x => kk v H' F' T.frm (T.kg k1 rfl).1 (T.kg k1 rfl).2.2 x
end Dl
end

/-! ## DRule11 -/
section
set_option Elab.async false
set_option linter.all false
set_option maxRecDepth 100000
set_option maxHeartbeats 2000000
/-! The data layer: attributes, defs. -/
namespace Dl
open PySem PySem.Spec PyProof.Rows L2
/-! ### divmod, sorted, repr -/
def oDivm : D → D → Option D
  | .int i, .int j => if 0 < j ∧ j < 1073741824 then some (.tup [.int (i / j), .int (i % j)]) else none
  | _, _ => none
def oRepr (d : D) : Option D := match d.py with
  | none => none
  | some p => match p with
    | .none => some (.str "None")
    | .tuple ys => if PyData.showable (.tuple ys) = true ∧ PyData.hasDict (.tuple ys) = false ∧ PyData.depth (.tuple ys) ≤ 10 ∧ (PyData.shown (.tuple ys)).length ≤ sizeLine then some (.str (PyData.shown (.tuple ys))) else none
    | _ => none
section
variable {X : Cx} {C : Addr} {κ : Option Addr} {e a b c tgE iter : Expr} {pos : Pos} {φ φa φb φc : M D} {φs : List (M D)} {es : List Expr} {m m1 m2 : M R} {τ : M Bool} {st : Stmt} {rest sts sts2 body : List Stmt} {ψ ψ1 ψ2 : P} {g : TG} {t : T} {src : M (List D)}
theorem pd_divmod {p : Pos} (hg : Gl X "divmod") (hm : X.mg "divmod" = none) (ha : PE X a (tD X.K C κ φa)) (hb : PE X b (tD X.K C κ φb))
    (h1 : starEach [a, b] X.env = (false, eval a X.env) :: starEach [b] X.env := by rfl) (h2 : starEach [b] X.env = (false, eval b X.env) :: starEach [] X.env := by rfl) (hpl : (backTo pos (starEach [b] X.env)).any (·.1) = false := by rfl) :
    PE X (.Call (.Name "divmod" p) [a, b] [] pos) (tD X.K C κ (xBin oDivm φa φb)) := two_ok (pe_callB call_divmod hg hm (by decide +kernel) (pa_cons ha (pa_cons hb pa_nil h2) h1) (by decide) (by decide) h1 hpl) fun {H0 F0 σ H F s x y dx dy d} Q l T x1 x2 g k => by
  cases dx <;> cases dy <;> first | cases g | skip
  rename_i i j
  have g : (if 0 < j ∧ j < 1073741824 then some (D.tup [.int (i / j), .int (i % j)]) else none) = some d := g
  by_cases hc : 0 < j ∧ j < 1073741824
  · rw [if_pos hc] at g
    cases g
    exact ⟨i, j, by rw [x1.intI, x2.intI], hc, fun p hp => k.newF T hp (.tup upd_same (.cons (.int _) (.one (.int _))))⟩
  · rw [if_neg hc] at g
    cases g
/-- the texts of a list, of a tuple, in order: a new list -/
theorem call_sortedT : CallR X (.builtin "sorted") (fun xs H Q => ∃ (a : Addr) (ss : List Str), xs = [V.ref a] ∧ SqT X.K H a (ss.map V.str) ∧ ss.length < 64 ∧
    ∀ (ys : List Str) (p : Addr), ys.Perm ss → sortedS ys = true → H p = none → Q (.ref p) (upd H p (.lst (ys.map V.str)))) := by
  intro pins s σ H vs us Q I rr hyp
  obtain ⟨a, ss, rfl, hsq, few, q⟩ := hyp
  rw [Vals.ref1 rr]
  obtain ⟨its, rv, pl, hz⟩ := I.tuple hsq
  have hSA := rv.strs
  have hcount := rv.length
  rw [List.length_map] at hcount
  have hsmall : its.toArray.size ≤ sizeLine := by rw [List.size_toArray, ← hcount]; exact small64 few
  obtain ⟨o, ho, hcl, n, hd⟩ := pl
  refine Calls.call_function_entry PyProof.Rows.kind_sorted PyProof.Rows.plain_sorted PyProof.Rows.entry_sorted (PyProof.Rows.args_sorted1 _) ?_
  unfold Builtin.«sorted»
  refine wpAny_bind (m := checkCount "sorted" 1 1 _) (wpAny_pure ?_)
  refine wpAny_bind (wpAny_collect_seq (A := X.A.in1) a (.inr rfl) ho hcl hd (fun h1 hkeep => ?_) hsmall)
  have J : Inv X pins σ H { s with heap := h1 } := I.kept (t' := s.toks) hkeep
  refine wpAny_bind (wpAny_newList ?_ (by rw [List.size_toArray] at hsmall; simpa using hsmall))
  have hnew : (h1.push (seqObj "list" its.toArray.toList.toArray 0)).get? h1.objs.size = some (seqObj "list" its.toArray.toList.toArray 0) := Heap.get?_push_size _ rfl
  have hkeys : StrsAre its.toArray.toList ss := hSA
  show wpAny _ _ _ _ _ { s with heap := h1.push (seqObj "list" its.toArray.toList.toArray 0) }
  refine wpAny_bind (wpAny_holding (wpAny_call_entry PyProof.Rows.slot_list_sort ⟨_, hnew, rfl⟩ PyProof.Rows.entry_list_sort
    (list_sort_treeK strKind_oneLt (s := { s with heap := h1.push (seqObj "list" its.toArray.toList.toArray 0) }) hnew hkeys.keysOf (fun v₁ v₂ rest e => keyKind_strs (by rw [← e]; exact hkeys)) (by show its.length < 64; omega) fun st' hp hs => ⟨_, rfl, ?_⟩)
    (PyProof.Rows.args_list_sort _)))
  obtain ⟨ys, g1, g2, g3⟩ := sorted_out_str hkeys hp hs
  obtain ⟨ep, hat⟩ := PyProof.Rows.sortedHeap_at (vs := its.toArray.toList) (out := (arrOf st').map (·.2)) hnew
  have hlen : (ys.map V.str).length ≤ sizeLine := by
    rw [List.length_map, g2.length_eq]
    exact small64 few
  refine wpAny_pure ⟨_, rfl, .ref h1.objs.size, upd H h1.objs.size (.lst (ys.map V.str)), J.laid (t' := s.toks) (fun b u e => ?_) (Nat.le_refl _)
    (show ObjOk X.prog X.w _ _ _ (.lst (ys.map V.str)) from ⟨hlen, ((arrOf st').map (·.2)).toList, ep, vals_of_strs g1, by rw [Array.toArray_toList]; exact hat⟩), rfl, q ys _ g2 g3 (J.hok.fresh (Nat.le_refl _))⟩
  have hb : b < h1.objs.size := Heap.lt_size e
  rw [PyProof.Rows.sortedHeap_old (Nat.ne_of_lt hb) (by rw [size_push']; exact Nat.lt_succ_of_lt hb)]
  exact Heap.get?_push_of_some _ e

/-! ### the order of texts -/
theorem str_ext : ∀ {x y : Str}, x.cps.toList = y.cps.toList → x = y
  | ⟨a⟩, ⟨b⟩, h => by
    have : a = b := Array.toList_inj.mp h
    rw [this]
def SLe (x y : Str) : Prop := ¬ y.cps.toList < x.cps.toList
theorem SLe.anti {x y : Str} (h1 : SLe x y) (h2 : SLe y x) : x = y := str_ext (List.le_antisymm (List.not_lt.mp h1) (List.not_lt.mp h2))
theorem SLe.trans {x y z : Str} (h1 : SLe x y) (h2 : SLe y z) : SLe x z := List.not_lt.mpr (List.le_trans (List.not_lt.mp h1) (List.not_lt.mp h2))
theorem SLe.of_lt {x y : Str} (h : x.cps.toList < y.cps.toList) : SLe x y := List.lt_asymm h
theorem rising_pw : ∀ {x : Str} {ys : List Str}, risingS x ys = true → (x :: ys).Pairwise SLe
  | x, [], _ => List.pairwise_singleton _ _
  | x, y :: r, h => by
    have h : (!ltCps y.cps.toList x.cps.toList && risingS y r) = true := h
    rw [Bool.and_eq_true] at h
    have ih := rising_pw h.2
    have h1 : SLe x y := by
      have := h.1
      rw [ltCps_eq] at this
      simpa [SLe] using this
    refine List.pairwise_cons.mpr ⟨fun z hz => ?_, ih⟩
    rcases List.mem_cons.mp hz with rfl | hz
    · exact h1
    · exact h1.trans ((List.pairwise_cons.mp ih).1 z hz)
theorem sortedS_pw {ys : List Str} (h : sortedS ys = true) : ys.Pairwise SLe := by
  cases ys with
  | nil => exact List.Pairwise.nil
  | cons x r => exact rising_pw h
theorem insS_perm (x : Str) : ∀ ys : List Str, (insS x ys).Perm (x :: ys)
  | [] => List.Perm.refl _
  | y :: r => by
    unfold insS
    split
    · exact ((insS_perm x r).cons y).trans (List.Perm.swap x y r)
    · exact List.Perm.refl _
theorem srtS_perm : ∀ ys : List Str, (srtS ys).Perm ys
  | [] => List.Perm.refl _
  | x :: r => (insS_perm x _).trans ((srtS_perm r).cons x)
theorem insS_pw (x : Str) : ∀ {ys : List Str}, ys.Pairwise SLe → (insS x ys).Pairwise SLe
  | [], _ => List.pairwise_singleton _ _
  | y :: r, h => by
    unfold insS
    split
    · rename_i hlt
      refine List.pairwise_cons.mpr ⟨fun z hz => ?_, insS_pw x (List.pairwise_cons.mp h).2⟩
      rcases List.mem_cons.mp ((insS_perm x r).mem_iff.mp hz) with rfl | hz
      · exact SLe.of_lt hlt
      · exact (List.pairwise_cons.mp h).1 z hz
    · rename_i hlt
      refine List.pairwise_cons.mpr ⟨fun z hz => ?_, h⟩
      rcases List.mem_cons.mp hz with rfl | hz
      · exact hlt
      · exact SLe.trans hlt ((List.pairwise_cons.mp h).1 z hz)
theorem srtS_pw : ∀ ys : List Str, (srtS ys).Pairwise SLe
  | [] => List.Pairwise.nil
  | x :: r => insS_pw x (srtS_pw r)
theorem srtS_eq {ys xs : List Str} (hp : ys.Perm xs) (hs : sortedS ys = true) : ys = srtS xs :=
  List.Perm.eq_of_pairwise (fun _ _ _ _ => SLe.anti) (sortedS_pw hs) (srtS_pw xs) (hp.trans (srtS_perm xs).symm)
theorem srtS_len (xs : List Str) : (srtS xs).length = xs.length := (srtS_perm xs).length_eq
theorem strsDP {K : PySem.W.Frag} {C : Addr} {F : Hp} : ∀ ys : List Str, DPs K C F (ys.map V.str) (ys.map D.str)
  | [] => .nil
  | y :: r => .cons (.str y) (strsDP r)
theorem pr_sorted {p : Pos} (hg : Gl X "sorted") (hm : X.mg "sorted" = none) (ha : PE X e (tD X.K C κ φ))
    (he : starEach [e] X.env = (false, eval e X.env) :: starEach [] X.env := by rfl) (hpl : (backTo pos (starEach [] X.env)).any (·.1) = false := by rfl) : PE X (.Call (.Name "sorted" p) [e] [] pos) (tR X.K C κ (rSorted φ)) :=
  pr_mk (pe_callB (CallR.or cr_sortedS call_sortedT) hg hm (by decide +kernel) (pa_cons ha pa_nil he) (by decide) (by decide) he hpl) fun {H0 F0 σ H F s d s'} Q l T q k => by
  obtain ⟨x, s1, h1, h2⟩ := mBind_some q
  refine ⟨H0, F0, F, s, T, x, s1, h1, fun v1 H1 F1 l1 T1 p1 x1 => ?_⟩
  have fin : ∀ (xs ys : List Str) (p : Addr), ys.Perm xs → sortedS ys = true → H1 p = none → d = .fr ((srtS xs).map .str) → s' = s1 → LenOk (upd H1 p (.lst (ys.map V.str))) → Q (.ref p) (upd H1 p (.lst (ys.map V.str))) := fun xs ys p hp hs hn e1 e2 l2 => by
    subst e1
    subst e2
    have e := srtS_eq hp hs
    subst e
    exact (k.pull p1).new T1 hn (strsDP _) l2
  cases x <;> try (cases h2; done)
  · rename_i xs
    have h2 : (match (match strsOf xs with | some ys => if ys.length < 64 then some ((srtS ys).map D.str) else none | none => none) with | some xs => mRet (R.fr xs) | none => mFail) s1 = some (d, s') := h2
    cases hz : strsOf xs with
    | none => rw [hz] at h2; cases h2
    | some ys =>
      rw [hz] at h2
      dsimp only at h2
      by_cases h64 : ys.length < 64
      · rw [if_pos h64] at h2
        obtain ⟨e1, e2⟩ := mRet_some h2
        obtain ⟨a1, vs, rfl, z1, z2⟩ := x1.tupT T1.sub
        obtain ⟨h3, _⟩ := z2.strsV hz
        subst h3
        exact .inr ⟨a1, ys, rfl, z1, h64, fun zs p hp hs hn => fin ys zs p hp hs hn e1.symm e2⟩
      · rw [if_neg h64] at h2
        cases h2
  · rename_i xs
    have h2 : (match (match strsOf xs with | some ys => if ys.length < 64 then some ((srtS ys).map D.str) else none | none => none) with | some xs => mRet (R.fr xs) | none => mFail) s1 = some (d, s') := h2
    cases hz : strsOf xs with
    | none => rw [hz] at h2; cases h2
    | some ys =>
      rw [hz] at h2
      dsimp only at h2
      by_cases h64 : ys.length < 64
      · rw [if_pos h64] at h2
        obtain ⟨e1, e2⟩ := mRet_some h2
        obtain ⟨a1, vs, rfl, z1, z2⟩ := x1.lstL T1.sub
        obtain ⟨h3, _⟩ := z2.strsV hz
        subst h3
        exact .inl ⟨a1, ys, rfl, .inl (.inl z1), h64, fun zs p hp hs hn => fin ys zs p hp hs hn e1.symm e2⟩
      · rw [if_neg h64] at h2
        cases h2
/-- repr, where nothing else is being shown -/
theorem call_reprD (hg : X.A.guards = some []) (hu : X.A.units + 12 < cLine) : CallR X (.builtin "repr") (fun xs H Q => ∃ (v : V) (p : PyData) (y : Str), xs = [v] ∧ Dp X.K H v p ∧ ((p = .none ∧ y = "None") ∨
    ∃ ys, p = .tuple ys ∧ PyData.showable p = true ∧ PyData.hasDict p = false ∧ PyData.depth p ≤ 10 ∧ (PyData.shown p).length ≤ sizeLine ∧ y = PyData.shown p) ∧ Q (.str y) H) := by
  intro pins s σ H vs us Q I rr hyp
  obtain ⟨v, p, y, rfl, hd, hp, q⟩ := hyp
  obtain ⟨u, rfl, ru⟩ := vals1 rr
  rcases hp with ⟨rfl, rfl⟩ | ⟨ys, rfl, h1, h2, h3, h4, rfl⟩
  · cases hd
    cases (show u = Value.none from ru)
    exact PySem.P.repr_of_none ⟨.str "None", H, I.tok _, ⟨_, rfl⟩, q⟩
  · obtain ⟨as, r⟩ := Dp.reads I _ v u hd ru
    cases hd with
    | tup hq ha =>
      rename_i a vs
      cases (show u = Value.ref a from ru)
      exact repr_of_reads' r h1 (PyData.noDict_hsm h2) hg (by omega) (fun _ _ e => e) (fun h' w tk hk => ⟨.str _, H, I.kept (t' := tk) hk, ⟨w, rfl⟩, q⟩) h4
theorem pd_repr {p : Pos} (hgd : X.A.guards = some []) (hu : X.A.units + 12 < cLine) (hg : Gl X "repr") (hm : X.mg "repr" = none) (ha : PE X e (tD X.K C κ φ))
    (he : starEach [e] X.env = (false, eval e X.env) :: starEach [] X.env := by rfl) (hpl : (backTo pos (starEach [] X.env)).any (·.1) = false := by rfl) : PE X (.Call (.Name "repr" p) [e] [] pos) (tD X.K C κ (xUn oRepr φ)) :=
  one_ok (t := tD X.K C κ φ) (pe_callB (call_reprD hgd hu) hg hm (by decide +kernel) (pa_cons ha pa_nil he) (by decide) (by decide) he hpl) fun {H0 F0 σ H F s x dx d} Q l T x1 g k => by
  unfold oRepr at g
  cases hp : dx.py with
  | none => rw [hp] at g; cases g
  | some p =>
    rw [hp] at g
    have dd := x1.toDp T.sub hp
    cases p <;> try (cases g; done)
    · cases g
      exact ⟨_, _, "None", rfl, dd, .inl ⟨rfl, rfl⟩, k.here T (.str _)⟩
    · rename_i ys
      dsimp only at g
      split at g
      · rename_i hc
        cases g
        exact ⟨_, _, _, rfl, dd, .inr ⟨ys, rfl, hc.1, hc.2.1, hc.2.2.1, hc.2.2.2, rfl⟩, k.here T (.str _)⟩
      · cases g
end
end Dl
end

/-! ## DRule12 -/
section
set_option Elab.async false
set_option linter.all false
set_option maxRecDepth 100000
set_option maxHeartbeats 2000000
/-! The data layer: attributes, defs. -/
namespace Dl
open PySem PySem.Spec PyProof.Rows L2
/-! ### a def that is run under one road A alone (repr asks what else is being shown) -/
/-- as FnOk, at one A -/
structure FnA (P : Program) (w : World) (K : PySem.W.Frag) (mg : Str → Option Value) (base : Heap) (A : Around) (f : Addr) (fd : FuncData) (ps : List Str) (sp : Sp) : Prop where
  len : ∀ vs H Q E, sp vs H Q E → vs.length = ps.length
  go : ∀ (outer : List Env) (s : Shared) (H : Hp) (args : Args) (us : List Value) (vs : List V) (Q : VK) (E : XK), Env0 P w K mg base A outer s H → BindsTo s fd args (ps.zip us) → Vals vs us → sp vs H Q E →
    codeAny (model P w) A (.call (.ref f) args) (CR CX0 outer P w H s Q E) s
section
variable {P : Program} {w : World} {K : PySem.W.Frag} {mg : Str → Option Value} {base : Heap} {x qual : Str} {params : Arguments} {body : List Stmt} {scope : Scope} {f C : Addr} {fd : FuncData} {N ps : List Str} {k : Nat} {sp : Sp} {A : Around}
theorem fnA_of (F : FunD K x qual params body scope [] [] f fd) (S : FnScope N ps scope) (room : Room (k + 1) A) (len : ∀ vs H Q E, sp vs H Q E → vs.length = ps.length)
    (hbody : ∀ (cdv : Value) (outer : List Env) (s : Shared) (H : Hp) (vs : List V) (Q : VK) (E : XK), Room k (A.deeper (envOfC qual scope s.heap.objs.size f cdv)) → sp vs H Q E →
      ∃ t, PSs (Xc P w K mg base N qual scope f cdv A outer s H E) body t ∧ t { nx := fun _ H' => Q .non H', rt := Q } (L2.start N vs) H) : FnA P w K mg base A f fd ps sp := by
  obtain ⟨oc, od, dV, kV, doc, pm, an, cdv, ct, osl, efd, hfun, hcode, _, _⟩ := F.ex
  subst efd
  refine ⟨len, fun outer s H args us vs Q E env bind rel want => ?_⟩
  have inK : K.In s.heap := env.mod.kin.keeps fun b o e => (env.bs b o e).1
  have nolim : s.heap.NoLimit := env.mod.nolimit.keeps fun b o e => (env.bs b o e).1
  have kinds : ∀ y ∈ ps.zip us, scope.names.lookup y.1 = some .local ∨ (scope.names.lookup y.1 = some .cell ∧ ((cellsFrom (s.heap.objs.size + 1) scope.names []).lookup y.1).isSome = true) := by
    rintro ⟨y, u⟩ hy
    rcases S.par y (List.of_mem_zip hy).1 with c | c
    · exact .inl c
    · exact .inr ⟨c, PySem.W.cellsFrom_some _ _ _ (.inl c)⟩
  refine codeAny_call_function room.depth (inK _ _ hfun) rfl S.co S.gen rfl (PySem.W.codeRec_of inK hcode) (bind _ _ _ _ (wpAny_newFunctionEnv_cells S.kind kinds fun env2 he s1 made => ?_))
  subst he
  refine ⟨nolim.keeps made.toInCall.keep, codeAny_func ?_⟩
  obtain ⟨t, walk, start1⟩ := hbody cdv outer s H vs Q E (room.deeper _) want
  have J := inv_start (CX := CX0) (E := E) (N := N) (qual := qual) (f := f) (cd := cdv) S room.hd env (len _ _ _ _ want) rel made
  refine wpAny_mono (walk.nox.run [] s1 (L2.start N vs) H _ J start1) (fun fl s' out => ?_) fun e s' bad => bad
  have done : ∀ {σ' : L2.St} {H' : Hp} {v : V} {u : Value}, Inv (cxOf CX0 P w K mg base N qual scope f cdv A outer s H E) [] σ' H' s' → RelV v u → Q v H' → CE outer P w H s Q u s' :=
    fun {_ H' v _} J2 ru qu => ⟨v, H', J2.os, J2.bare, J2.base, J2.hok, ru, qu⟩
  cases fl with
  | next =>
    obtain ⟨_, _, J2, qu⟩ := out
    exact done (v := V.non) (u := Value.none) J2 rfl qu
  | ret u =>
    obtain ⟨_, _, _, J2, ru, qu⟩ := out
    exact done J2 ru qu
  | brk => exact (out.choose_spec.choose_spec.2 : False).elim
  | cont => exact (out.choose_spec.choose_spec.2 : False).elim
/-- the callee runs at the caller's own A -/
theorem runA {X : Cx} {pins : List (Addr × Obj)} {σ : St} {H : Hp} {s : Shared} {Q : VK} {us : List Value} {vs : List V} {f : Addr} {fd : FuncData} {ps : List Str} {sp : Sp} {E : XK} (F : FnA X.prog X.w X.K X.mg X.base X.A f fd ps sp) (hb : Binds X.K fd ps [])
    (I : Inv X pins σ H s) (rel : Vals vs us) (want : sp vs H Q E) : wpAny (model X.prog X.w) X.A (call (.ref f) us) (EP X pins σ Q) X.xe s := by
  have hcount : (us ++ []).length = ps.length := by rw [List.append_nil, ← rel.length]; exact F.len _ _ _ _ want
  refine wpAny_call (codeAny_mono (F.go X.stack s H ⟨us, []⟩ us vs Q E I.env0 (by have z := hb s us I.kIn hcount; rw [List.append_nil] at z; exact z) rel want) fun res s' out => ?_)
  cases res with
  | error e => exact (out : False).elim
  | ok fl => cases fl with
    | ret u => exact I.after out
    | next => exact (out : False).elim
    | brk => exact (out : False).elim
    | cont => exact (out : False).elim
/-- f(g(..)) where g makes the keg, f runs at this A -/
theorem pd_callKA {X : Cx} {κ : Option Addr} {e : Expr} {pos : Pos} {y : Str} {p : Pos} {f : Addr} {fd : FuncData} {ps : List Str} {G1 : G → List D → Option (D × G)} {m : M R} (F : FnA X.prog X.w X.K X.mg X.base X.A f fd ps (spG X.K C G1)) (hm : X.mg y = some (.ref f)) (hk : PySem.W.keepIn X.K (.ref f) = true) (hb : Binds X.K fd ps []) (hg : Gl X y) (ha : PE X e (tR X.K C κ m)) (hdb : (y == ("__debug__" : Str)) = false := by decide)
    (he : starEach [e] X.env = (false, eval e X.env) :: starEach [] X.env := by rfl) (hpl : (backTo pos (starEach [] X.env)).any (·.1) = false := by rfl) : PE X (.Call (.Name y p) [e] [] pos) (tD X.K C κ (xCallK G1 m)) := by
  have main : PE X (.Call (.Name y p) [e] [] pos) (tCall (spG X.K C G1) [] E0 (tCons (tR X.K C κ m) tNil)) := by
    constructor
    intro pins s σ H Q I h
    refine wpAny_Call_Name_kw (ld_glob I hg hm ?_ hdb)
    exact PySem.W.callWith_K (h₀ := X.base) I.ok.mod.kin hk (thn ((pa_cons ha pa_nil he).run pos pins s σ H _ I h) fun us s1 ⟨vs, H1, I1, rel, want⟩ => ⟨I1.kIn, runA F hb I1 rel (by have want : spG X.K C G1 (vs ++ []) H1 Q E0 := want; rw [List.append_nil] at want; exact want)⟩) he hpl
  refine pd_mk main fun {H0 F0 σ H F s d s'} Q l T q k => ?_
  obtain ⟨x, y, z, g, h1, h2⟩ := xCallK_some q
  refine ⟨H0, F0, F, s, T, _, s', h1, fun v1 H1 F1 l1 T1 p1 x1 => ?_⟩
  obtain ⟨pp, vs, rfl, f1, hp, xx, h0, u, zz⟩ := x1
  have ev : vs = [.int x, .int y, .int z] := by
    cases xx with
    | cons a1 r => cases r with
      | cons a2 r => cases r with
        | cons a3 r =>
          cases r
          rw [a1.intI, a2.intI, a3.intI]
  subst ev
  refine ⟨pp, F1, [], [], .keg x y z, d, g, rfl, T1.sub, f1, hp, .nil, h2, fun v H' F' fr n b w l2 => ?_⟩
  have p4 : Stp κ σ H F s H' F' s' := ⟨p1.fz.trans fr.fz, fun c o h m q1 q2 => by
    obtain ⟨e1, e2⟩ := p1.kp c o h m q1 q2
    have c1 : c ≠ pp := ne_of_none h zz
    exact ⟨fr.kp c o e1 e2 (fun z => c1 (by cases z; rfl)), fr.out e1 e2⟩, p1.ow, fun c h => p1.gr c (fr.gr (fun k' z => by cases z; exact b.some) c h), fun c o u h => fr.lk c o u (p1.lk c o u h)⟩
  exact k v H' F' l2 (T1.callN h0 u fr) p4 w
end
/-! ### keywords alone -/
/-- f(k = .., ..): all arguments by name, from the last parameter to the first -/
def xCallR (F : List D → Option D) (es : List (M D)) : M D := mBind (mAll es) fun xs => mLift (F xs.reverse)
/-- the keywords' values, as data -/
theorem pkd_mk {X : Cx} {C : Addr} {κ : Option Addr} {kws : List Keyword} {t : TA} {φ : M (List D)} (h : PK X kws t) (w : ∀ {H0 F0 : Hp} {σ : L2.St} {H F : Hp} {s s' : S} {ds : List D} (Q : List V → Hp → Prop), LenOk H → Stt X.K C κ H0 F0 σ H F s → φ s = some (ds, s') → RetL X.K C κ H0 F0 σ H F s s' ds Q → t σ H fun vs H' => LenOk H' → Q vs H') : PK X kws (tL X.K C κ φ) :=
  ⟨fun pos pins s σ H Q I ⟨H0, F0, F, st, T, d, s', ed, k⟩ => thn (h.run pos pins s σ H _ I (w Q (lenOk_of I) T ed k)) fun us s2 ⟨vs, H', I', r, q⟩ => ⟨vs, H', I', r, q (lenOk_of I')⟩⟩
theorem pk_nilD {X : Cx} {C : Addr} {κ : Option Addr} : PK X [] (tL X.K C κ (mAll [])) := pkd_mk pk_nil fun {H0 F0 σ H F s s' ds} Q l T q k => by
  obtain ⟨rfl, rfl⟩ := mRet_some q
  exact fun l => k [] H F l T Stp.refl .nil
theorem pk_consD {X : Cx} {C : Addr} {κ : Option Addr} {kws : List Keyword} {e : Expr} {nm : Option Str} {kpos : Pos} {φ : M D} {φs : List (M D)} (ha : PE X e (tD X.K C κ φ)) (hr : PK X kws (tL X.K C κ (mAll φs))) : PK X (⟨nm, e, kpos⟩ :: kws) (tL X.K C κ (mAll (φ :: φs))) := pkd_mk (pk_cons ha hr) fun {H0 F0 σ H F s s' ds} Q l T q k => by
  obtain ⟨x, s1, xs, h1, h2, rfl⟩ := mAll_cons q
  exact ⟨H0, F0, F, s, T, x, s1, h1, fun v1 H1 F1 l1 T1 p1 x1 => ⟨H0, F0, F1, s1, T1, xs, s', h2, fun vs H2 F2 l2 T2 p2 x2 l3 => k _ H2 F2 l2 T2 (p1.trans p2) (.cons (x1.mono p2.fz) x2)⟩⟩
/-- a def whose five parameters are named from the last to the first -/
structure KwR (K : PySem.W.Frag) (fd : FuncData) (ps ks : List Str) : Prop where
  to : ∀ (s : Shared) (ws : List Value), K.In s.heap → ws.length = ps.length → BindsTo s fd ⟨[], ks.zip ws⟩ (ps.zip ws.reverse)
theorem DPs.rev {K : PySem.W.Frag} {C : Addr} {F : Hp} : ∀ {vs : List V} {ds : List D}, DPs K C F vs ds → DPs K C F vs.reverse ds.reverse
  | _, _, .nil => .nil
  | _, _, .cons a b => by
    rw [List.reverse_cons, List.reverse_cons]
    exact (DPs.rev b).append (.one a)
theorem Vals.rev : ∀ {vs : List V} {us : List Value}, Vals vs us → Vals vs.reverse us.reverse
  | _, _, .nil => .nil
  | _, _, .cons a b => by
    rw [List.reverse_cons, List.reverse_cons]
    exact (Vals.rev b).append (.cons a .nil)
theorem pd_callR {X : Cx} {C : Addr} {κ : Option Addr} {pos : Pos} {x : Str} {p : Pos} {k : Nat} {f : Addr} {fd : FuncData} {ps ks : List Str} {kws : List Keyword} {φs : List (M D)} {G1 : List D → Option D} (F : FnOk X.prog X.w X.K X.mg X.base CX0 k f fd ps (spP X.K C G1)) (hm : X.mg x = some (.ref f)) (hk : PySem.W.keepIn X.K (.ref f) = true) (hb : KwR X.K fd ps ks) (hr : Room k X.A) (hg : Gl X x)
    (ha : PK X kws (tL X.K C κ (mAll φs))) (hall : (backToKw pos (keywordEach kws X.env)).all (·.1.isSome) = true := by rfl) (hks : (backToKw pos (keywordEach kws X.env)).filterMap (·.1) = ks := by rfl) (hdb : (x == ("__debug__" : Str)) = false := by decide)
    (hpl : ((backTo pos (starEach [] X.env)).any (·.1) || (backToKw pos (keywordEach kws X.env)).any (·.1.isNone)) = false := by rfl) : PE X (.Call (.Name x p) [] kws pos) (tD X.K C κ (xCallR G1 φs)) := by
  have main : PE X (.Call (.Name x p) [] kws pos) (fun σ H Q => tL X.K C κ (mAll φs) σ H fun vs H1 => spP X.K C G1 vs.reverse H1 Q E0) := by
    constructor
    intro pins s σ H Q I h
    refine wpAny_Call_Name_kw (ld_glob I hg hm ?_ hdb)
    refine PySem.W.callWith_KW0 (h₀ := X.base) I.ok.mod.kin hk hall (thn (ha.run pos pins s σ H _ I h) fun ws s1 ⟨vs, H1, I1, rel, want⟩ => ⟨I1.kIn, ?_⟩) hpl
    rw [hks]
    have rel2 := Vals.rev rel
    have hcount : ws.length = ps.length := by
      have z := F.len _ _ _ _ want
      rw [rel2.length, List.length_reverse] at z
      exact z
    refine wpAny_call (codeAny_mono (F.run X.A X.stack s1 H1 ⟨[], ks.zip ws⟩ ws.reverse vs.reverse Q E0 hr I1.env0 (hb.to s1 ws I1.kIn hcount) rel2 want) fun res s' out => ?_)
    cases res with
    | error e => exact (out : False).elim
    | ok fl => cases fl with
      | ret u => exact I1.after out
      | next => exact (out : False).elim
      | brk => exact (out : False).elim
      | cont => exact (out : False).elim
  refine pd_mk main fun {H0 F0 σ H F s d s'} Q l T q k => ?_
  obtain ⟨xs, s1, h1, h2⟩ := mBind_some q
  obtain ⟨h3, e3⟩ := mLift_some h2
  subst e3
  exact ⟨H0, F0, F, s, T, xs, _, h1, fun vs H1 F1 l1 T1 p1 x1 => ⟨F1, xs.reverse, d, T1.sub, x1.rev, h3, fun v H' F' fr y l2 => k v H' F' l2 (T1.call fr) (p1.trans (Stp.call fr)) y⟩⟩
end Dl
end

/-! ## DRule13 -/
section
set_option Elab.async false
set_option linter.all false
set_option maxRecDepth 100000
set_option maxHeartbeats 2000000
namespace Dl
open PySem PySem.Spec PyProof.Rows L2
/-! ### two clauses -/
theorem compIn_cons {tg : T} {e : M D} {vs1 : List Nat} {x : D} {xs : List D} {s s' : S} {r : List D} (h : compIn tg e vs1 (x :: xs) s = some (r, s')) :
    ∃ s1 d s3 q, tg x s = some s1 ∧ e s1 = some (d, s3) ∧ compIn tg e vs1 xs (wipeS s3 vs1) = some (q, s') ∧ r = d :: q := by
  unfold compIn at h
  cases h1 : tg x s with
  | none => rw [h1] at h; cases h
  | some s1 =>
    rw [h1] at h
    dsimp only at h
    cases h3 : e s1 with
    | none => rw [h3] at h; cases h
    | some p =>
      obtain ⟨d, s3⟩ := p
      rw [h3] at h
      dsimp only at h
      cases h4 : compIn tg e vs1 xs (wipeS s3 vs1) with
      | none => rw [h4] at h; cases h
      | some p =>
        obtain ⟨q, s4⟩ := p
        rw [h4] at h
        cases h
        exact ⟨s1, d, s3, q, rfl, h3, h4, rfl⟩
theorem compOut_cons {tg : T} {src1 : M (List D)} {tg1 : T} {e : M D} {vs vs1 : List Nat} {x : D} {xs : List D} {s s' : S} {r : List D} (h : compOut tg src1 tg1 e vs vs1 (x :: xs) s = some (r, s')) :
    ∃ s1 ys s2 r1 s3 q, tg x s = some s1 ∧ src1 s1 = some (ys, s2) ∧ compIn tg1 e vs1 ys (wipeS s2 vs1) = some (r1, s3) ∧ compOut tg src1 tg1 e vs vs1 xs (wipeS s3 vs) = some (q, s') ∧ r = r1 ++ q := by
  unfold compOut at h
  cases h1 : tg x s with
  | none => rw [h1] at h; cases h
  | some s1 =>
    rw [h1] at h
    dsimp only at h
    cases h3 : src1 s1 with
    | none => rw [h3] at h; cases h
    | some p =>
      obtain ⟨ys, s2⟩ := p
      rw [h3] at h
      dsimp only at h
      cases h4 : compIn tg1 e vs1 ys (wipeS s2 vs1) with
      | none => rw [h4] at h; cases h
      | some p =>
        obtain ⟨r1, s3⟩ := p
        rw [h4] at h
        dsimp only at h
        cases h5 : compOut tg src1 tg1 e vs vs1 xs (wipeS s3 vs) with
        | none => rw [h5] at h; cases h
        | some p =>
          obtain ⟨q, s4⟩ := p
          rw [h5] at h
          cases h
          exact ⟨s1, ys, s2, r1, s3, q, rfl, h3, h4, h5, rfl⟩
theorem rComp2_some {src : M (List D)} {tg : T} {src1 : M (List D)} {tg1 : T} {e : M D} {vs vs1 : List Nat} {s s' : S} {r : R} (h : rComp2 src tg src1 tg1 e vs vs1 s = some (r, s')) :
    ∃ xs s1 q s2, src s = some (xs, s1) ∧ freeOf s1 vs = true ∧ compOut tg src1 tg1 e vs vs1 xs (wipeS s1 vs) = some (q, s2) ∧ q.length ≤ 1000 ∧ r = .fr q ∧ s' = backS s2 s1 vs := by
  obtain ⟨xs, s1, h1, h2⟩ := mBind_some h
  have h2 : (if freeOf s1 vs = true then (match compOut tg src1 tg1 e vs vs1 xs (wipeS s1 vs) with | none => none | some (r, s') => if r.length ≤ 1000 then some (R.fr r, backS s' s1 vs) else none) else none) = some (r, s') := h2
  by_cases f : freeOf s1 vs = true
  · rw [if_pos f] at h2
    cases h3 : compOut tg src1 tg1 e vs vs1 xs (wipeS s1 vs) with
    | none => rw [h3] at h2; cases h2
    | some p =>
      obtain ⟨q, s2⟩ := p
      rw [h3] at h2
      dsimp only at h2
      by_cases hl : q.length ≤ 1000
      · rw [if_pos hl] at h2
        cases h2
        exact ⟨xs, s1, q, s2, h1, f, h3, hl, rfl, rfl⟩
      · rw [if_neg hl] at h2
        cases h2
  · rw [if_neg f] at h2
    cases h2
theorem wipe_wipe {σ : L2.St} {vs vs1 : List Nat} (h : ∀ i ∈ vs1, i ∈ vs) : L2.wipe (L2.wipe σ vs1) vs = L2.wipe σ vs :=
  wipe_eq (ws := vs) (fun _ z => z) (fun j hj => by rw [wipe_out (fun z => hj (h j z)), wipe_out hj]) (by rw [wipe_length, wipe_length])
theorem lc2_read {K : PySem.W.Frag} {C : Addr} {κ : Option Addr} {g g1 : TG} {tg tg1 : T} {ws ws1 vs vs1 : List Nat} {src src1 : M (List D)} {φ : M D} (hg : GOk K C g tg ws) (hw : ∀ i ∈ ws, i ∈ vs) (hg1 : GOk K C g1 tg1 ws1) (hw1 : ∀ i ∈ ws1, i ∈ vs1) (hv : ∀ i ∈ vs1, i ∈ vs) {H0 F0 : Hp} {σ : L2.St} {H F : Hp} {s s' : S} {d : R} {Q : VK}
    (T : Stt K C κ H0 F0 σ H F s) (q : rComp2 src tg src1 tg1 φ vs vs1 s = some (d, s')) (k : RetR K C κ H0 F0 σ H F s s' d Q) : tLc2 (tI K C κ src) g (tT K C κ (mRet true)) (tI K C κ src1) g1 (tT K C κ (mRet true)) (tD K C κ φ) vs vs1 σ H fun v H' => LenOk H' → Q v H' := by
  obtain ⟨xs, s1, out, s2, h1, f, h2, hlen2, rfl, rfl⟩ := rComp2_some q
  refine ⟨H0, F0, F, s, T, xs, s1, h1, fun J H1 F1 l1 T1 p1 wd Dn hD => ?_⟩
  obtain ⟨hlen, gg, Y, wk, hG, hY⟩ := wd
  have T1w := T1.wipe vs
  have hD0 := T1.h0 hD
  have hDF := T1.f0 hD
  let Pv : Nat → Hp → Prop := fun i Hi => ∃ Fi si acc accD rest, Stt K C κ H0 F0 (L2.wipe σ vs) Hi Fi si ∧ Stp κ (L2.wipe σ vs) H1 F1 (wipeS s1 vs) Hi Fi si ∧ Hi Dn = some (.lst acc) ∧ DPs K C Fi acc accD ∧ Fi Dn = none ∧ Unow (L2.wipe σ vs) si Dn ∧
      compOut tg src1 tg1 φ vs vs1 (xs.drop i) si = some (rest, s2) ∧ out = accD ++ rest
  refine ⟨fun i m Hi => m = xs.length - i ∧ i ≤ xs.length ∧ Pv i Hi, ⟨xs.length, by simp, Nat.zero_le _, F1, wipeS s1 vs, [], [], out, T1w.new hD, Stp.new T1w hD, upd_same, .nil, hDF, T1w.unow_new hD, h2, rfl⟩, ?_⟩
  rintro i m Hi ⟨rfl, hi, Fi, si, acc, accD, rest, Ti, pi, hacc, xacc, fD, uD, hc, ho⟩
  have gHi := hG Hi Fi pi.fz Ti.sub pi.lk
  by_cases hlt : i < xs.length
  case neg =>
    have e : i = xs.length := by omega
    subst e
    refine .inl ⟨wk.stops Hi gHi, fun l2 => ?_⟩
    rw [List.drop_length] at hc
    have hc : some (([] : List D), si) = some (rest, s2) := hc
    cases hc
    rw [List.append_nil] at ho
    subst ho
    have hl : s2.e.length = s1.e.length := by
      have a := Ti.len
      rw [wipe_length] at a
      rw [a, T1.len]
    have Tb := Ti.back T1 pi.fz f
    have pb : Stp κ σ H F s Hi Fi (backS s2 s1 vs) := p1.via (fun b u => u.wipe vs) pi (fun b u => Unow.back hl f u)
    exact k _ Hi Fi l2 Tb pb ⟨Dn, acc, rfl, fD, hacc, xacc, hD0, Unow.back hl f uD, p1.gr Dn hD⟩
  refine .inr ⟨wk.goes i Hi hlt gHi, Pv (i + 1), fun H' p' => ⟨xs.length - (i + 1), by omega, rfl, hlt, p'⟩, fun x H' y => ?_⟩
  obtain ⟨dd, hd, y⟩ := hY i Hi x H' Fi pi.fz Ti.sub hlt (wk.yields i Hi x H' hlt gHi y)
  obtain ⟨Fx, Tx, px, xx⟩ := turn_item (T1 := Dn) Ti y
  have ed : xs.drop i = dd :: xs.drop (i + 1) := by
    obtain ⟨hh, e⟩ := List.getElem?_eq_some_iff.mp hd
    rw [List.drop_eq_getElem_cons hh, e]
  rw [ed] at hc
  obtain ⟨sa, ys, sb, r1, sc, q1, c1, c2, c3, c4, rfl⟩ := compOut_cons hc
  refine hg.ok _ Tx xx c1 fun σ2 Ta ea la ua => ?_
  have hwe := wipe_eq hw ea la
  refine ⟨hwe, H0, F0, Fx, sa, Ta, true, sa, rfl, fun H3 F3 l3 T3 p3 => iteT ⟨H0, F0, F3, sa, T3, ys, sb, c2, fun J1 H4 F4 l4 T4 p4 wd1 => ?_⟩⟩
  obtain ⟨hlen1, gg1, Y1, wk1, hG1, hY1⟩ := wd1
  have T4w := T4.wipe vs1
  obtain ⟨kDx, kFx⟩ := px.kp Dn _ hacc fD (Ti.kne hD0) uD
  have ux := ua Dn (px.ow Dn uD)
  obtain ⟨kD4, kF4⟩ := (p3.trans p4).kp Dn _ kDx kFx (Ti.kne hD0) ux
  have u4 := (p3.trans p4).ow Dn ux
  let Pv1 : Nat → Hp → Prop := fun j Hj => ∃ Fj sj acc accD rest1, Stt K C κ H0 F0 (L2.wipe σ2 vs1) Hj Fj sj ∧ Stp κ (L2.wipe σ2 vs1) H4 F4 (wipeS sb vs1) Hj Fj sj ∧ Hj Dn = some (.lst acc) ∧ DPs K C Fj acc accD ∧ Fj Dn = none ∧ Unow (L2.wipe σ2 vs1) sj Dn ∧
      compIn tg1 φ vs1 (ys.drop j) sj = some (rest1, sc) ∧ out = accD ++ (rest1 ++ q1)
  -- steps of the inner loop: the list's own cell apart
  refine ⟨fun j m Hj => m = ys.length - j ∧ j ≤ ys.length ∧ ∃ Fj sj acc accD rest1, Stt K C κ H0 F0 (L2.wipe σ2 vs1) Hj Fj sj ∧ (Same F4 Fj ∧ (∀ c o, H4 c = some o → F4 c = none → some c ≠ κ → Unow (L2.wipe σ2 vs1) (wipeS sb vs1) c → c ≠ Dn → Hj c = some o ∧ Fj c = none) ∧ (∀ c, Unow (L2.wipe σ2 vs1) (wipeS sb vs1) c → Unow (L2.wipe σ2 vs1) sj c) ∧ (∀ c, Hj c = none → H4 c = none) ∧ ∀ c o u, H4 c = some (.frz o u) → Hj c = some (.frz o u)) ∧ Hj Dn = some (.lst acc) ∧ DPs K C Fj acc accD ∧ Fj Dn = none ∧ Unow (L2.wipe σ2 vs1) sj Dn ∧
      compIn tg1 φ vs1 (ys.drop j) sj = some (rest1, sc) ∧ out = accD ++ (rest1 ++ q1), ⟨ys.length, by simp, Nat.zero_le _, F4, wipeS sb vs1, acc, accD, r1, T4w, ⟨Same.refl _, fun c o e1 e2 _ _ _ => ⟨e1, e2⟩, fun _ u => u, fun _ z => z, fun _ _ _ z => z⟩, kD4, (xacc.mono px.fz).mono (p3.trans p4).fz, kF4, u4.wipe vs1, c3, ho⟩, ?_⟩
  rintro j m Hj ⟨rfl, hj, Fj, sj, acc2, accD2, rest1, Tj, ⟨j1, j2, j3, j4, j5⟩, hacc2, xacc2, fD2, uD2, hc2, ho2⟩
  have gHj := hG1 Hj Fj j1 Tj.sub j5
  by_cases hlt1 : j < ys.length
  case neg =>
    have e : j = ys.length := by omega
    subst e
    refine .inl ⟨wk1.stops Hj gHj, ?_⟩
    rw [List.drop_length] at hc2
    have hc2 : some (([] : List D), sj) = some (rest1, sc) := hc2
    cases hc2
    have hww : L2.wipe (L2.wipe σ2 vs1) vs = L2.wipe σ vs := (wipe_wipe hv).trans hwe
    have T5 := Tj.wipe vs
    rw [hww] at T5
    refine ⟨Fj, wipeS sc vs, acc2, accD2, q1, T5, ?_, hacc2, xacc2, fD2, by have z := uD2.wipe vs; rw [hww] at z; exact z, c4, ho2⟩
    have p04 := (pi.trans px).via (s4 := wipeS sb vs) ua (p3.trans p4) (fun c u => by rw [← hwe]; exact u.wipe vs)
    have uw : ∀ c, Unow (L2.wipe σ vs) (wipeS s1 vs) c → Unow (L2.wipe σ2 vs1) (wipeS sb vs1) c := fun c u => ((p3.trans p4).ow c (ua c ((pi.trans px).ow c u))).wipe vs1
    refine ⟨p04.fz.trans j1, fun c o e1 e2 e3 e4 => ?_, fun c u => ?_, fun c h => p04.gr c (j4 c h), fun c o u h => j5 c o u (p04.lk c o u h)⟩
    · obtain ⟨r1, r2⟩ := p04.kp c o e1 e2 e3 e4
      exact j2 c o r1 r2 e3 (uw c e4) (ne_of_none e1 hD)
    · have z := (j3 c (uw c u)).wipe vs
      rw [hww] at z
      exact z
  refine .inr ⟨wk1.goes j Hj hlt1 gHj, fun Hn => ∃ Fj sj acc accD rest1, Stt K C κ H0 F0 (L2.wipe σ2 vs1) Hn Fj sj ∧ (Same F4 Fj ∧ (∀ c o, H4 c = some o → F4 c = none → some c ≠ κ → Unow (L2.wipe σ2 vs1) (wipeS sb vs1) c → c ≠ Dn → Hn c = some o ∧ Fj c = none) ∧ (∀ c, Unow (L2.wipe σ2 vs1) (wipeS sb vs1) c → Unow (L2.wipe σ2 vs1) sj c) ∧ (∀ c, Hn c = none → H4 c = none) ∧ ∀ c o u, H4 c = some (.frz o u) → Hn c = some (.frz o u)) ∧ Hn Dn = some (.lst acc) ∧ DPs K C Fj acc accD ∧ Fj Dn = none ∧ Unow (L2.wipe σ2 vs1) sj Dn ∧
      compIn tg1 φ vs1 (ys.drop (j + 1)) sj = some (rest1, sc) ∧ out = accD ++ (rest1 ++ q1), fun H' p' => ⟨ys.length - (j + 1), by omega, rfl, hlt1, p'⟩, fun x H' y => ?_⟩
  obtain ⟨de, hde, y⟩ := hY1 j Hj x H' Fj j1 Tj.sub hlt1 (wk1.yields j Hj x H' hlt1 gHj y)
  obtain ⟨Fz, Tz, pz, xz⟩ := turn_item (T1 := Dn) Tj y
  have ed2 : ys.drop j = de :: ys.drop (j + 1) := by
    obtain ⟨hh, e⟩ := List.getElem?_eq_some_iff.mp hde
    rw [List.drop_eq_getElem_cons hh, e]
  rw [ed2] at hc2
  obtain ⟨sd, d1, se, q2, b1, b2, b3, rfl⟩ := compIn_cons hc2
  refine hg1.ok _ Tz xz b1 fun σ3 Tc ec lc uc => ?_
  have hwe1 := wipe_eq hw1 ec lc
  refine ⟨hwe1, H0, F0, Fz, sd, Tc, true, sd, rfl, fun H6 F6 l6 T6 p6 => iteT ⟨H0, F0, F6, sd, T6, d1, se, b2, fun v7 H7 F7 l7 T7 p7 x7 => ?_⟩⟩
  obtain ⟨kDz, kFz⟩ := pz.kp Dn _ hacc2 fD2 (Tj.kne hD0) uD2
  have uz := uc Dn (pz.ow Dn uD2)
  obtain ⟨kD7, kF7⟩ := (p6.trans p7).kp Dn _ kDz kFz (Tj.kne hD0) uz
  have u7 := (p6.trans p7).ow Dn uz
  have fz7 : Same Fj F7 := (pz.fz).trans (p6.trans p7).fz
  have xnew := (xacc2.mono fz7).append (.one x7)
  have hsmall : acc2.length < sizeLine := by
    have e1 := xacc2.length
    have e2 : out.length ≤ 1000 := hlen2
    rw [ho2, List.length_append] at e2
    have := line1000 (show 1000 ≤ 1000 from Nat.le_refl _)
    have e3 : (d1 :: q2 ++ q1).length = (q2 ++ q1).length + 1 := rfl
    omega
  have nf7 : ∀ ob u, H7 Dn ≠ some (.frz ob u) := fun _ _ z => by rw [kD7] at z; cases z
  have p67 : Stp κ (L2.wipe σ2 vs1) Hj Fj sj H7 F7 (wipeS se vs1) := pz.via (s4 := wipeS se vs1) uc (p6.trans p7) (fun c u => by rw [← hwe1]; exact u.wipe vs1)
  refine ⟨acc2, kD7, hsmall, F7, wipeS se vs1, acc2 ++ [v7], accD2 ++ [d1], q2, ?_, ⟨j1.trans fz7, fun c o e1 e2 e3 e4 e5 => ?_, fun c u => p67.ow c (j3 c u), fun c h => j4 c (p67.gr c (upd_none h)), fun c o u h => upd_frz nf7 (p67.lk c o u (j5 c o u h))⟩, upd_same, xnew, kF7, by rw [← hwe1]; exact u7.wipe vs1, b3, by rw [ho2, List.append_assoc]; rfl⟩
  · have T8 := (T7.chg (p := Dn) (o := .lst (acc2 ++ [v7])) nf7 hD0 kF7 u7).wipe vs1
    rw [hwe1] at T8
    exact T8
  · obtain ⟨r1, r2⟩ := j2 c o e1 e2 e3 e4 e5
    obtain ⟨r3, r4⟩ := p67.kp c o r1 r2 e3 (j3 c e4)
    rw [upd_ne e5]
    exact ⟨r3, r4⟩
theorem pr_comp2 {X : Cx} {C : Addr} {κ : Option Addr} {elt tgE iter tgE1 iter1 : Expr} {scope : Scope} {own : List (Str × Nat)} {pos : Pos} {g g1 : TG} {tg tg1 : T} {ws ws1 vs1 : List Nat} {src src1 : M (List D)} {φ : M D} (hc : X.calm = true) (hN : X.N.Nodup) (hi : PI X tgE iter (tI X.K C κ src)) (ok : BlkOk X.N X.env.scope scope own) (hg : GOk X.K C g tg ws) (hw : ∀ i ∈ ws, i ∈ own.map (·.2)) (hg1 : GOk X.K C g1 tg1 ws1) (hw1 : ∀ i ∈ ws1, i ∈ vs1) (hv : ∀ i ∈ vs1, i ∈ own.map (·.2))
    (hgt : ∀ (s : Shared) (H : Hp) (Ca : Addr) (cl : List (Str × Addr)) (fp : List Addr), PG (X.blk s H scope (compEnvC scope cl Ca X.env) fp) tgE g)
    (hi1 : ∀ (s : Shared) (H : Hp) (Ca : Addr) (cl : List (Str × Addr)) (fp : List Addr), PI (X.blk s H scope (compEnvC scope cl Ca X.env) fp) tgE1 iter1 (tI X.K C κ src1))
    (hgt1 : ∀ (s : Shared) (H : Hp) (Ca : Addr) (cl : List (Str × Addr)) (fp : List Addr), PG (X.blk s H scope (compEnvC scope cl Ca X.env) fp) tgE1 g1)
    (he : ∀ (s : Shared) (H : Hp) (Ca : Addr) (cl : List (Str × Addr)) (fp : List Addr), PE (X.blk s H scope (compEnvC scope cl Ca X.env) fp) elt (tD X.K C κ φ)) (hs : ∀ x, foldedSetIterable iter X.env x = pure x := by intro _; rfl) (hs1 : ∀ env x, foldedSetIterable iter1 env x = pure x := by intro _ _; rfl) :
    PE X (.ListComp elt [⟨tgE, iter, [], 0⟩, ⟨tgE1, iter1, [], 0⟩] scope pos) (tR X.K C κ (rComp2 src tg src1 tg1 φ (own.map (·.2)) vs1)) := pr_mk (pe_lc2 hc hN hi ok hv hgt (fun _ _ _ _ _ => pts_nilD) hi1 hgt1 (fun _ _ _ _ _ => pts_nilD) he hs hs1) fun {H0 F0 σ H F s d s'} Q l T q k => lc2_read hg hw hg1 hw1 hv T q k
end Dl
end

/-! ## DRule14 -/
section
set_option Elab.async false
set_option linter.all false
set_option maxRecDepth 100000
namespace Dl
open PySem PySem.Spec PyProof.Rows L2
/-! ### a tuple and another, either of them perhaps empty; -1 -/
def oCatA : D → D → Option D
  | .tup xs, .tup ys => if xs.length + ys.length ≤ 1000 then some (.tup (xs ++ ys)) else none
  | _, _ => none
section
variable {X : Cx} {C : Addr} {κ : Option Addr} {e a b c : Expr} {pos : Pos} {φ φa φb φc : M D} {φs : List (M D)} {es : List Expr} {m m1 m2 : M R} {st : Stmt} {rest sts : List Stmt} {ψ ψ1 ψ2 : P}
theorem pd_catA (ha : PE X a (tD X.K C κ φa)) (hb : PE X b (tD X.K C κ φb)) : PE X (.BinOp a .Add b pos) (tD X.K C κ (xBin oCatA φa φb)) := pd_bin (pe_op op_catA ha hb) fun {H0 F0 σ H F s x y dx dy d} Q l T x1 x2 g k => by
  cases dx <;> cases dy <;> first | cases g | skip
  rename_i xs ys
  have g : (if xs.length + ys.length ≤ 1000 then some (D.tup (xs ++ ys)) else none) = some d := g
  by_cases hc : xs.length + ys.length ≤ 1000
  · rw [if_pos hc] at g
    cases g
    have z1 := x1
    have z2 := x2
    obtain ⟨a1, vs, rfl, t1, y1⟩ := x1.tupT T.sub
    obtain ⟨a2, ws, rfl, t2, y2⟩ := x2.tupT T.sub
    refine ⟨a1, a2, vs, ws, rfl, rfl, t1, t2, by rw [y1.length, y2.length]; exact line1000 hc, fun hn => ?_, fun _ hn => ?_, fun _ _ p hp => k.newF T hp (.tup upd_same ((y1.append y2).mono (Same.updN (T.f0 hp))))⟩
    · subst hn
      cases y1
      exact k.here T z2
    · subst hn
      cases y2
      rw [List.append_nil] at k
      exact k.here T z1
  · rw [if_neg hc] at g
    cases g
theorem pd_neg {i : Int} {j} {p2 : Pos} : PE X (.UnaryOp .USub (.Constant (.int i) j p2) pos) (tD X.K C κ (xC (.int (-i)))) := pd_mk (pe_un un_neg pe_int) fun {H0 F0 σ H F s d s'} Q l T h k => by
  obtain ⟨rfl, rfl⟩ := mRet_some h
  exact ⟨_, rfl, k.here T (.int (-i))⟩
end
/-! ### a def that gives a new list -/
section
variable (K : PySem.W.Frag) (C : Addr) (κ : Option Addr)
def spF (G1 : List D → Option (List D)) : Sp := fun vs H Q _ => ∃ F0 ds xs, Sub F0 H ∧ DPs K C F0 vs ds ∧ G1 ds = some xs ∧ ∀ p ws H' F', H p = none → F' p = none → H' p = some (.lst ws) → DPs K C F' ws xs → Frm none H F0 H' F' → Q (.ref p) H'
def PostK (H0 F0 H F : Hp) (Q : VK) : Option (List D × S) → Prop
  | some (xs, s') => ∀ p ws σ' H' F', LenOk H' → Stt K C κ H0 F0 σ' H' F' s' → Same F F' → Lk H H' → H0 p = none → F' p = none → H' p = some (.lst ws) → DPs K C F' ws xs → Q (.ref p) H'
  | none => False
def tK (ψ : S → Option (List D × S)) : TS := fun D σ H => ∃ H0 F0 F s, Stt K C κ H0 F0 σ H F s ∧ PostK K C κ H0 F0 H F D.rt (ψ s)
end
def kSeq (a : P) (b : S → Option (List D × S)) : S → Option (List D × S) := fun s => match a s with
  | some (.nx s') => b s'
  | _ => none
def kRet (m : M R) : S → Option (List D × S) := fun s => match m s with
  | some (.fr xs, s') => some (xs, s')
  | _ => none
def runK (n k : Nat) (b : S → Option (List D × S)) (ds : List D) : Option (List D) := if ds.length = k then (match b ⟨start n ds, .no⟩ with
  | some (xs, _) => some xs
  | none => none) else none
/-- a call that makes a list -/
def rCallF (F : List D → Option (List D)) (es : List (M D)) : M R := mBind (mAll es) fun xs => match F xs with
  | some ys => mRet (.fr ys)
  | none => mFail
section
variable {X : Cx} {C : Addr} {κ : Option Addr} {e a b c : Expr} {pos : Pos} {φ φa φb φc : M D} {φs : List (M D)} {es : List Expr} {m m1 m2 : M R} {st : Stmt} {rest sts : List Stmt} {ψ ψ1 ψ2 : P} {ξ : S → Option (List D × S)}
theorem PostK.pull {K : PySem.W.Frag} {H0 F0 H F H1 F1 : Hp} {Q : VK} {o : Option (List D × S)} (h : PostK K C κ H0 F0 H F Q o) (sm : Same F F1) (lk : Lk H H1) : PostK K C κ H0 F0 H1 F1 Q o := by
  cases o with
  | none => exact h
  | some o => exact fun p ws σ' H' F' l T q k => h p ws σ' H' F' l T (sm.trans q) (lk.trans k)
theorem pss_consK (h1 : PS X st (tS X.K C κ ψ1)) (no : ∀ s d s', ψ1 s ≠ some (.rt d s')) (h2 : PSs X rest (tK X.K C κ ξ)) : PSs X (st :: rest) (tK X.K C κ (kSeq ψ1 ξ)) := ⟨fun pins s σ H D I ⟨H0, F0, F, s0, T, k⟩ => by
  refine (pss_cons h1 h2).run pins s σ H D I ⟨H0, F0, F, s0, T, ?_⟩
  unfold kSeq at k
  cases q : ψ1 s0 with
  | none => rw [q] at k; exact k.elim
  | some o =>
    rw [q] at k
    cases o with
    | nx s1 => exact fun σ' H' F' l1 T1 sm lk => ⟨H0, F0, F', s1, T1, PostK.pull k sm lk⟩
    | rt d s1 => exact absurd q (no s0 d s1)⟩
theorem pss_retK (he : PE X e (tR X.K C κ m)) : PSs X [.Return (some e) pos] (tK X.K C κ (kRet m)) := ⟨fun pins s σ H D I ⟨H0, F0, F, s0, T, k⟩ => by
  refine (pss_one (ps_ret he)).run pins s σ H D I ?_
  unfold kRet at k
  cases q : m s0 with
  | none => rw [q] at k; exact k.elim
  | some p =>
    obtain ⟨r, s1⟩ := p
    rw [q] at k
    cases r with
    | d x => exact k.elim
    | fd x => exact k.elim
    | fr xs =>
      refine ⟨H0, F0, F, s0, T, .fr xs, s1, q, fun v H1 F1 l1 T1 p1 x => ?_⟩
      obtain ⟨p, vs, rfl, f, hp, xx, h0, _, _⟩ := x
      exact k p vs σ H1 F1 l1 T1 p1.fz p1.lk h0 f hp xx⟩
theorem no_asg {t : T} {φ : M D} : ∀ s d s', sAsg t φ s ≠ some (.rt d s') := fun s d s' h => by
  unfold sAsg at h
  split at h
  · split at h <;> cases h
  · cases h
theorem no_set {i : Nat} : ∀ s d s', sSet i m s ≠ some (.rt d s') := fun s d s' h => by
  unfold sSet at h
  split at h
  · split at h <;> cases h
  · cases h
theorem no_loop {t : T} (hb : ∀ s d s', ψ s ≠ some (.rt d s')) : ∀ (xs : List D) s d s', forLoop t ψ xs s ≠ some (.rt d s')
  | [], s, d, s', h => by cases h
  | x :: xs, s, d, s', h => by
    unfold forLoop at h
    split at h
    · cases h
    · split at h
      · exact no_loop hb xs _ _ _ h
      · rename_i q
        cases h
        exact hb _ _ _ q
      · cases h
theorem no_for {src : M (List D)} {t : T} (hb : ∀ s d s', ψ s ≠ some (.rt d s')) : ∀ s d s', sFor src t ψ s ≠ some (.rt d s') := fun s d s' h => by
  unfold sFor at h
  split at h
  · exact no_loop hb _ _ _ _ h
  · cases h
theorem pr_callF {x : Str} {p : Pos} {k : Nat} {G1 : List D → Option (List D)} (f : FnD X.prog X.w X.K X.mg X.base x k (spF X.K C G1)) (hr : Room k X.A) (hg : Gl X x) (ha : PA X (e :: es) (tL X.K C κ (mAll φs))) (hdb : (x == ("__debug__" : Str)) = false := by decide)
    (he : starEach (e :: es) X.env = (false, eval e X.env) :: starEach es X.env := by rfl) (hpl : (backTo pos (starEach es X.env)).any (·.1) = false := by rfl) : PE X (.Call (.Name x p) (e :: es) [] pos) (tR X.K C κ (rCallF G1 φs)) := by
  obtain ⟨fa, fd, ps, F, hm, hk, hb⟩ := f.ex
  refine pr_mk (pe_call F hr hg hm hk hb .nil pass0 ha hdb he hpl) fun {H0 F0 σ H F s d s'} Q l T q k => ?_
  obtain ⟨xs, s1, h1, h2⟩ := mBind_some q
  cases h3 : G1 xs with
  | none => rw [h3] at h2; cases h2
  | some ys =>
    rw [h3] at h2
    obtain ⟨rfl, e2⟩ := mRet_some h2
    subst e2
    refine ⟨H0, F0, F, s, T, xs, _, h1, fun vs H1 F1 l1 T1 p1 x1 => ⟨F1, xs, ys, T1.sub, by rw [List.append_nil]; exact x1, h3, fun p ws H' F' n1 n2 n3 n4 fr l2 => ?_⟩⟩
    exact k (.ref p) H' F' l2 (T1.call fr) (p1.trans (Stp.call fr)) ⟨p, ws, rfl, n2, n3, n4, T1.h0 n1, T1.unow_new n1, p1.gr p n1⟩
end
theorem fn_F {P : Program} {w : World} {K : PySem.W.Frag} {mg : Str → Option Value} {base : Heap} {x qual : Str} {params : Arguments} {body : List Stmt} {scope : Scope} {f C : Addr} {fd : FuncData} {N ps : List Str} {n j k : Nat} {ξ : S → Option (List D × S)} (F : FunD K x qual params body scope [] [] f fd) (S : FnScope N ps scope) (hn : N.length = n) (hj : ps.length = j)
    (hbody : ∀ (cdv : Value) (A : Around) (outer : List Env) (s : Shared) (H : Hp) (E : XK), Room k (A.deeper (envOfC qual scope s.heap.objs.size f cdv)) → PSs (Xc P w K mg base N qual scope f cdv A outer s H E) body (tK K C none ξ)) :
    FnOk P w K mg base CX0 (k + 1) f fd ps (spF K C (runK n j ξ)) := by
  subst hn
  subst hj
  have ln : ∀ ds xs, runK N.length ps.length ξ ds = some xs → ds.length = ps.length ∧ ∃ s', ξ ⟨start N.length ds, .no⟩ = some (xs, s') := fun ds xs h => by
    unfold runK at h
    by_cases hc : ds.length = ps.length
    · rw [if_pos hc] at h
      refine ⟨hc, ?_⟩
      cases q : ξ ⟨start N.length ds, .no⟩ with
      | none => rw [q] at h; cases h
      | some p =>
        obtain ⟨d1, s1⟩ := p
        rw [q] at h
        cases h
        exact ⟨s1, rfl⟩
    · rw [if_neg hc] at h
      cases h
  refine F.ok S (fun vs H Q E h => ?_) (fun cdv A outer s H vs Q E hr h => ⟨_, PSs.nox (hbody cdv A outer s H E hr), ?_⟩)
  · obtain ⟨F0, ds, d, _, x, h, _⟩ := h
    rw [x.length]
    exact (ln _ _ h).1
  · obtain ⟨F0, ds, d, hs, x, h, k⟩ := h
    obtain ⟨_, s', h⟩ := ln _ _ h
    refine ⟨H, F0, F0, _, stt_start hs x, ?_⟩
    rw [h]
    exact fun p ws σ' H' F' l T sm lk n1 n2 n3 n4 => k p ws H' F' n1 n2 n3 n4 T.frm
/-- as fn_G, at one A -/
theorem fn_GA {P : Program} {w : World} {K : PySem.W.Frag} {mg : Str → Option Value} {base : Heap} {x qual : Str} {params : Arguments} {body : List Stmt} {scope : Scope} {f C : Addr} {fd : FuncData} {y z : Str} {N ps : List Str} {n j k : Nat} {ψ : Dl.P} {A : Around} (F : FunD K x qual params body scope [] [] f fd) (S : FnScope (y :: N) (z :: ps) scope) (hn : N.length = n) (hj : ps.length = j) (room : Room (k + 1) A)
    (hbody : ∀ (κ : Option Addr) (cdv : Value) (outer : List Env) (s : Shared) (H : Hp) (E : XK), Room k (A.deeper (envOfC qual scope s.heap.objs.size f cdv)) → PSs (Xc P w K mg base (y :: N) qual scope f cdv A outer s H E) body (tS K C κ ψ)) :
    FnA P w K mg base A f fd (z :: ps) (spG K C (runG n j ψ)) := by
  subst hn
  subst hj
  have ln : ∀ g ds d g', runG N.length ps.length ψ g ds = some (d, g') → ds.length = ps.length ∧ ∃ s', fin (ψ ⟨some .brw :: start N.length ds, g⟩) = some (d, s') ∧ s'.g = g' := fun g ds d g' h => by
    unfold runG at h
    by_cases hc : ds.length = ps.length
    · rw [if_pos hc] at h
      refine ⟨hc, ?_⟩
      cases q : fin (ψ ⟨some .brw :: start N.length ds, g⟩) with
      | none => rw [q] at h; cases h
      | some p =>
        obtain ⟨d1, s1⟩ := p
        rw [q] at h
        cases h
        exact ⟨s1, rfl, rfl⟩
    · rw [if_neg hc] at h
      cases h
  refine fnA_of F S room (fun vs H Q E h => ?_) (fun cdv outer s H vs Q E hr h => ?_)
  · obtain ⟨k1, F0, ws, ds, g, d, g', rfl, _, _, _, x, h, _⟩ := h
    rw [List.length_cons, List.length_cons, x.length, (ln _ _ _ _ h).1]
  · obtain ⟨k1, F0, ws, ds, g, d, g', rfl, hs, nk, hb, x, h, kk⟩ := h
    refine ⟨_, hbody (some k1) cdv outer s H E hr, ?_⟩
    obtain ⟨_, s', h2, e⟩ := ln _ _ _ _ h
    clear h
    subst e
    refine ⟨H, F0, F0, _, stt_startG hs nk hb x, ?_⟩
    revert h2
    cases ψ ⟨some .brw :: start N.length ds, g⟩ with
    | none => intro h; cases h
    | some o =>
      cases o with
      | nx s1 =>
        intro h
        cases h
        exact fun σ' H' F' l T sm lk => kk .non H' F' T.frm (T.kg k1 rfl).1 (T.kg k1 rfl).2.2 .non
      | rt d1 s1 =>
        intro h
        cases h
        exact fun v σ' H' F' l T sm lk x => kk v H' F' T.frm (T.kg k1 rfl).1 (T.kg k1 rfl).2.2 x
/-- as fn_P, at one A -/
theorem fn_PA {P : Program} {w : World} {K : PySem.W.Frag} {mg : Str → Option Value} {base : Heap} {x qual : Str} {params : Arguments} {body : List Stmt} {scope : Scope} {f C : Addr} {fd : FuncData} {N ps : List Str} {n j k : Nat} {ψ : Dl.P} {A : Around} (F : FunD K x qual params body scope [] [] f fd) (S : FnScope N ps scope) (hn : N.length = n) (hj : ps.length = j) (room : Room (k + 1) A)
    (hbody : ∀ (cdv : Value) (outer : List Env) (s : Shared) (H : Hp) (E : XK), Room k (A.deeper (envOfC qual scope s.heap.objs.size f cdv)) → PSs (Xc P w K mg base N qual scope f cdv A outer s H E) body (tS K C none ψ)) :
    FnA P w K mg base A f fd ps (spP K C (runP n j ψ)) := by
  subst hn
  subst hj
  have ln : ∀ ds d, runP N.length ps.length ψ ds = some d → ds.length = ps.length ∧ ∃ s', fin (ψ ⟨start N.length ds, .no⟩) = some (d, s') := fun ds d h => by
    unfold runP at h
    by_cases hc : ds.length = ps.length
    · rw [if_pos hc] at h
      refine ⟨hc, ?_⟩
      cases q : fin (ψ ⟨start N.length ds, .no⟩) with
      | none => rw [q] at h; cases h
      | some p =>
        obtain ⟨d1, s1⟩ := p
        rw [q] at h
        cases h
        exact ⟨s1, rfl⟩
    · rw [if_neg hc] at h
      cases h
  refine fnA_of F S room (fun vs H Q E h => ?_) (fun cdv outer s H vs Q E hr h => ⟨_, hbody cdv outer s H E hr, ?_⟩)
  · obtain ⟨F0, ds, d, _, x, h, _⟩ := h
    rw [x.length]
    exact (ln _ _ h).1
  · obtain ⟨F0, ds, d, hs, x, h, k⟩ := h
    obtain ⟨_, s', h⟩ := ln _ _ h
    refine ⟨H, F0, F0, _, stt_start hs x, ?_⟩
    revert h
    cases ψ ⟨start N.length ds, .no⟩ with
    | none => intro h; cases h
    | some o =>
      cases o with
      | nx s1 =>
        intro h
        cases h
        exact fun σ' H' F' l T sm lk => k .non H' F' T.frm .non
      | rt d1 s1 =>
        intro h
        cases h
        exact fun v σ' H' F' l T sm lk x => k v H' F' T.frm x
end Dl
end

/-! ## DRule15 -/
section
set_option Elab.async false
set_option linter.all false
namespace Dl
open PySem PySem.Spec PyProof.Rows L2
theorem u64 {k : Nat} {A : Around} (r : Room k A) : A.units + 64 < cLine := by have := r.un; omega
theorem u1 {k : Nat} {A : Around} (r : Room k A) : A.units + 1 < cLine := by have := r.un; omega
theorem u12 {k : Nat} {A : Around} (r : Room k A) : A.units + 12 < cLine := by have := r.un; omega
/-- a test by cases -/
def tIfB (t a b : M Bool) : M Bool := mBind t fun c => if c = true then a else b
theorem pt_ifT {X : Cx} {c a b : Expr} {pos : Pos} {tc ta tb : TT} (hc : PT X c tc) (ha : PT X a ta) (hb : PT X b tb) : PT X (.IfExp c a b pos) (fun σ H Q => tc σ H fun d H1 => if d = true then ta σ H1 Q else tb σ H1 Q) := by
  constructor
  intro pins s σ H Q I h
  have e : isTrue (.IfExp c a b pos) X.env (eval (.IfExp c a b pos) X.env) = (do if ← isTrue c X.env (eval c X.env) then isTrue a X.env (eval a X.env) else isTrue b X.env (eval b X.env)) := by rfl
  rw [e]
  refine wpAny_bind (thn (hc.run pins s σ H _ I h) fun d s1 ⟨H1, I1, q1⟩ => ?_)
  cases d with
  | true =>
    rw [if_pos rfl] at q1 ⊢
    exact ha.run pins s1 σ H1 Q I1 q1
  | false =>
    rw [if_neg Bool.false_ne_true] at q1 ⊢
    exact hb.run pins s1 σ H1 Q I1 q1
theorem pt_ifB {X : Cx} {C : Addr} {κ : Option Addr} {c a b : Expr} {pos : Pos} {τ τa τb : M Bool} (hc : PT X c (tT X.K C κ τ)) (ha : PT X a (tT X.K C κ τa)) (hb : PT X b (tT X.K C κ τb)) : PT X (.IfExp c a b pos) (tT X.K C κ (tIfB τ τa τb)) := pt_mk (pt_ifT hc ha hb) fun {H0 F0 σ H F s d s'} Q l T q k => by
  obtain ⟨w, s1, h1, h2⟩ := mBind_some q
  refine ⟨H0, F0, F, s, T, w, s1, h1, fun H1 F1 l1 T1 p1 => ?_⟩
  cases w with
  | true => exact iteT ⟨H0, F0, F1, s1, T1, d, s', h2, fun H2 F2 l2 T2 p2 l3 => k H2 F2 l2 T2 (p1.trans p2)⟩
  | false => exact iteF ⟨H0, F0, F1, s1, T1, d, s', h2, fun H2 F2 l2 T2 p2 l3 => k H2 F2 l2 T2 (p1.trans p2)⟩
/-- a class's body -/
def clsB : Stmt → List Stmt
  | .ClassDef (body := b) .. => b
  | _ => []
/-- the built-ins' names are free -/
structure Bt (mg : Str → Option Value) : Prop where
  isi : mg "isinstance" = none
  int : mg "int" = none
  bool : mg "bool" = none
  str : mg "str" = none
  tuple : mg "tuple" = none
  list : mg "list" = none
  dict : mg "dict" = none
  abs : mg "abs" = none
  len : mg "len" = none
  all : mg "all" = none
  any : mg "any" = none
  range : mg "range" = none
  zip : mg "zip" = none
  min : mg "min" = none
  max : mg "max" = none
  sorted : mg "sorted" = none
  divmod : mg "divmod" = none
  repr : mg "repr" = none
/-- the class -/
structure Wb (K : PySem.W.Frag) (mg : Str → Option Value) (C : Addr) : Prop where
  cl : Cls K C
  mg : mg "Web" = some (.ref C)
  lines : NoAttr K C "lines"
  trap : NoAttr K C "trap"
  by_place : NoAttr K C "by_place"
  ha : PySem.W.findIn K (.ref C) "__class__" = some (some (.builtin "object.__class__"))
  hn : PySem.W.specialIn K (.builtin "object.__class__") "__get__" = some (some (.builtin "getset_descriptor.__get__"))
  htk : PySem.W.takesIn K (.builtin "object.__class__") = some true
  hm : PySem.W.mroIn K C (.type "object") = some true
  hk : PySem.W.kitOne K (.ref C) (.ref C) = some true
/-- a constant of the module -/
structure GlC (K : PySem.W.Frag) (mg : Str → Option Value) (C : Addr) (x : Str) (d : D) : Prop where
  ex : ∃ v u, mg x = some u ∧ RelV v u ∧ ∀ F, DP K C F v d
structure MetD (P : Program) (w : World) (K : PySem.W.Frag) (mg : Str → Option Value) (base : Heap) (C : Addr) (m : Str) (k : Nat) (sp : Sp) : Prop where
  ex : ∃ fa fd ps, Meth K C m fa ∧ FnOk P w K mg base CX0 k fa fd ps sp ∧ Binds K fd ps []
structure PrpD (P : Program) (w : World) (K : PySem.W.Frag) (mg : Str → Option Value) (base : Heap) (C : Addr) (m : Str) (k : Nat) (sp : Sp) : Prop where
  ex : ∃ pp ga fd ps, PropOf K C m pp ga ∧ FnOk P w K mg base CX0 k ga fd ps sp ∧ Binds K fd ps []
structure MakD (P : Program) (w : World) (K : PySem.W.Frag) (mg : Str → Option Value) (base : Heap) (C : Addr) (k : Nat) (sp : Sp) : Prop where
  ex : ∃ fI fd ps, Mk K C fI ∧ FnOk P w K mg base CX0 k fI fd ps sp ∧ Binds K fd ps []
section
variable {X : Cx} {C : Addr} {κ : Option Addr} {e a b c : Expr} {pos : Pos} {φ φa φb φc : M D} {φs : List (M D)} {es : List Expr} {k : Nat} {G1 : List D → Option D} {G2 : G → List D → Option (D × G)}
theorem pd_gl {x : Str} {d : D} {p : Pos} (g : GlC X.K X.mg C x d) (hg : Gl X x) (hdb : (x == ("__debug__" : Str)) = false := by decide) : PE X (.Name x p) (tD X.K C κ (xC d)) := by
  obtain ⟨v, u, h1, h2, h3⟩ := g.ex
  exact pd_glob hg h1 h2 h3 hdb
theorem pd_methD {pl : Sem Bool} {o : Expr} {m : Str} {apos : Pos} (he : PE X o (tD X.K C κ φ)) (cl : Cls X.K C) (M1 : MetD X.prog X.w X.K X.mg X.base C m k (spP X.K C G1)) (hr : Room k X.A) (ha : PA X (e :: es) (tL X.K C κ (mAll φs)))
    (hst : starEach (e :: es) X.env = (false, eval e X.env) :: starEach es X.env := by rfl) (hpl : (backTo pos (starEach es X.env)).any (·.1) = false := by rfl)
    (ht : eval (.Call (.Attribute o m apos) (e :: es) [] pos) X.env = (do
      let ov ← eval o X.env
      standAt apos.atName
      let (f, first) ← holding [ov] (getMethod ov m pl)
      callWith pos f first (backTo pos (starEach (e :: es) X.env)) (backToKw pos (keywordEach [] X.env))) := by rfl) :
    PE X (.Call (.Attribute o m apos) (e :: es) [] pos) (tD X.K C κ (xMeth G1 m φ φs)) := by
  obtain ⟨fa, fd, ps, h1, h2, h3⟩ := M1.ex
  exact pd_meth he cl h1 h2 hr h3 ha hst hpl ht
theorem pd_propD {f : Str} (he : PE X e (tD X.K C κ φ)) (cl : Cls X.K C) (P1 : PrpD X.prog X.w X.K X.mg X.base C f k (spP X.K C G1)) (hr : Room (k + 1) X.A)
    (hab : attributeBase e f X.env (eval e X.env) = eval e X.env := by rfl) : PE X (.Attribute e f pos) (tD X.K C κ (xProp G1 φ)) := by
  obtain ⟨pp, ga, fd, ps, h1, h2, h3⟩ := P1.ex
  exact pd_prop he cl h1 h2 hr h3 hab
theorem pd_makeD {x : Str} {p : Pos} (M1 : MakD X.prog X.w X.K X.mg X.base C k (spG X.K C G2)) (hm : X.mg x = some (.ref C)) (hr : Room (k + 1) X.A) (hg : Gl X x) (ha : PA X (e :: es) (tL X.K C κ (mAll φs)))
    (hdb : (x == ("__debug__" : Str)) = false := by decide) (he : starEach (e :: es) X.env = (false, eval e X.env) :: starEach es X.env := by rfl) (hpl : (backTo pos (starEach es X.env)).any (·.1) = false := by rfl) :
    PE X (.Call (.Name x p) (e :: es) [] pos) (tD X.K C κ (xMake G2 φs)) := by
  obtain ⟨fI, fd, ps, h1, h2, h3⟩ := M1.ex
  exact pd_make h1 h2 hr hg hm h3 ha hdb he hpl
/-- isinstance against a built-in type -/
theorem pd_isiT {g : D → Option Bool} {T : String} {x : Str} {p p2 : Pos} (o : IsiD X C g (.ty T) (.type T)) (hg : Gl X "isinstance") (hm : X.mg "isinstance" = none) (hgx : Gl X x) (hmx : X.mg x = none) (hv : bootBuiltins x = some (.type T)) (ha : PE X a (tD X.K C κ φa)) (hx1 : x ≠ "__name__" := by decide) (hx2 : (x == ("__debug__" : Str)) = false := by decide)
    (h1 : starEach [a, .Name x p2] X.env = (false, eval a X.env) :: starEach [.Name x p2] X.env := by rfl) (h2 : starEach [.Name x p2] X.env = (false, eval (.Name x p2) X.env) :: starEach [] X.env := by rfl) (hpl : (backTo pos (starEach [.Name x p2] X.env)).any (·.1) = false := by rfl) :
    PE X (.Call (.Name "isinstance" p) [a, .Name x p2] [] pos) (tD X.K C κ (xB (tUn g φa))) := pd_isi o hg hm ha (pe_bltn hgx hmx hv rfl hx1 hx2) h1 h2 hpl
theorem pd_isiW {p p2 : Pos} (wb : Wb X.K X.mg C) (hg : Gl X "isinstance") (hm : X.mg "isinstance" = none) (hgx : Gl X "Web") (ha : PE X a (tD X.K C κ φa))
    (h1 : starEach [a, .Name "Web" p2] X.env = (false, eval a X.env) :: starEach [.Name "Web" p2] X.env := by rfl) (h2 : starEach [.Name "Web" p2] X.env = (false, eval (.Name "Web" p2) X.env) :: starEach [] X.env := by rfl) (hpl : (backTo pos (starEach [.Name "Web" p2] X.env)).any (·.1) = false := by rfl) :
    PE X (.Call (.Name "isinstance" p) [a, .Name "Web" p2] [] pos) (tD X.K C κ (xB (tUn oIsWeb φa))) := pd_isi (i_web wb.cl wb.ha wb.hn wb.htk wb.hm wb.hk) hg hm ha (pe_glob hgx wb.mg rfl) h1 h2 hpl
end
/-- from a def that stands under its name -/
theorem fnD {P : Program} {w : World} {K : PySem.W.Frag} {mg : Str → Option Value} {base : Heap} {x : Str} {k : Nat} {sp : Sp} {qual : Str} {params : Arguments} {body : List Stmt} {scope : Scope} {f : Addr} {fd : FuncData} {ps : List Str} (F : FunD K x qual params body scope [] [] f fd) (hm : mg x = some (.ref f)) (ok : FnOk P w K mg base CX0 k f fd ps sp)
    (h : ∀ (kV doc pm : Value) (an : Option Addr) (cdv ct : Value) (us : List Value), us.length = ps.length → bindArgs (PySem.W.fnOf x qual params body scope .none kV doc pm an cdv ct) ⟨us, []⟩ = pure (ps.zip us)) : FnD P w K mg base x k sp :=
  ⟨f, fd, ps, ok, hm, F.kp, F.bindsN h⟩
end Dl
end

/-! ## Psi -/
section
set_option Elab.async false
set_option linter.all false
set_option maxRecDepth 100000
set_option maxHeartbeats 4000000
noncomputable section
namespace Dl
open PySem PySem.Spec PyProof.Rows L2

/-! The meanings of the defs (printed by printer.py). -/
def d_ZERO : D := .tup [.int 0, .int 1]
def d_ONE : D := .tup [.int 1, .int 1]
def d_HALF : D := .tup [.int 1, .int 2]
def d_SMALL : D := .str "abcdefghijklmnopqrstuvwxyz"
def d_SIGNS : D := .str "abcdefghijklmnopqrstuvwxyz0123456789"
def d_KINDS : D := .tup [.str "end", .str "chance", .str "ours", .str "theirs", .str "coin"]
def d_SIDES : D := .tup [.str "first", .str "second"]
def d_MOST_PLACES : D := .int 24
def d_MOST_ARROWS : D := .int 8
def d_MOST_BOTTOM : D := .int 1000000

/-- is_between: 0=value 1=least 2=most -/
def psi_is_between : P := (sSeq (sIf (tOr (tNot (tVal (xB (tUn oIsInt (xVar 0))))) (tVal (xB (tUn oIsBool (xVar 0))))) (sRet (xC (.bl false))) sNx) (sRet (xB (tAnd (tOr (tUn oIsN (xVar 1)) (tBin oGe (xVar 0) (xVar 1))) (tOr (tUn oIsN (xVar 2)) (tBin oLe (xVar 0) (xVar 2)))))))
def F_is_between : List D → Option D := runP 3 3 psi_is_between
/-- is_one_of: 0=value 1=words -/
def psi_is_one_of : P := (sRet (xB (tAnd (tUn oIsStr (xVar 0)) (vIn (xVar 0) 1))))
def F_is_one_of : List D → Option D := runP 2 2 psi_is_one_of
/-- common: 0=first 1=last -/
def psi_common : P := (sSeq (sAsg (gNm 0) (xUn oAbs (xVar 0))) (sSeq (sWhile (tBin oGt (xVar 1) (xC (.int 0))) (sPar 0 1 (rD (xVar 1)) (rD (xBin oMod (xUn oInt (xVar 0)) (xVar 1))))) (sRet (xVar 0))))
def F_common : List D → Option D := runP 2 2 psi_common
/-- lowest: 0=top 1=bottom 2=shared -/
def psi_lowest : P := (sSeq (sAsg (gNm 2) (xCall F_common [(xVar 0), (xVar 1)])) (sRet (xTup [(xBin oDiv (xVar 0) (xVar 2)), (xBin oDiv (xVar 1) (xVar 2))])))
def F_lowest : List D → Option D := runP 3 2 psi_lowest
/-- is_fraction: 0=value -/
def psi_is_fraction : P := (sSeq (sIf (tOr (tNot (tVal (xB (tUn oIsTup (xVar 0))))) (tBin oNe (vLen 0) (xC (.int 2)))) (sRet (xC (.bl false))) sNx) (sSeq (sIf (tOr (tNot (tVal (xCall F_is_between [(vIx 0 (xC (.int 0))), (xC .non), (xC .non)]))) (tNot (tVal (xCall F_is_between [(vIx 0 (xC (.int 1))), (xC (.int 1)), (xC .non)])))) (sRet (xC (.bl false))) sNx) (sRet (xB (tBin oEq (xCall F_common [(vIx 0 (xC (.int 0))), (vIx 0 (xC (.int 1)))]) (xC (.int 1)))))))
def F_is_fraction : List D → Option D := runP 1 1 psi_is_fraction
/-- add: 0=one 1=other -/
def psi_add : P := (sRet (xCall F_lowest [(xBin oAdd (xBin oMul (vIx 0 (xC (.int 0))) (vIx 1 (xC (.int 1)))) (xBin oMul (vIx 1 (xC (.int 0))) (vIx 0 (xC (.int 1))))), (xBin oMul (vIx 0 (xC (.int 1))) (vIx 1 (xC (.int 1))))]))
def F_add : List D → Option D := runP 2 2 psi_add
/-- less: 0=one 1=other -/
def psi_less : P := (sRet (xCall F_lowest [(xBin oSub (xBin oMul (vIx 0 (xC (.int 0))) (vIx 1 (xC (.int 1)))) (xBin oMul (vIx 1 (xC (.int 0))) (vIx 0 (xC (.int 1))))), (xBin oMul (vIx 0 (xC (.int 1))) (vIx 1 (xC (.int 1))))]))
def F_less : List D → Option D := runP 2 2 psi_less
/-- times: 0=one 1=other -/
def psi_times : P := (sRet (xCall F_lowest [(xBin oMul (vIx 0 (xC (.int 0))) (vIx 1 (xC (.int 0)))), (xBin oMul (vIx 0 (xC (.int 1))) (vIx 1 (xC (.int 1))))]))
def F_times : List D → Option D := runP 2 2 psi_times
/-- is_below: 0=one 1=other -/
def psi_is_below : P := (sRet (xB (tBin oLt (xBin oMul (vIx 0 (xC (.int 0))) (vIx 1 (xC (.int 1)))) (xBin oMul (vIx 1 (xC (.int 0))) (vIx 0 (xC (.int 1)))))))
def F_is_below : List D → Option D := runP 2 2 psi_is_below
/-- lesser: 0=one 1=other -/
def psi_lesser : P := (sRet (xIf (tVal (xCall F_is_below [(xVar 1), (xVar 0)])) (xVar 1) (xVar 0)))
def F_lesser : List D → Option D := runP 2 2 psi_lesser
/-- greater: 0=one 1=other -/
def psi_greater : P := (sRet (xIf (tVal (xCall F_is_below [(xVar 0), (xVar 1)])) (xVar 1) (xVar 0)))
def F_greater : List D → Option D := runP 2 2 psi_greater
/-- is_chance: 0=value -/
def psi_is_chance : P := (sRet (xB (tAnd (tVal (xCall F_is_fraction [(xVar 0)])) (tChain oLe oLe (xC (.int 0)) (vIx 0 (xC (.int 0))) (vIx 0 (xC (.int 1)))))))
def F_is_chance : List D → Option D := runP 1 1 psi_is_chance
/-- least_of: 0=numbers 1=found 2=one -/
def psi_least_of : P := (sSeq (sAsg (gNm 1) (vIx 0 (xC (.int 0)))) (sSeq (sFor (iLst (xFrz (rSl (xVar 0) (some (xC (.int 1))) none))) (gNm 2) (sAsg (gNm 1) (xCall F_lesser [(xVar 1), (xVar 2)]))) (sRet (xVar 1))))
def F_least_of : List D → Option D := runP 3 1 psi_least_of
/-- greatest_of_numbers: 0=numbers 1=found 2=one -/
def psi_greatest_of_numbers : P := (sSeq (sAsg (gNm 1) (vIx 0 (xC (.int 0)))) (sSeq (sFor (iLst (xFrz (rSl (xVar 0) (some (xC (.int 1))) none))) (gNm 2) (sAsg (gNm 1) (xCall F_greater [(xVar 1), (xVar 2)]))) (sRet (xVar 1))))
def F_greatest_of_numbers : List D → Option D := runP 3 1 psi_greatest_of_numbers
/-- is_place: 0=value 1=sign -/
def psi_is_place : P := (sSeq (sIf (tOr (tNot (tVal (xB (tUn oIsStr (xVar 0))))) (tNot (tChain oLe oLe (xC (.int 1)) (vLen 0) (xC (.int 3))))) (sRet (xC (.bl false))) sNx) (sRet (xB (tAnd (tBin oSign (vIx 0 (xC (.int 0))) (xC d_SMALL)) (tVal (xUn oAll (xFrz (rComp (iStr (xVar 0)) (gNm 1) (mRet true) (xB (tBin oSign (xVar 1) (xC d_SIGNS))) [1]))))))))
def F_is_place : List D → Option D := runP 2 1 psi_is_place
/-- are_places: 0=places 1=place 2=index -/
def psi_are_places_L : P := (sSeq (sIf (tNot (tVal (xUn oAll (xFrz (rComp (iLst (xVar 0)) (gNm 1) (mRet true) (xCall F_is_place [(xVar 1)]) [1]))))) (sRet (xC (.bl false))) sNx) (sRet (xUn oAll (xFrz (rComp (iRange1 (xBin oSub (vLen 0) (xC (.int 1)))) (gNm 2) (mRet true) (xB (tBin oLt (vIx 0 (xVar 2)) (vIx 0 (xBin oAdd (xVar 2) (xC (.int 1)))))) [2])))))
def F_are_places_L : List D → Option D := runP 3 1 psi_are_places_L
/-- are_places: 0=places 1=place 2=index -/
def psi_are_places_T : P := (sSeq (sIf (tNot (tVal (xUn oAll (xFrz (rComp (iTup (xVar 0)) (gNm 1) (mRet true) (xCall F_is_place [(xVar 1)]) [1]))))) (sRet (xC (.bl false))) sNx) (sRet (xUn oAll (xFrz (rComp (iRange1 (xBin oSub (vLen 0) (xC (.int 1)))) (gNm 2) (mRet true) (xB (tBin oLt (vIx 0 (xVar 2)) (vIx 0 (xBin oAdd (xVar 2) (xC (.int 1)))))) [2])))))
def F_are_places_T : List D → Option D := runP 3 1 psi_are_places_T
/-- is_what: 0=kind 1=value 2=place 3=number 4=numbers -/
def psi_is_what : P := (sSeq (sIf (tBin oEq (xVar 0) (xC (.str "end"))) (sRet (xCall F_is_fraction [(xVar 1)])) sNx) (sSeq (sIf (tBin oEq (xVar 0) (xC (.str "coin"))) (sRet (xB (tAnd (tUn oIsTup (xVar 1)) (tAnd (tChain oLe oLe (xC (.int 1)) (vLen 1) (xC d_MOST_ARROWS)) (tVal (xCall F_are_places_T [(xVar 1)])))))) sNx) sNo))
def F_is_what : List D → Option D := runP 5 2 psi_is_what
/-- arrows_of: 0=kind 1=what 2=place 3=number -/
def psi_arrows_of : P := (sSeq (sIf (tBin oEq (xVar 0) (xC (.str "end"))) (sRet (xTup [])) sNx) (sRet (xIf (tBin oEq (xVar 0) (xC (.str "coin"))) (xVar 1) (xUn oTuple (xFrz (rComp (iTup (xVar 1)) (gTp [(gNm 2), (gNm 3)]) (mRet true) (xVar 2) [2, 3]))))))
def F_arrows_of : List D → Option D := runP 4 2 psi_arrows_of
/-- are_triples: 0=value 1=row -/
def psi_are_triples : P := (sSeq (sIf (tOr (tNot (tVal (xB (tUn oIsTup (xVar 0))))) (tNot (tChain oLe oLe (xC (.int 1)) (vLen 0) (xC d_MOST_PLACES)))) (sRet (xC (.bl false))) sNx) (sSeq (sIf (tNot (tVal (xUn oAll (xFrz (rComp (iTup (xVar 0)) (gNm 1) (mRet true) (xB (tAnd (tUn oIsTup (xVar 1)) (tBin oEq (vLen 1) (xC (.int 3))))) [1]))))) (sRet (xC (.bl false))) sNx) (sRet (xCall F_are_places_L [(xFrz (rComp (iTup (xVar 0)) (gNm 1) (mRet true) (vIx 1 (xC (.int 0))) [1]))]))))
def F_are_triples : List D → Option D := runP 2 1 psi_are_triples
/-- are_rows: 0=value 1=row 2=places 3=to -/
def psi_are_rows : P := (sSeq (sIf (tOr (tNot (tVal (xCall F_are_triples [(xVar 0)]))) (tNot (tVal (xUn oAll (xFrz (rComp (iTup (xVar 0)) (gNm 1) (mRet true) (xB (tAnd (tVal (xCall F_is_one_of [(vIx 1 (xC (.int 1))), (xC d_KINDS)])) (tVal (xCall F_is_what [(vIx 1 (xC (.int 1))), (vIx 1 (xC (.int 2)))])))) [1])))))) (sRet (xC (.bl false))) sNx) (sSeq (sSet 2 (rComp (iTup (xVar 0)) (gNm 1) (mRet true) (vIx 1 (xC (.int 0))) [1])) (sRet (xUn oAll (xFrz (rComp2 (iTup (xVar 0)) (gNm 1) (iTup (xCall F_arrows_of [(vIx 1 (xC (.int 1))), (vIx 1 (xC (.int 2)))])) (gNm 3) (xB (vIn (xVar 3) 2)) [1, 3] [3]))))))
def F_are_rows : List D → Option D := runP 4 1 psi_are_rows
/-- trap_in: 0=rows 1=found 2=row 3=many 4=kept 5=place 6=kind 7=what 8=inside 9=to -/
def psi_trap_in : P := (sSeq (sSet 1 (rComp (iTup (xVar 0)) (gNm 2) (tBin oNe (vIx 2 (xC (.int 1))) (xC (.str "end"))) (vIx 2 (xC (.int 0))) [2])) (sSeq (sAsg (gNm 3) (xBin oAdd (vLen 1) (xC (.int 1)))) (sSeq (sWhile (tBin oGt (xVar 3) (vLen 1)) (sSeq (sAsg (gNm 3) (vLen 1)) (sSeq (sSet 4 (rLst [])) (sSeq (sFor (iTup (xVar 0)) (gTp [(gNm 5), (gNm 6), (gNm 7)]) (sSeq (sSet 8 (rComp (iTup (xCall F_arrows_of [(xVar 6), (xVar 7)])) (gNm 9) (mRet true) (xB (vIn (xVar 9) 1)) [9])) (sIf (tAnd (vIn (xVar 5) 1) (tIfB (tBin oEq (xVar 6) (xC (.str "chance"))) (tVal (xUn oAll (xVar 8))) (tVal (xUn oAny (xVar 8))))) (sDrop (vApp 4 (xVar 5))) sNx))) (sAsg (gNm 1) (xVar 4)))))) (sRet (xUn oTuple (xVar 1))))))
def F_trap_in : List D → Option D := runP 10 1 psi_trap_in
/-- are_coin_rows: 0=rows 1=place 2=kind 3=what 4=found 5=turn 6=to -/
def psi_are_coin_rows : P := (sSeq (sIf (tNot (tVal (xUn oAll (xFrz (rComp (iTup (xVar 0)) (gTp [(gNm 1), (gNm 2), (gNm 3)]) (mRet true) (xB (tBin oIn (xVar 2) (xTup [(xC (.str "end")), (xC (.str "coin"))]))) [1, 2, 3]))))) (sRet (xC (.bl false))) sNx) (sSeq (sSet 4 (rComp (iTup (xVar 0)) (gTp [(gNm 1), (gNm 2), (gNm 3)]) (tBin oEq (xVar 2) (xC (.str "end"))) (xVar 1) [1, 2, 3])) (sSeq (sFor (iRange1 (vLen 0)) (gNm 5) (sSet 4 (rComp (iTup (xVar 0)) (gTp [(gNm 1), (gNm 2), (gNm 3)]) (tOr (vIn (xVar 1) 4) (tVal (xUn oAny (xFrz (rComp (iTup (xCall F_arrows_of [(xVar 2), (xVar 3)])) (gNm 6) (mRet true) (xB (vIn (xVar 6) 4)) [6]))))) (xVar 1) [1, 2, 3]))) (sRet (xB (tBin oEq (vLen 4) (vLen 0)))))))
def F_are_coin_rows : List D → Option D := runP 7 1 psi_are_coin_rows
/-- __init__: 0=self 1=rows 2=lot 3=place 4=kind 5=what -/
def psi_W_init : P := (sSeq (sIf (tNot (tVal (xCall F_are_rows [(xVar 1)]))) sNo sNx) (sSeq (sAsg (gNm 2) (xCall F_trap_in [(xVar 1)])) (sSeq (sIf (tAnd (tBin oGt (vLen 2) (xC (.int 0))) (tNot (tVal (xCall F_are_coin_rows [(xVar 1)])))) sNo sNx) (sSeq (sFld 0 "lines" (xVar 1)) (sSeq (sFld 0 "trap" (xVar 2)) (sFld 0 "by_place" (xFrz (rDict (xFrz (rComp (iTup (xVar 1)) (gTp [(gNm 3), (gNm 4), (gNm 5)]) (mRet true) (xTup [(xVar 3), (xTup [(xVar 4), (xVar 5)])]) [3, 4, 5]))))))))))
def F_W_init : G → List D → Option (D × G) := runG 5 1 psi_W_init
/-- rows: 0=self -/
def psi_W_rows : P := (sRet (xUn (oFld "lines") (xVar 0)))
def F_W_rows : List D → Option D := runP 1 1 psi_W_rows
/-- places: 0=self 1=row -/
def psi_W_places : P := (sRet (xUn oTuple (xFrz (rComp (iTup (xUn (oFld "lines") (xVar 0))) (gNm 1) (mRet true) (vIx 1 (xC (.int 0))) [1]))))
def F_W_places : List D → Option D := runP 2 1 psi_W_places
/-- ends: 0=self 1=row -/
def psi_W_ends : P := (sRet (xUn oTuple (xFrz (rComp (iTup (xUn (oFld "lines") (xVar 0))) (gNm 1) (tBin oEq (vIx 1 (xC (.int 1))) (xC (.str "end"))) (vIx 1 (xC (.int 0))) [1]))))
def F_W_ends : List D → Option D := runP 2 1 psi_W_ends
/-- check_place: 0=self 1=value -/
def psi_W_check_place : P := (sIf (tOr (tNot (tVal (xB (tUn oIsStr (xVar 1))))) (tBin oNotInD (xVar 1) (xUn (oFld "by_place") (xVar 0)))) sNo sNx)
def F_W_check_place : List D → Option D := runP 2 2 psi_W_check_place
/-- arrows: 0=self 1=place -/
def psi_W_arrows : P := (sSeq (sDrop (xMeth F_W_check_place "check_place" (xVar 0) [(xVar 1)])) (sRet (xCall F_arrows_of [(xBin oIx (xBin oDix (xUn (oFld "by_place") (xVar 0)) (xVar 1)) (xC (.int 0))), (xBin oIx (xBin oDix (xUn (oFld "by_place") (xVar 0)) (xVar 1)) (xC (.int 1)))])))
def F_W_arrows : List D → Option D := runP 2 2 psi_W_arrows
/-- number: 0=self 1=place -/
def psi_W_number : P := (sSeq (sDrop (xMeth F_W_check_place "check_place" (xVar 0) [(xVar 1)])) (sRet (xIf (tBin oEq (xBin oIx (xBin oDix (xUn (oFld "by_place") (xVar 0)) (xVar 1)) (xC (.int 0))) (xC (.str "end"))) (xBin oIx (xBin oDix (xUn (oFld "by_place") (xVar 0)) (xVar 1)) (xC (.int 1))) (xC .non))))
def F_W_number : List D → Option D := runP 2 2 psi_W_number
/-- check_web: 0=value -/
def psi_check_web : P := (sIf (tNot (tVal (xB (tUn oIsWeb (xVar 0))))) sNo sNx)
def F_check_web : List D → Option D := runP 1 1 psi_check_web
/-- solved: 0=lines 1=table 2=size 3=line 4=spot 5=lead 6=at 7=top 8=bottom 9=factor 10=part 11=old 12=new -/
def psi_solved : P := (sSeq (sPar 1 2 (rComp (iLst (xVar 0)) (gNm 3) (mRet true) (xFrz (vList 3)) [3]) (rD (vLen 0))) (sSeq (sFor (iRange1 (xVar 2)) (gNm 4) (sSeq (sAsg (gNm 5) (xBin oIx (xFrz (rComp (iRange2 (xVar 4) (xVar 2)) (gNm 6) (tBin oNe (xBin oIx (vIx 1 (xVar 6)) (xVar 4)) (xC d_ZERO)) (xVar 6) [6])) (xC (.int 0)))) (sSeq (sAsg (gTp [(gIx 1 (xVar 4)), (gIx 1 (xVar 5))]) (xTup [(vIx 1 (xVar 5)), (vIx 1 (xVar 4))])) (sSeq (sAsg (gTp [(gNm 7), (gNm 8)]) (xBin oIx (vIx 1 (xVar 4)) (xVar 4))) (sSeq (sAsg (gNm 9) (xIf (tBin oGt (xVar 7) (xC (.int 0))) (xTup [(xVar 8), (xVar 7)]) (xTup [(xBin oSub (xC (.int 0)) (xVar 8)), (xBin oSub (xC (.int 0)) (xVar 7))]))) (sSeq (sAsg (gIx 1 (xVar 4)) (xFrz (rComp (iLst (vIx 1 (xVar 4))) (gNm 10) (mRet true) (xCall F_times [(xVar 9), (xVar 10)]) [10]))) (sFor (iRange1 (xVar 2)) (gNm 6) (sSeq (sAsg (gNm 10) (xBin oIx (vIx 1 (xVar 6)) (xVar 4))) (sIf (tAnd (tBin oNe (xVar 6) (xVar 4)) (tBin oNe (xVar 10) (xC d_ZERO))) (sAsg (gIx 1 (xVar 6)) (xFrz (rComp (iZip (vIx 1 (xVar 6)) (vIx 1 (xVar 4))) (gTp [(gNm 11), (gNm 12)]) (mRet true) (xCall F_less [(xVar 11), (xCall F_times [(xVar 10), (xVar 12)])]) [11, 12]))) sNx))))))))) (sRet (xFrz (rComp (iLst (xVar 1)) (gNm 3) (mRet true) (xFrz (rSl (xVar 3) (some (xVar 2)) none)) [3])))))
def F_solved : List D → Option D := runP 13 1 psi_solved
/-- chain_numbers: 0=known 1=moves 2=some 3=lines 4=place 5=parts 6=added 7=line 8=right 9=other 10=to 11=part 12=spot 13=old 14=more 15=found 16=numbers -/
def psi_chain_numbers : P := (sSeq (sSet 2 (vList 1)) (sSeq (sSet 3 (rLst [])) (sSeq (sFor (iLst (xVar 2)) (gNm 4) (sSeq (sAsg (gTp [(gNm 5), (gNm 6)]) (vDix 1 (xVar 4))) (sSeq (sPar 7 8 (rComp (iLst (xVar 2)) (gNm 9) (mRet true) (xIf (tBin oEq (xVar 9) (xVar 4)) (xC d_ONE) (xC d_ZERO)) [9]) (vList 6)) (sSeq (sFor (iLst (xVar 5)) (gTp [(gNm 10), (gNm 11)]) (sIf (vInD (xVar 10) 1) (sSeq (sAsg (gNm 12) (vIndex 2 (xVar 10))) (sAsg (gIx 7 (xVar 12)) (xCall F_less [(vIx 7 (xVar 12)), (xVar 11)]))) (sSet 8 (rComp (iZip (xVar 8) (vDix 0 (xVar 10))) (gTp [(gNm 13), (gNm 14)]) (mRet true) (xCall F_add [(xVar 13), (xCall F_times [(xVar 11), (xVar 14)])]) [13, 14])))) (sDrop (vApp 3 (xFrz (rCat (xVar 7) (xVar 8))))))))) (sSeq (sSet 15 (vDict 0)) (sSeq (sFor (iZip (xVar 2) (xCall F_solved [(xVar 3)])) (gTp [(gNm 4), (gNm 16)]) (sAsg (gDx 15 (xVar 4)) (xVar 16))) (sRet (xVar 15)))))))
def F_chain_numbers : List D → Option D := runP 17 2 psi_chain_numbers
/-- options_of: 0=kind 1=what 2=to -/
def psi_options_of : P := (sRet (xIf (tBin oEq (xVar 0) (xC (.str "coin"))) (xFrz (rComp (iTup (xVar 1)) (gNm 2) (mRet true) (xTup [(xVar 2), (xC d_ZERO)]) [2])) (xFrz (vList 1))))
def F_options_of : List D → Option D := runP 3 2 psi_options_of
/-- moves_by: 0=rows 1=high 2=low 3=found 4=place 5=kind 6=what 7=to -/
def psi_moves_by : P := (sSeq (sSet 3 rDnew) (sSeq (sFor (iTup (xVar 0)) (gTp [(gNm 4), (gNm 5), (gNm 6)]) (sIf (tBin oEq (xVar 5) (xC (.str "chance"))) sNo (sIf (tBin oEq (xVar 5) (xC (.str "coin"))) (sAsg (gDx 3 (xVar 4)) (xTup [(xFrz (rLst [(xTup [(vDix 1 (xVar 4)), (xC d_HALF)]), (xTup [(vDix 2 (xVar 4)), (xC d_HALF)])])), (xFrz (rLst [(xC d_ZERO)]))])) (sIf (tBin oNe (xVar 5) (xC (.str "end"))) sNo sNx)))) (sRet (xVar 3))))
def F_moves_by : List D → Option D := runP 8 3 psi_moves_by
/-- numbers_by: 0=rows 1=moves 2=known 3=place 4=kind 5=what 6=numbers -/
def psi_numbers_by : P := (sSeq (sSet 2 (rDict (xFrz (rComp (iTup (xVar 0)) (gTp [(gNm 3), (gNm 4), (gNm 5)]) (tBin oEq (xVar 4) (xC (.str "end"))) (xTup [(xVar 3), (xFrz (rLst [(xVar 5)]))]) [3, 4, 5])))) (sRet (xFrz (rDict (xFrz (rComp (iItems (xCall F_chain_numbers [(xVar 2), (xVar 1)])) (gTp [(gNm 3), (gNm 6)]) (mRet true) (xTup [(xVar 3), (vIx 6 (xC (.int 0)))]) [3, 6]))))))
def F_numbers_by : List D → Option D := runP 7 2 psi_numbers_by
/-- gains_of: 0=kind 1=what 2=numbers 3=to 4=price -/
def psi_gains_of : P := (sRet (xFrz (rComp (iLst (xCall F_options_of [(xVar 0), (xVar 1)])) (gTp [(gNm 3), (gNm 4)]) (mRet true) (xTup [(xVar 3), (xCall F_less [(vDix 2 (xVar 3)), (xVar 4)])]) [3, 4])))
def F_gains_of : List D → Option D := runP 5 3 psi_gains_of
/-- better_plan: 0=rows 1=plan 2=numbers 3=is_high 4=found 5=is_new 6=place 7=kind 8=what 9=gains 10=now 11=to 12=gain -/
def psi_better_plan : P := (sSeq (sPar 4 5 (vDict 1) (rD (xC (.bl false)))) (sSeq (sFor (iTup (xVar 0)) (gTp [(gNm 6), (gNm 7), (gNm 8)]) (sIf (vInD (xVar 6) 1) (sSeq (sAsg (gNm 9) (xCall F_gains_of [(xVar 7), (xVar 8), (xVar 2)])) (sSeq (sAsg (gNm 10) (xBin oIx (xFrz (rComp (iLst (xVar 9)) (gTp [(gNm 11), (gNm 12)]) (tBin oEq (xVar 11) (vDix 1 (xVar 6))) (xVar 12) [11, 12])) (xC (.int 0)))) (sFor (iLst (xVar 9)) (gTp [(gNm 11), (gNm 12)]) (sIf (tIfB (tVal (xVar 3)) (tVal (xCall F_is_below [(xVar 10), (xVar 12)])) (tVal (xCall F_is_below [(xVar 12), (xVar 10)]))) (sAsg (gTp [(gDx 4 (xVar 6)), (gNm 10), (gNm 5)]) (xTup [(xVar 11), (xVar 12), (xC (.bl true))])) sNx)))) sNx)) (sRet (xIf (tVal (xVar 5)) (xVar 4) (xC .non)))))
def F_better_plan : List D → Option D := runP 13 4 psi_better_plan
/-- nearest_plan: 0=rows 1=near 2=place 3=kind 4=what 5=found 6=many 7=ways 8=to -/
def psi_nearest_plan : P := (sSeq (sSet 1 (rComp (iTup (xVar 0)) (gTp [(gNm 2), (gNm 3), (gNm 4)]) (tBin oEq (xVar 3) (xC (.str "end"))) (xVar 2) [2, 3, 4])) (sSeq (sPar 5 6 rDnew (rD (xC (.int (-1))))) (sSeq (sWhile (tBin oLt (xVar 6) (vLen 1)) (sSeq (sAsg (gNm 6) (vLen 1)) (sFor (iTup (xVar 0)) (gTp [(gNm 2), (gNm 3), (gNm 4)]) (sSeq (sSet 7 (rComp (iTup (xCall F_arrows_of [(xVar 3), (xVar 4)])) (gNm 8) (vIn (xVar 8) 1) (xVar 8) [8])) (sIf (tAnd (tNot (vIn (xVar 2) 1)) (tBin oNe (xVar 7) (xFrz (rLst [])))) (sSeq (sDrop (vApp 1 (xVar 2))) (sIf (tBin oIn (xVar 3) (xTup [(xC (.str "ours")), (xC (.str "coin"))])) (sAsg (gDx 5 (xVar 2)) (vIx 7 (xC (.int 0)))) sNx)) sNx))))) (sSeq (sFor (iTup (xVar 0)) (gTp [(gNm 2), (gNm 3), (gNm 4)]) (sIf (tAnd (tBin oIn (xVar 3) (xTup [(xC (.str "ours")), (xC (.str "coin"))])) (tNot (vInD (xVar 2) 5))) (sAsg (gDx 5 (xVar 2)) (xBin oIx (xCall F_arrows_of [(xVar 3), (xVar 4)]) (xC (.int 0)))) sNx)) (sRet (xVar 5))))))
def F_nearest_plan : List D → Option D := runP 9 1 psi_nearest_plan
/-- low_answer: 0=rows 1=high 2=low 3=place 4=kind 5=what 6=numbers -/
def psi_low_answer : P := (sSeq (sSet 2 (rDict (xFrz (rComp (iTup (xVar 0)) (gTp [(gNm 3), (gNm 4), (gNm 5)]) (tBin oIn (xVar 4) (xTup [(xC (.str "theirs")), (xC (.str "coin"))])) (xTup [(xVar 3), (xBin oIx (xCall F_arrows_of [(xVar 4), (xVar 5)]) (xC (.int 0)))]) [3, 4, 5])))) (sSeq (sWhile (tUn oNotN (xVar 2)) (sSeq (sAsg (gNm 6) (xCall F_numbers_by [(xVar 0), (xCall F_moves_by [(xVar 0), (xVar 1), (xVar 2)])])) (sAsg (gNm 2) (xCall F_better_plan [(xVar 0), (xVar 2), (xVar 6), (xC (.bl false))])))) (sRet (xVar 6))))
def F_low_answer : List D → Option D := runP 7 2 psi_low_answer
/-- worths_of: 0=rows 1=high 2=numbers -/
def psi_worths_of : P := (sSeq (sAsg (gNm 1) (xCall F_nearest_plan [(xVar 0)])) (sSeq (sWhile (tUn oNotN (xVar 1)) (sSeq (sAsg (gNm 2) (xCall F_low_answer [(xVar 0), (xVar 1)])) (sAsg (gNm 1) (xCall F_better_plan [(xVar 0), (xVar 1), (xVar 2), (xC (.bl true))])))) (sRet (xVar 2))))
def F_worths_of : List D → Option D := runP 3 1 psi_worths_of
/-- is_share: 0=value -/
def psi_is_share : P := (sRet (xB (tAnd (tVal (xCall F_is_chance [(xVar 0)])) (tBin oLe (vIx 0 (xC (.int 1))) (xC d_MOST_BOTTOM)))))
def F_is_share : List D → Option D := runP 1 1 psi_is_share
/-- are_parts: 0=web 1=end -/
def psi_are_parts : P := (sRet (xUn oAll (xFrz (rComp (iTup (xProp F_W_ends (xVar 0))) (gNm 1) (mRet true) (xCall F_is_chance [(xMeth F_W_number "number" (xVar 0) [(xVar 1)])]) [1]))))
def F_are_parts : List D → Option D := runP 2 1 psi_are_parts
/-- are_coins: 0=web 1=place 2=kind 3=what -/
def psi_are_coins : P := (sRet (xUn oAll (xFrz (rComp (iTup (xProp F_W_rows (xVar 0))) (gTp [(gNm 1), (gNm 2), (gNm 3)]) (mRet true) (xB (tBin oIn (xVar 2) (xTup [(xC (.str "end")), (xC (.str "coin"))]))) [1, 2, 3]))))
def F_are_coins : List D → Option D := runP 4 1 psi_are_coins
/-- needs_of: 0=web 1=place 2=number -/
def psi_needs_of : P := (sRet (xFrz (rDict (xFrz (rComp (iItems (xCall F_worths_of [(xProp F_W_rows (xVar 0))])) (gTp [(gNm 1), (gNm 2)]) (mRet true) (xTup [(xVar 1), (xCall F_less [(xC d_ONE), (xVar 2)])]) [1, 2])))))
def F_needs_of : List D → Option D := runP 3 1 psi_needs_of
/-- winner_of: 0=need 1=share -/
def psi_winner_of : P := (sSeq (sIf (tBin oEq (xVar 0) (xVar 1)) (sRet (xC .non)) sNx) (sRet (xIf (tVal (xCall F_is_below [(xVar 0), (xVar 1)])) (xC (.str "first")) (xC (.str "second")))))
def F_winner_of : List D → Option D := runP 2 2 psi_winner_of
/-- range_of: 0=found 1=web 2=place 3=share 4=side 5=to 6=around 7=other 8=low 9=high -/
def psi_range_of : P := (sSeq (sSet 6 (rComp (iTup (xMeth F_W_arrows "arrows" (xVar 1) [(xVar 2)])) (gNm 7) (mRet true) (vDix 0 (xVar 7)) [7])) (sSeq (sIf (tBin oEq (xVar 4) (xC (.str "first"))) (sPar 8 9 (rD (xCall F_less [(xCall F_greatest_of_numbers [(xVar 6)]), (xVar 3)])) (rD (xCall F_less [(xVar 3), (vDix 0 (xVar 5))]))) (sPar 8 9 (rD (xCall F_less [(xVar 3), (xCall F_least_of [(xVar 6)])])) (rD (xCall F_less [(vDix 0 (xVar 5)), (xVar 3)])))) (sRet (xIf (tAnd (tBin oEq (xCall F_winner_of [(vDix 0 (xVar 2)), (xVar 3)]) (xVar 4)) (tVal (xCall F_is_below [(xVar 8), (xVar 9)]))) (xTup [(xVar 8), (xVar 9)]) (xC .non)))))
def F_range_of : List D → Option D := runP 10 6 psi_range_of
/-- check_coins: 0=web -/
def psi_check_coins : P := (sSeq (sIf (tNot (tVal (xCall F_are_coins [(xVar 0)]))) sNo sNx) (sIf (tNot (tVal (xCall F_are_parts [(xVar 0)]))) sNo sNx))
def F_check_coins : List D → Option D := runP 1 1 psi_check_coins
/-- check_share: 0=value -/
def psi_check_share : P := (sIf (tNot (tVal (xCall F_is_share [(xVar 0)]))) sNo sNx)
def F_check_share : List D → Option D := runP 1 1 psi_check_share
/-- check_asked: 0=web 1=place 2=share 3=side 4=to -/
def psi_check_asked : P := (sSeq (sDrop (xCall F_check_web [(xVar 0)])) (sSeq (sDrop (xMeth F_W_check_place "check_place" (xVar 0) [(xVar 1)])) (sSeq (sDrop (xCall F_check_share [(xVar 2)])) (sSeq (sIf (tNot (tVal (xCall F_is_one_of [(xVar 3), (xC d_SIDES)]))) sNo sNx) (sSeq (sDrop (xMeth F_W_check_place "check_place" (xVar 0) [(xVar 4)])) (sIf (tBin oNotIn (xVar 4) (xMeth F_W_arrows "arrows" (xVar 0) [(xVar 1)])) sNo sNx))))))
def F_check_asked : List D → Option D := runP 5 5 psi_check_asked
/-- needs: 0=web 1=found 2=place -/
def psi_needs : P := (sSeq (sDrop (xCall F_check_web [(xVar 0)])) (sSeq (sDrop (xCall F_check_coins [(xVar 0)])) (sSeq (sAsg (gNm 1) (xCall F_needs_of [(xVar 0)])) (sRet (xUn oTuple (xFrz (rComp (iTup (xProp F_W_places (xVar 0))) (gNm 2) (mRet true) (vDix 1 (xVar 2)) [2])))))))
def F_needs : List D → Option D := runP 3 1 psi_needs
/-- safe_range: 0=web 1=place 2=share 3=side 4=to -/
def psi_safe_range : P := (sSeq (sDrop (xCall F_check_asked [(xVar 0), (xVar 1), (xVar 2), (xVar 3), (xVar 4)])) (sSeq (sDrop (xCall F_check_coins [(xVar 0)])) (sRet (xCall F_range_of [(xCall F_needs_of [(xVar 0)]), (xVar 0), (xVar 1), (xVar 2), (xVar 3), (xVar 4)]))))
def F_safe_range : List D → Option D := runP 5 5 psi_safe_range
/-- _law_keg: 0=_law_script 1=_law_turn 2=_law_mixed 3=_law_cell 4=_law_own -/
def psi__law_keg : S → Option (List D × S) := (kSeq (sAsg (gNm 2) (xBin oAdd (xC (.int 52027)) (xBin oMul (xC (.int 9091)) (xVar 1)))) (kSeq (sFor (iLst (xFrz (rSl (xVar 0) none (some (xC (.int 6)))))) (gNm 3) (sAsg (gNm 2) (xBin oMod (xUn oInt (xBin oAdd (xBin oMul (xVar 2) (xC (.int 32003))) (xVar 3))) (xC (.int 2147479801))))) (kSeq (sAsg (gNm 4) (xIf (tBin oLt (xVar 1) (vLen 0)) (vIx 0 (xVar 1)) (xBin oAdd (xBin oMul (xC (.int 97)) (xVar 1)) (xC (.int 61))))) (kRet (rLst [(xIf (tBin oGe (xUn oAbs (xVar 4)) (xBin oPow (xC (.int 10)) (xC (.int 17)))) (xUn oAbs (xVar 4)) (xC (.int 0))), (xBin oMod (xUn oInt (xBin oAdd (xBin oAdd (xBin oMul (xVar 2) (xC (.int 127))) (xBin oMul (xVar 4) (xC (.int 89)))) (xC (.int 71)))) (xC (.int 2147479801))), (xC (.int 0))])))))
def F__law_keg : List D → Option (List D) := runK 5 2 psi__law_keg
/-- _law_ladle: 0=_law_keg_here 1=_law_most 2=_law_figure 3=_law_mixed -/
def psi__law_ladle : P := (sSeq (sIf (tBin oGt (xKg 0 0) (xC (.int 0))) (sSeq (sAsg (gTp [(gKg 0 0), (gNm 2)]) (xBin oDivm (xKg 0 0) (xVar 1))) (sRet (xVar 2))) sNx) (sSeq (sAsg (gKg 0 2) (xBin oAdd (xKg 0 2) (xC (.int 1)))) (sSeq (sAsg (gNm 3) (xBin oMod (xUn oInt (xBin oAdd (xBin oAdd (xBin oMul (xKg 0 1) (xC (.int 50033))) (xBin oMul (xBin oMul (xKg 0 2) (xKg 0 2)) (xC (.int 167)))) (xC (.int 101)))) (xC (.int 2147479801)))) (sSeq (sAsg (gKg 0 1) (xBin oMod (xUn oInt (xBin oAdd (xBin oMul (xVar 3) (xBin oAdd (xC (.int 43013)) (xBin oMod (xUn oInt (xVar 3)) (xC (.int 6007))))) (xC (.int 109)))) (xC (.int 2147480611)))) (sRet (xBin oMod (xUn oInt (xBin oDiv (xKg 0 1) (xC (.int 512)))) (xVar 1)))))))
def F__law_ladle : G → List D → Option (D × G) := runG 3 1 psi__law_ladle
/-- _law_one: 0=_law_keg_here 1=_law_menu -/
def psi__law_one : P := (sRet (vIx 1 (xCallG F__law_ladle 0 [(vLen 1)])))
def F__law_one : G → List D → Option (D × G) := runG 1 1 psi__law_one
/-- _law_low: 0=_law_top 1=_law_bottom 2=_law_one_here 3=_law_two -/
def psi__law_low : P := (sSeq (sPar 2 3 (rD (xUn oAbs (xVar 0))) (rD (xVar 1))) (sSeq (sWhile (tBin oGt (xVar 3) (xC (.int 0))) (sPar 2 3 (rD (xVar 3)) (rD (xBin oMod (xUn oInt (xVar 2)) (xVar 3))))) (sRet (xTup [(xBin oDiv (xVar 0) (xVar 2)), (xBin oDiv (xVar 1) (xVar 2))]))))
def F__law_low : List D → Option D := runP 4 2 psi__law_low
/-- _law_gap: 0=_law_one_here 1=_law_two -/
def psi__law_gap : P := (sRet (xCall F__law_low [(xBin oSub (xBin oMul (vIx 0 (xC (.int 0))) (vIx 1 (xC (.int 1)))) (xBin oMul (vIx 1 (xC (.int 0))) (vIx 0 (xC (.int 1))))), (xBin oMul (vIx 0 (xC (.int 1))) (vIx 1 (xC (.int 1))))]))
def F__law_gap : List D → Option D := runP 2 2 psi__law_gap
/-- _law_under: 0=_law_one_here 1=_law_two -/
def psi__law_under : P := (sRet (xB (tBin oLt (xBin oMul (vIx 0 (xC (.int 0))) (vIx 1 (xC (.int 1)))) (xBin oMul (vIx 1 (xC (.int 0))) (vIx 0 (xC (.int 1)))))))
def F__law_under : List D → Option D := runP 2 2 psi__law_under
/-- _law_ends_of: 0=_law_some_here 1=_law_low_here 2=_law_high 3=_law_each -/
def psi__law_ends_of : P := (sSeq (sPar 1 2 (rD (vIx 0 (xC (.int 0)))) (rD (vIx 0 (xC (.int 0))))) (sSeq (sFor (iLst (xVar 0)) (gNm 3) (sSeq (sAsg (gNm 1) (xIf (tVal (xCall F__law_under [(xVar 3), (xVar 1)])) (xVar 3) (xVar 1))) (sAsg (gNm 2) (xIf (tVal (xCall F__law_under [(xVar 2), (xVar 3)])) (xVar 3) (xVar 2))))) (sRet (xFrz (rLst [(xVar 1), (xVar 2)])))))
def F__law_ends_of : List D → Option D := runP 4 1 psi__law_ends_of
/-- _law_names: 0=_law_keg_here 1=_law_many 2=_law_found 3=_law_mixed 4=_law_left 5=_law_k -/
def psi__law_names : P := (sSeq (sSet 2 (rLst [(xC (.str "a")), (xC (.str "a1")), (xC (.str "b")), (xC (.str "coi")), (xC (.str "k9z")), (xC (.str "m")), (xC (.str "x")), (xC (.str "y7")), (xC (.str "z"))])) (sSeq (sWhile (tBin oGt (vLen 2) (xVar 1)) (sDrop (vPop 2 (xCallG F__law_ladle 0 [(vLen 2)])))) (sSeq (sPar 3 4 (rLst []) (vList 2)) (sSeq (sFor (iRange1 (xVar 1)) (gNm 5) (sDrop (vApp 3 (vPop 4 (xCallG F__law_ladle 0 [(vLen 4)]))))) (sRet (xFrz (rLst [(xVar 2), (xVar 3)])))))))
def F__law_names : G → List D → Option (D × G) := runG 5 1 psi__law_names
/-- _law_some: 0=_law_keg_here 1=_law_things 2=_law_most 3=_law_left 4=_law_found 5=_law_k -/
def psi__law_some : P := (sSeq (sPar 3 4 (vList 1) (rLst [])) (sSeq (sFor (iRange1 (xBin oMin (vLen 3) (xBin oAdd (xC (.int 1)) (xCallG F__law_ladle 0 [(xVar 2)])))) (gNm 5) (sDrop (vApp 4 (vPop 3 (xCallG F__law_ladle 0 [(vLen 3)]))))) (sRet (xUn oTuple (xFrz (rSorted (xVar 4)))))))
def F__law_some : G → List D → Option (D × G) := runG 5 2 psi__law_some
/-- _law_coins: 0=_law_keg_here 1=_law_most 2=_law_cap 3=_law_inner 4=_law_ends_here 5=_law_every 6=_law_mixed 7=_law_found 8=_law_done 9=_law_name_here 10=_law_bottom 11=_law_arrows_here 12=_law_each -/
def psi__law_coins : P := (sSeq (sPar 3 4 (rD (xBin oAdd (xC (.int 1)) (xCallG F__law_ladle 0 [(xVar 1)]))) (rD (xBin oAdd (xC (.int 1)) (xCallG F__law_ladle 0 [(xC (.int 3))])))) (sSeq (sAsg (gLs [(gNm 5), (gNm 6)]) (xCallG F__law_names 0 [(xBin oAdd (xVar 3) (xVar 4))])) (sSeq (sPar 7 8 rDnew (rSl (xVar 6) none (some (xVar 4)))) (sSeq (sFor (iLst (xFrz (rSl (xVar 6) none (some (xVar 4))))) (gNm 9) (sSeq (sAsg (gNm 10) (xBin oAdd (xC (.int 1)) (xCallG F__law_ladle 0 [(xC (.int 4))]))) (sAsg (gDx 7 (xVar 9)) (xTup [(xC (.str "end")), (xCall F__law_low [(xCallG F__law_ladle 0 [(xBin oAdd (xVar 10) (xC (.int 1)))]), (xVar 10)])])))) (sSeq (sFor (iLst (xFrz (rSl (xVar 6) (some (xVar 4)) none))) (gNm 9) (sSeq (sAsg (gNm 11) (xCallG F__law_some 0 [(xVar 5), (xVar 2)])) (sSeq (sIf (tBin oEq (xFrz (rComp (iTup (xVar 11)) (gNm 12) (vIn (xVar 12) 8) (xVar 12) [12])) (xFrz (rLst []))) (sAsg (gNm 11) (xUn oTuple (xFrz (rSorted (xBin oCatA (xSlT (xVar 11) (some (xC (.int 1))) none) (xTup [(xCallG F__law_one 0 [(xVar 8)])])))))) sNx) (sSeq (sAsg (gDx 7 (xVar 9)) (xTup [(xC (.str "coin")), (xVar 11)])) (sSet 8 (rCat (xVar 8) (xFrz (rLst [(xVar 9)])))))))) (sRet (xUn oTuple (xFrz (rComp (iLst (xVar 5)) (gNm 9) (mRet true) (xBin oCatA (xTup [(xVar 9)]) (vDix 7 (xVar 9))) [9])))))))))
def F__law_coins : G → List D → Option (D × G) := runG 12 2 psi__law_coins
/-- _law_shares: 0=_law_keg_here 1=_law_some_here 2=_law_found 3=_law_turn 4=_law_bottom 5=_law_each 6=_law_near 7=_law_one_here -/
def psi__law_shares : P := (sSeq (sSet 2 (rLst [(xTup [(xC (.int 0)), (xC (.int 1))]), (xTup [(xC (.int 1)), (xC (.int 1))]), (xTup [(xC (.int 1)), (xC (.int 2))])])) (sSeq (sFor (iRange1 (xC (.int 3))) (gNm 3) (sSeq (sAsg (gNm 4) (xBin oAdd (xC (.int 1)) (xCallG F__law_ladle 0 [(xC (.int 12))]))) (sDrop (vApp 2 (xCall F__law_low [(xCallG F__law_ladle 0 [(xBin oAdd (xVar 4) (xC (.int 1)))]), (xVar 4)]))))) (sSeq (sFor (iLst (xVar 1)) (gNm 5) (sSeq (sSet 6 (rLst [(xVar 5), (xCall F__law_low [(xBin oAdd (vIx 5 (xC (.int 0))) (xC (.int 1))), (xBin oAdd (vIx 5 (xC (.int 1))) (xC (.int 1)))]), (xCall F__law_low [(vIx 5 (xC (.int 0))), (xBin oAdd (vIx 5 (xC (.int 1))) (xC (.int 1)))])])) (sSet 2 (rCat (xVar 2) (xFrz (rComp (iLst (xVar 6)) (gNm 7) (tBin oLe (vIx 7 (xC (.int 1))) (xBin oPow (xC (.int 10)) (xC (.int 6)))) (xVar 7) [7])))))) (sRet (xVar 2)))))
def F__law_shares : G → List D → Option (D × G) := runG 7 1 psi__law_shares
/-- _law_due: 0=_law_found 1=_law_around 2=_law_name_here 3=_law_part 4=_law_who 5=_law_goal 6=_law_low_here 7=_law_high 8=_law_pair 9=_law_is_winning -/
def psi__law_due : P := (sSeq (sAsg (gLs [(gNm 6), (gNm 7)]) (xCall F__law_ends_of [(xVar 1)])) (sSeq (sIf (tBin oEq (xVar 4) (xC (.str "first"))) (sSeq (sAsg (gNm 8) (xTup [(xCall F__law_gap [(xVar 7), (xVar 3)]), (xCall F__law_gap [(xVar 3), (vDix 0 (xVar 5))])])) (sAsg (gNm 9) (xCall F__law_under [(vDix 0 (xVar 2)), (xVar 3)]))) (sSeq (sAsg (gNm 8) (xTup [(xCall F__law_gap [(xVar 3), (xVar 6)]), (xCall F__law_gap [(vDix 0 (xVar 5)), (xVar 3)])])) (sAsg (gNm 9) (xCall F__law_under [(xVar 3), (vDix 0 (xVar 2))])))) (sRet (xIf (tAnd (tVal (xVar 9)) (tVal (xCall F__law_under [(vIx 8 (xC (.int 0))), (vIx 8 (xC (.int 1)))]))) (xVar 8) (xC .non)))))
def F__law_due : List D → Option D := runP 10 6 psi__law_due
/-- _law_right: 0=_law_keg_here 1=_law_rows 2=_law_mine 3=_law_found 4=_law_row 5=_law_each 6=_law_name_here 7=_law_kind_here 8=_law_what_here 9=_law_around 10=_law_some_here 11=_law_low_here 12=_law_high 13=_law_part 14=_law_who 15=_law_ends_here 16=_law_goal 17=_law_due_here 18=_law_is_winning -/
def psi__law_right : P := (sSeq (sAsg (gNm 1) (xCallG F__law_coins 0 [(xCallG F__law_one 0 [(xFrz (rLst [(xC (.int 1)), (xC (.int 2)), (xC (.int 2)), (xC (.int 3))]))]), (xC (.int 3))])) (sSeq (sPar 2 3 (rD (xMake F_W_init [(xVar 1)])) rDnew) (sSeq (sFor (iZip (xVar 1) (xCall F_needs [(xVar 2)])) (gTp [(gNm 4), (gNm 5)]) (sAsg (gDx 3 (vIx 4 (xC (.int 0)))) (xVar 5))) (sSeq (sAsg (gTp [(gNm 6), (gNm 7), (gNm 8)]) (xCallG F__law_one 0 [(xFrz (rComp (iTup (xVar 1)) (gNm 4) (tBin oEq (vIx 4 (xC (.int 1))) (xC (.str "coin"))) (xVar 4) [4]))])) (sSeq (sPar 9 10 (rComp (iTup (xVar 8)) (gNm 5) (mRet true) (vDix 3 (xVar 5)) [5]) (rD (xCallG F__law_shares 0 [(xFrz (rLst [(vDix 3 (xVar 6))]))]))) (sSeq (sAsg (gLs [(gNm 11), (gNm 12)]) (xCall F__law_ends_of [(xVar 9)])) (sSeq (sFor (iLst (xFrz (rLst [(xCallG F__law_one 0 [(xVar 10)]), (vIx 10 (xC (.int (-1))))]))) (gNm 13) (sFor (iLst (xFrz (rLst [(xC (.str "first")), (xC (.str "second"))]))) (gNm 14) (sSeq (sAsg (gNm 15) (xIf (tBin oEq (xVar 14) (xC (.str "first"))) (xFrz (rLst [(vDix 3 (xVar 6)), (xVar 13)])) (xFrz (rLst [(xVar 13), (vDix 3 (xVar 6))])))) (sFor (iTup (xVar 8)) (gNm 16) (sSeq (sAsg (gNm 17) (xCall F__law_due [(xVar 3), (xVar 9), (xVar 6), (xVar 13), (xVar 14), (xVar 16)])) (sSeq (sIf (tBin oNe (xUn oRepr (xCall F_safe_range [(xVar 2), (xVar 6), (xVar 13), (xVar 14), (xVar 16)])) (xUn oRepr (xVar 17))) (sRet (xC (.bl false))) sNx) (sSeq (sAsg (gNm 18) (xCall F__law_under [(vIx 15 (xC (.int 0))), (vIx 15 (xC (.int 1)))])) (sIf (tAnd (tBin oEq (vDix 3 (xVar 16)) (xIf (tBin oEq (xVar 14) (xC (.str "first"))) (xVar 11) (xVar 12))) (tBin oNe (xB (tUn oNotN (xVar 17))) (xVar 18))) (sRet (xC (.bl false))) sNx)))))))) (sSeq (sAsg (gTp [gNm 16, gNm 13, gNm 14]) (xTup [(xCallG F__law_one 0 [(xFrz (vList 8))]), (xCallG F__law_one 0 [(xVar 10)]), (xCallG F__law_one 0 [(xFrz (rLst [(xC (.str "first")), (xC (.str "second"))]))])])) (sSeq (sAsg (gNm 17) (xCall F__law_due [(xVar 3), (xVar 9), (xVar 6), (xVar 13), (xVar 14), (xVar 16)])) (sRet (xB (tBin oEq (xUn oRepr (xCallR F_safe_range [(xVar 16), (xVar 14), (xVar 13), (xVar 6), (xVar 2)])) (xUn oRepr (xVar 17))))))))))))))
def F__law_right : G → List D → Option (D × G) := runG 18 0 psi__law_right
/-- law: 0=_law_script 1=_law_turn -/
def psi_law : P := (sRet (xUn oAll (xFrz (rComp (iRange1 (xBin oMax (xC (.int 2)) (xBin oMin (vLen 0) (xC (.int 3))))) (gNm 1) (mRet true) (xCallK F__law_right (rCallF F__law_keg [(xVar 0), (xVar 1)])) [1]))))
def F_law : List D → Option D := runP 2 1 psi_law
end Dl
end
end

/-! ## Walk -/
section
set_option Elab.async false
set_option linter.all false
set_option maxRecDepth 100000
set_option maxHeartbeats 4000000
noncomputable section
namespace Dl
open PySem PySem.Spec PyProof.Rows L2

def top (i : Nat) : Stmt := PySem.Challenge.pw_placeworths_k50_whole_ranges_of_safe_bid.main.body.getD i (.Pass ⟨0, 0, 0, 0⟩)
def wtop (i : Nat) : Stmt := (clsB (top 55)).getD i (.Pass ⟨0, 0, 0, 0⟩)
abbrev FnT (K : PySem.W.Frag) (x q : Str) (st : Stmt) (f : Addr) (fd : FuncData) : Prop := FunD K x q (defArgs st) (defBody st) (defScope st) [] [] f fd

theorem sc_is_between : FnScope ["value", "least", "most"] ["value", "least", "most"] (defScope (top 18)) := ⟨rfl, rfl, rfl, by decide +kernel, rfl, by decide +kernel, by decide +kernel⟩
theorem ok_is_between {P : Program} {w : World} {K : PySem.W.Frag} {mg : Str → Option Value} {base : Heap} {C f : Addr} {fd : FuncData} (g : Bt mg) (wb : Wb K mg C)  (F : FnT K "is_between" "is_between" (top 18) f fd) :
    FnOk P w K mg base CX0 1 f fd ["value", "least", "most"] (spP K C F_is_between) := by
  have sc := sc_is_between
  refine fn_P F sc rfl rfl fun cdv A outer s H E hr => ?_
  exact (pss_consS (ps_ifS (PWd.pt (pw_orD (pt_notD (pt_valD (pd_isiT i_int rfl g.isi rfl g.int (by decide +kernel) (pd_var 0)))) (pw_or1D (pt_valD (pd_isiT i_bool rfl g.isi rfl g.bool (by decide +kernel) (pd_var 0)))))) (pss_oneS (ps_retS pd_bl)) pss_nilS)
    (pss_oneS (ps_retS (pd_andD (pd_orD (pd_isN (pd_var 1)) (pd_oneD (pd_cmp c_ge (pd_var 0) (pd_var 1) rfl))) (pd_oneD (pd_orD (pd_isN (pd_var 2)) (pd_oneD (pd_cmp c_le (pd_var 0) (pd_var 2) rfl))))))))
theorem sc_is_one_of : FnScope ["value", "words"] ["value", "words"] (defScope (top 19)) := ⟨rfl, rfl, rfl, by decide +kernel, rfl, by decide +kernel, by decide +kernel⟩
theorem ok_is_one_of {P : Program} {w : World} {K : PySem.W.Frag} {mg : Str → Option Value} {base : Heap} {C f : Addr} {fd : FuncData} (g : Bt mg) (wb : Wb K mg C)  (F : FnT K "is_one_of" "is_one_of" (top 19) f fd) :
    FnOk P w K mg base CX0 1 f fd ["value", "words"] (spP K C F_is_one_of) := by
  have sc := sc_is_one_of
  refine fn_P F sc rfl rfl fun cdv A outer s H E hr => ?_
  exact (pss_oneS (ps_retS (pd_andD (pd_isiT i_str rfl g.isi rfl g.str (by decide +kernel) (pd_var 0)) (pd_oneD (pd_inv (pd_var 0) 1 (pv 1))))))
theorem sc_common : FnScope ["first", "last"] ["first", "last"] (defScope (top 20)) := ⟨rfl, rfl, rfl, by decide +kernel, rfl, by decide +kernel, by decide +kernel⟩
theorem ok_common {P : Program} {w : World} {K : PySem.W.Frag} {mg : Str → Option Value} {base : Heap} {C f : Addr} {fd : FuncData} (g : Bt mg) (wb : Wb K mg C)  (F : FnT K "common" "common" (top 20) f fd) :
    FnOk P w K mg base CX0 1 f fd ["first", "last"] (spP K C F_common) := by
  have sc := sc_common
  refine fn_P F sc rfl rfl fun cdv A outer s H E hr => ?_
  exact (pss_consS (ps_asgS (pd_callB (k_abs) rfl g.abs (by decide +kernel) (pd_var 0)) (pg_name (i := 0) sc.nd rfl (Or.inl rfl)) (go_name 0).h)
    (pss_consS (ps_whileS owns0 (pt_cmpD c_gt (pd_var 1) pd_int rfl) (pss_oneS (ps_parS rfl sc.nd (i := 0) (j := 1) rfl rfl (by decide) rfl rfl (pr_d (pd_var 1)) (pr_d (pd_mod (pd_callTy (k_int) rfl g.int (by decide +kernel) (pd_var 0)) (pd_var 1))) rfl)))
    (pss_oneS (ps_retS (pd_var 0)))))
theorem sc_lowest : FnScope ["top", "bottom", "shared"] ["top", "bottom"] (defScope (top 21)) := ⟨rfl, rfl, rfl, by decide +kernel, rfl, by decide +kernel, by decide +kernel⟩
theorem ok_lowest {P : Program} {w : World} {K : PySem.W.Frag} {mg : Str → Option Value} {base : Heap} {C f : Addr} {fd : FuncData} (g : Bt mg) (wb : Wb K mg C) (c_common : FnD P w K mg base "common" 1 (spP K C F_common)) (F : FnT K "lowest" "lowest" (top 21) f fd) :
    FnOk P w K mg base CX0 2 f fd ["top", "bottom"] (spP K C F_lowest) := by
  have sc := sc_lowest
  refine fn_P F sc rfl rfl fun cdv A outer s H E hr => ?_
  exact (pss_consS (ps_asgS (pd_call c_common (hr.mono (by decide)) rfl (pl_cons (pd_var 0) (pl_cons (pd_var 1) pl_nil))) (pg_name (i := 2) sc.nd rfl (Or.inl rfl)) (go_name 2).h)
    (pss_oneS (ps_retS (pd_tup (pl_cons (pd_div (pd_var 0) (pd_var 2)) (pl_cons (pd_div (pd_var 1) (pd_var 2)) pl_nil))))))
theorem sc_is_fraction : FnScope ["value"] ["value"] (defScope (top 22)) := ⟨rfl, rfl, rfl, by decide +kernel, rfl, by decide +kernel, by decide +kernel⟩
theorem ok_is_fraction {P : Program} {w : World} {K : PySem.W.Frag} {mg : Str → Option Value} {base : Heap} {C f : Addr} {fd : FuncData} (g : Bt mg) (wb : Wb K mg C) (c_common : FnD P w K mg base "common" 1 (spP K C F_common)) (c_is_between : FnD P w K mg base "is_between" 1 (spP K C F_is_between)) (F : FnT K "is_fraction" "is_fraction" (top 22) f fd) :
    FnOk P w K mg base CX0 2 f fd ["value"] (spP K C F_is_fraction) := by
  have sc := sc_is_fraction
  refine fn_P F sc rfl rfl fun cdv A outer s H E hr => ?_
  exact (pss_consS (ps_ifS (PWd.pt (pw_orD (pt_notD (pt_valD (pd_isiT i_tuple rfl g.isi rfl g.tuple (by decide +kernel) (pd_var 0)))) (pw_or1D (pt_cmpD (c_ne (u64 hr)) (pd_lenv 0 (pv 0) rfl g.len) pd_int rfl)))) (pss_oneS (ps_retS pd_bl)) pss_nilS)
    (pss_consS (ps_ifS (PWd.pt (pw_orD (pt_notD (pt_valD (pd_call c_is_between (hr.mono (by decide)) rfl (pl_cons (pd_ixv 0 (pv 0) pd_int) (pl_cons pd_non (pl_cons pd_non pl_nil)))))) (pw_or1D (pt_notD (pt_valD (pd_call c_is_between (hr.mono (by decide)) rfl (pl_cons (pd_ixv 0 (pv 0) pd_int) (pl_cons pd_int (pl_cons pd_non pl_nil))))))))) (pss_oneS (ps_retS pd_bl)) pss_nilS)
    (pss_oneS (ps_retS (pd_cmp (c_eq (u64 hr)) (pd_call c_common (hr.mono (by decide)) rfl (pl_cons (pd_ixv 0 (pv 0) pd_int) (pl_cons (pd_ixv 0 (pv 0) pd_int) pl_nil))) pd_int rfl)))))
theorem sc_add : FnScope ["one", "other"] ["one", "other"] (defScope (top 23)) := ⟨rfl, rfl, rfl, by decide +kernel, rfl, by decide +kernel, by decide +kernel⟩
theorem ok_add {P : Program} {w : World} {K : PySem.W.Frag} {mg : Str → Option Value} {base : Heap} {C f : Addr} {fd : FuncData} (g : Bt mg) (wb : Wb K mg C) (c_lowest : FnD P w K mg base "lowest" 2 (spP K C F_lowest)) (F : FnT K "add" "add" (top 23) f fd) :
    FnOk P w K mg base CX0 3 f fd ["one", "other"] (spP K C F_add) := by
  have sc := sc_add
  refine fn_P F sc rfl rfl fun cdv A outer s H E hr => ?_
  exact (pss_oneS (ps_retS (pd_call c_lowest (hr.mono (by decide)) rfl (pl_cons (pd_add (pd_mul (pd_ixv 0 (pv 0) pd_int) (pd_ixv 1 (pv 1) pd_int)) (pd_mul (pd_ixv 1 (pv 1) pd_int) (pd_ixv 0 (pv 0) pd_int))) (pl_cons (pd_mul (pd_ixv 0 (pv 0) pd_int) (pd_ixv 1 (pv 1) pd_int)) pl_nil)))))
theorem sc_less : FnScope ["one", "other"] ["one", "other"] (defScope (top 24)) := ⟨rfl, rfl, rfl, by decide +kernel, rfl, by decide +kernel, by decide +kernel⟩
theorem ok_less {P : Program} {w : World} {K : PySem.W.Frag} {mg : Str → Option Value} {base : Heap} {C f : Addr} {fd : FuncData} (g : Bt mg) (wb : Wb K mg C) (c_lowest : FnD P w K mg base "lowest" 2 (spP K C F_lowest)) (F : FnT K "less" "less" (top 24) f fd) :
    FnOk P w K mg base CX0 3 f fd ["one", "other"] (spP K C F_less) := by
  have sc := sc_less
  refine fn_P F sc rfl rfl fun cdv A outer s H E hr => ?_
  exact (pss_oneS (ps_retS (pd_call c_lowest (hr.mono (by decide)) rfl (pl_cons (pd_sub (pd_mul (pd_ixv 0 (pv 0) pd_int) (pd_ixv 1 (pv 1) pd_int)) (pd_mul (pd_ixv 1 (pv 1) pd_int) (pd_ixv 0 (pv 0) pd_int))) (pl_cons (pd_mul (pd_ixv 0 (pv 0) pd_int) (pd_ixv 1 (pv 1) pd_int)) pl_nil)))))
theorem sc_times : FnScope ["one", "other"] ["one", "other"] (defScope (top 25)) := ⟨rfl, rfl, rfl, by decide +kernel, rfl, by decide +kernel, by decide +kernel⟩
theorem ok_times {P : Program} {w : World} {K : PySem.W.Frag} {mg : Str → Option Value} {base : Heap} {C f : Addr} {fd : FuncData} (g : Bt mg) (wb : Wb K mg C) (c_lowest : FnD P w K mg base "lowest" 2 (spP K C F_lowest)) (F : FnT K "times" "times" (top 25) f fd) :
    FnOk P w K mg base CX0 3 f fd ["one", "other"] (spP K C F_times) := by
  have sc := sc_times
  refine fn_P F sc rfl rfl fun cdv A outer s H E hr => ?_
  exact (pss_oneS (ps_retS (pd_call c_lowest (hr.mono (by decide)) rfl (pl_cons (pd_mul (pd_ixv 0 (pv 0) pd_int) (pd_ixv 1 (pv 1) pd_int)) (pl_cons (pd_mul (pd_ixv 0 (pv 0) pd_int) (pd_ixv 1 (pv 1) pd_int)) pl_nil)))))
theorem sc_is_below : FnScope ["one", "other"] ["one", "other"] (defScope (top 26)) := ⟨rfl, rfl, rfl, by decide +kernel, rfl, by decide +kernel, by decide +kernel⟩
theorem ok_is_below {P : Program} {w : World} {K : PySem.W.Frag} {mg : Str → Option Value} {base : Heap} {C f : Addr} {fd : FuncData} (g : Bt mg) (wb : Wb K mg C)  (F : FnT K "is_below" "is_below" (top 26) f fd) :
    FnOk P w K mg base CX0 1 f fd ["one", "other"] (spP K C F_is_below) := by
  have sc := sc_is_below
  refine fn_P F sc rfl rfl fun cdv A outer s H E hr => ?_
  exact (pss_oneS (ps_retS (pd_cmp c_lt (pd_mul (pd_ixv 0 (pv 0) pd_int) (pd_ixv 1 (pv 1) pd_int)) (pd_mul (pd_ixv 1 (pv 1) pd_int) (pd_ixv 0 (pv 0) pd_int)) rfl)))
theorem sc_lesser : FnScope ["one", "other"] ["one", "other"] (defScope (top 27)) := ⟨rfl, rfl, rfl, by decide +kernel, rfl, by decide +kernel, by decide +kernel⟩
theorem ok_lesser {P : Program} {w : World} {K : PySem.W.Frag} {mg : Str → Option Value} {base : Heap} {C f : Addr} {fd : FuncData} (g : Bt mg) (wb : Wb K mg C) (c_is_below : FnD P w K mg base "is_below" 1 (spP K C F_is_below)) (F : FnT K "lesser" "lesser" (top 27) f fd) :
    FnOk P w K mg base CX0 2 f fd ["one", "other"] (spP K C F_lesser) := by
  have sc := sc_lesser
  refine fn_P F sc rfl rfl fun cdv A outer s H E hr => ?_
  exact (pss_oneS (ps_retS (pd_ifE (pt_valD (pd_call c_is_below (hr.mono (by decide)) rfl (pl_cons (pd_var 1) (pl_cons (pd_var 0) pl_nil)))) (pd_var 1) (pd_var 0))))
theorem sc_greater : FnScope ["one", "other"] ["one", "other"] (defScope (top 28)) := ⟨rfl, rfl, rfl, by decide +kernel, rfl, by decide +kernel, by decide +kernel⟩
theorem ok_greater {P : Program} {w : World} {K : PySem.W.Frag} {mg : Str → Option Value} {base : Heap} {C f : Addr} {fd : FuncData} (g : Bt mg) (wb : Wb K mg C) (c_is_below : FnD P w K mg base "is_below" 1 (spP K C F_is_below)) (F : FnT K "greater" "greater" (top 28) f fd) :
    FnOk P w K mg base CX0 2 f fd ["one", "other"] (spP K C F_greater) := by
  have sc := sc_greater
  refine fn_P F sc rfl rfl fun cdv A outer s H E hr => ?_
  exact (pss_oneS (ps_retS (pd_ifE (pt_valD (pd_call c_is_below (hr.mono (by decide)) rfl (pl_cons (pd_var 0) (pl_cons (pd_var 1) pl_nil)))) (pd_var 1) (pd_var 0))))
theorem sc_is_chance : FnScope ["value"] ["value"] (defScope (top 31)) := ⟨rfl, rfl, rfl, by decide +kernel, rfl, by decide +kernel, by decide +kernel⟩
theorem ok_is_chance {P : Program} {w : World} {K : PySem.W.Frag} {mg : Str → Option Value} {base : Heap} {C f : Addr} {fd : FuncData} (g : Bt mg) (wb : Wb K mg C) (c_is_fraction : FnD P w K mg base "is_fraction" 2 (spP K C F_is_fraction)) (F : FnT K "is_chance" "is_chance" (top 31) f fd) :
    FnOk P w K mg base CX0 3 f fd ["value"] (spP K C F_is_chance) := by
  have sc := sc_is_chance
  refine fn_P F sc rfl rfl fun cdv A outer s H E hr => ?_
  exact (pss_oneS (ps_retS (pd_andD (pd_toB (pd_call c_is_fraction (hr.mono (by decide)) rfl (pl_cons (pd_var 0) pl_nil))) (pd_oneD (pd_chainD c_le c_le pd_int (pd_ixv 0 (pv 0) pd_int) (pd_ixv 0 (pv 0) pd_int))))))
theorem sc_least_of : FnScope ["numbers", "found", "one"] ["numbers"] (defScope (top 32)) := ⟨rfl, rfl, rfl, by decide +kernel, rfl, by decide +kernel, by decide +kernel⟩
theorem ok_least_of {P : Program} {w : World} {K : PySem.W.Frag} {mg : Str → Option Value} {base : Heap} {C f : Addr} {fd : FuncData} (g : Bt mg) (wb : Wb K mg C) (c_lesser : FnD P w K mg base "lesser" 2 (spP K C F_lesser)) (F : FnT K "least_of" "least_of" (top 32) f fd) :
    FnOk P w K mg base CX0 3 f fd ["numbers"] (spP K C F_least_of) := by
  have sc := sc_least_of
  refine fn_P F sc rfl rfl fun cdv A outer s H E hr => ?_
  exact (pss_consS (ps_asgS (pd_ixv 0 (pv 0) pd_int) (pg_name (i := 1) sc.nd rfl (Or.inl rfl)) (go_name 1).h)
    (pss_consS (ps_forS owns0 rfl (w_lst (pd_frz (pr_sl (pd_var 0) (po_someD pd_int) po_noneD))) (pg_name (i := 2) sc.nd rfl (Or.inl rfl)) ((go_name 2)).h (pss_oneS (ps_asgS (pd_call c_lesser (hr.mono (by decide)) rfl (pl_cons (pd_var 1) (pl_cons (pd_var 2) pl_nil))) (pg_name (i := 1) sc.nd rfl (Or.inl rfl)) (go_name 1).h)))
    (pss_oneS (ps_retS (pd_var 1)))))
theorem sc_greatest_of_numbers : FnScope ["numbers", "found", "one"] ["numbers"] (defScope (top 33)) := ⟨rfl, rfl, rfl, by decide +kernel, rfl, by decide +kernel, by decide +kernel⟩
theorem ok_greatest_of_numbers {P : Program} {w : World} {K : PySem.W.Frag} {mg : Str → Option Value} {base : Heap} {C f : Addr} {fd : FuncData} (g : Bt mg) (wb : Wb K mg C) (c_greater : FnD P w K mg base "greater" 2 (spP K C F_greater)) (F : FnT K "greatest_of_numbers" "greatest_of_numbers" (top 33) f fd) :
    FnOk P w K mg base CX0 3 f fd ["numbers"] (spP K C F_greatest_of_numbers) := by
  have sc := sc_greatest_of_numbers
  refine fn_P F sc rfl rfl fun cdv A outer s H E hr => ?_
  exact (pss_consS (ps_asgS (pd_ixv 0 (pv 0) pd_int) (pg_name (i := 1) sc.nd rfl (Or.inl rfl)) (go_name 1).h)
    (pss_consS (ps_forS owns0 rfl (w_lst (pd_frz (pr_sl (pd_var 0) (po_someD pd_int) po_noneD))) (pg_name (i := 2) sc.nd rfl (Or.inl rfl)) ((go_name 2)).h (pss_oneS (ps_asgS (pd_call c_greater (hr.mono (by decide)) rfl (pl_cons (pd_var 1) (pl_cons (pd_var 2) pl_nil))) (pg_name (i := 1) sc.nd rfl (Or.inl rfl)) (go_name 1).h)))
    (pss_oneS (ps_retS (pd_var 1)))))
theorem sc_is_place : FnScope ["value", "sign"] ["value"] (defScope (top 43)) := ⟨rfl, rfl, rfl, by decide +kernel, rfl, by decide +kernel, by decide +kernel⟩
theorem ok_is_place {P : Program} {w : World} {K : PySem.W.Frag} {mg : Str → Option Value} {base : Heap} {C f : Addr} {fd : FuncData} (g : Bt mg) (wb : Wb K mg C) (k_SIGNS : GlC K mg C "SIGNS" d_SIGNS) (k_SMALL : GlC K mg C "SMALL" d_SMALL) (F : FnT K "is_place" "is_place" (top 43) f fd) :
    FnOk P w K mg base CX0 1 f fd ["value"] (spP K C F_is_place) := by
  have sc := sc_is_place
  refine fn_P F sc rfl rfl fun cdv A outer s H E hr => ?_
  exact (pss_consS (ps_ifS (PWd.pt (pw_orD (pt_notD (pt_valD (pd_isiT i_str rfl g.isi rfl g.str (by decide +kernel) (pd_var 0)))) (pw_or1D (pt_notD (pt_chainD c_le c_le pd_int (pd_lenv 0 (pv 0) rfl g.len) pd_int))))) (pss_oneS (ps_retS pd_bl)) pss_nilS)
    (pss_oneS (ps_retS (pd_andD (pd_cmp c_sign (pd_ixv 0 (pv 0) pd_int) (pd_gl k_SMALL rfl) rfl) (pd_oneD (pd_toB (pd_callB (k_all rfl) rfl g.all (by decide +kernel) (pd_frz (pr_comp (own := [("sign", 1)]) rfl sc.nd (w_str (h0 := (pd_var 0))) (blkOk_by (own := [("sign", 1)]) (by rfl)) (go_name 1) (by decide) (fun _ _ _ _ _ => (pg_name (i := 1) sc.nd rfl (Or.inl rfl))) (fun _ _ _ _ _ => pts_nilD) (fun _ _ _ _ _ => (pd_cmp c_sign (pd_var 1) (pd_gl k_SIGNS rfl) rfl)))))))))))
theorem sc_are_places_L : FnScope ["places", "place", "index"] ["places"] (defScope (top 44)) := ⟨rfl, rfl, rfl, by decide +kernel, rfl, by decide +kernel, by decide +kernel⟩
theorem ok_are_places_L {P : Program} {w : World} {K : PySem.W.Frag} {mg : Str → Option Value} {base : Heap} {C f : Addr} {fd : FuncData} (g : Bt mg) (wb : Wb K mg C) (c_is_place : FnD P w K mg base "is_place" 1 (spP K C F_is_place)) (F : FnT K "are_places" "are_places" (top 44) f fd) :
    FnOk P w K mg base CX0 2 f fd ["places"] (spP K C F_are_places_L) := by
  have sc := sc_are_places_L
  refine fn_P F sc rfl rfl fun cdv A outer s H E hr => ?_
  exact (pss_consS (ps_ifS (pt_notD (pt_valD (pd_callB (k_all rfl) rfl g.all (by decide +kernel) (pd_frz (pr_comp (own := [("place", 1)]) rfl sc.nd (w_lst (pd_var 0)) (blkOk_by (own := [("place", 1)]) (by rfl)) (go_name 1) (by decide) (fun _ _ _ _ _ => (pg_name (i := 1) sc.nd rfl (Or.inl rfl))) (fun _ _ _ _ _ => pts_nilD) (fun _ _ _ _ _ => (pd_call c_is_place (hr.mono (by decide)) rfl (pl_cons (pd_var 1) pl_nil)))))))) (pss_oneS (ps_retS pd_bl)) pss_nilS)
    (pss_oneS (ps_retS (pd_callB (k_all rfl) rfl g.all (by decide +kernel) (pd_frz (pr_comp (own := [("index", 2)]) rfl sc.nd (w_range1 rfl g.range (pd_sub (pd_lenv 0 (pv 0) rfl g.len) pd_int)) (blkOk_by (own := [("index", 2)]) (by rfl)) (go_name 2) (by decide) (fun _ _ _ _ _ => (pg_name (i := 2) sc.nd rfl (Or.inl rfl))) (fun _ _ _ _ _ => pts_nilD) (fun _ _ _ _ _ => (pd_cmp c_lt (pd_ixv 0 (pv 0) (pd_var 2)) (pd_ixv 0 (pv 0) (pd_add (pd_var 2) pd_int)) rfl))))))))
theorem sc_are_places_T : FnScope ["places", "place", "index"] ["places"] (defScope (top 44)) := ⟨rfl, rfl, rfl, by decide +kernel, rfl, by decide +kernel, by decide +kernel⟩
theorem ok_are_places_T {P : Program} {w : World} {K : PySem.W.Frag} {mg : Str → Option Value} {base : Heap} {C f : Addr} {fd : FuncData} (g : Bt mg) (wb : Wb K mg C) (c_is_place : FnD P w K mg base "is_place" 1 (spP K C F_is_place)) (F : FnT K "are_places" "are_places" (top 44) f fd) :
    FnOk P w K mg base CX0 2 f fd ["places"] (spP K C F_are_places_T) := by
  have sc := sc_are_places_T
  refine fn_P F sc rfl rfl fun cdv A outer s H E hr => ?_
  exact (pss_consS (ps_ifS (pt_notD (pt_valD (pd_callB (k_all rfl) rfl g.all (by decide +kernel) (pd_frz (pr_comp (own := [("place", 1)]) rfl sc.nd (w_tup (pd_var 0)) (blkOk_by (own := [("place", 1)]) (by rfl)) (go_name 1) (by decide) (fun _ _ _ _ _ => (pg_name (i := 1) sc.nd rfl (Or.inl rfl))) (fun _ _ _ _ _ => pts_nilD) (fun _ _ _ _ _ => (pd_call c_is_place (hr.mono (by decide)) rfl (pl_cons (pd_var 1) pl_nil)))))))) (pss_oneS (ps_retS pd_bl)) pss_nilS)
    (pss_oneS (ps_retS (pd_callB (k_all rfl) rfl g.all (by decide +kernel) (pd_frz (pr_comp (own := [("index", 2)]) rfl sc.nd (w_range1 rfl g.range (pd_sub (pd_lenv 0 (pv 0) rfl g.len) pd_int)) (blkOk_by (own := [("index", 2)]) (by rfl)) (go_name 2) (by decide) (fun _ _ _ _ _ => (pg_name (i := 2) sc.nd rfl (Or.inl rfl))) (fun _ _ _ _ _ => pts_nilD) (fun _ _ _ _ _ => (pd_cmp c_lt (pd_ixv 0 (pv 0) (pd_var 2)) (pd_ixv 0 (pv 0) (pd_add (pd_var 2) pd_int)) rfl))))))))
theorem sc_is_what : FnScope ["kind", "value", "place", "number", "numbers"] ["kind", "value"] (defScope (top 46)) := ⟨rfl, rfl, rfl, by decide +kernel, rfl, by decide +kernel, by decide +kernel⟩
theorem ok_is_what {P : Program} {w : World} {K : PySem.W.Frag} {mg : Str → Option Value} {base : Heap} {C f : Addr} {fd : FuncData} (g : Bt mg) (wb : Wb K mg C) (c_are_places_T : FnD P w K mg base "are_places" 2 (spP K C F_are_places_T)) (c_is_fraction : FnD P w K mg base "is_fraction" 2 (spP K C F_is_fraction)) (k_MOST_ARROWS : GlC K mg C "MOST_ARROWS" d_MOST_ARROWS) (F : FnT K "is_what" "is_what" (top 46) f fd) :
    FnOk P w K mg base CX0 3 f fd ["kind", "value"] (spP K C F_is_what) := by
  have sc := sc_is_what
  refine fn_P F sc rfl rfl fun cdv A outer s H E hr => ?_
  exact (pss_consS (ps_ifS (pt_cmpD (c_eq (u64 hr)) (pd_var 0) pd_str rfl) (pss_oneS (ps_retS (pd_call c_is_fraction (hr.mono (by decide)) rfl (pl_cons (pd_var 1) pl_nil)))) pss_nilS)
    (pss_consS (ps_ifS (pt_cmpD (c_eq (u64 hr)) (pd_var 0) pd_str rfl) (pss_oneS (ps_retS (pd_andD (pd_isiT i_tuple rfl g.isi rfl g.tuple (by decide +kernel) (pd_var 1)) (pd_andD (pd_chainD c_le c_le pd_int (pd_lenv 1 (pv 1) rfl g.len) (pd_gl k_MOST_ARROWS rfl)) (pd_oneD (pd_toB (pd_call c_are_places_T (hr.mono (by decide)) rfl (pl_cons (pd_var 1) pl_nil)))))))) pss_nilS)
    pss_neverS))
theorem sc_arrows_of : FnScope ["kind", "what", "place", "number"] ["kind", "what"] (defScope (top 47)) := ⟨rfl, rfl, rfl, by decide +kernel, rfl, by decide +kernel, by decide +kernel⟩
theorem ok_arrows_of {P : Program} {w : World} {K : PySem.W.Frag} {mg : Str → Option Value} {base : Heap} {C f : Addr} {fd : FuncData} (g : Bt mg) (wb : Wb K mg C)  (F : FnT K "arrows_of" "arrows_of" (top 47) f fd) :
    FnOk P w K mg base CX0 1 f fd ["kind", "what"] (spP K C F_arrows_of) := by
  have sc := sc_arrows_of
  refine fn_P F sc rfl rfl fun cdv A outer s H E hr => ?_
  exact (pss_consS (ps_ifS (pt_cmpD (c_eq (u64 hr)) (pd_var 0) pd_str rfl) (pss_oneS (ps_retS (pd_tup pl_nil))) pss_nilS)
    (pss_oneS (ps_retS (pd_ifE (pt_cmpD (c_eq (u64 hr)) (pd_var 0) pd_str rfl) (pd_var 1) (pd_callTy (k_tuple) rfl g.tuple (by decide +kernel) (pd_frz (pr_comp (own := [("place", 2), ("number", 3)]) rfl sc.nd (w_tup (pd_var 1)) (blkOk_by (own := [("place", 2), ("number", 3)]) (by rfl)) (go_tup (gs_cons (go_name 2) (gs_cons (go_name 3) gs_nil))) (by decide) (fun _ _ _ _ _ => (pg_tup rfl (pgs_cons (pg_name (i := 2) sc.nd rfl (Or.inl rfl)) (pgs_cons (pg_name (i := 3) sc.nd rfl (Or.inl rfl)) pgs_nil)))) (fun _ _ _ _ _ => pts_nilD) (fun _ _ _ _ _ => (pd_var 2)))))))))
theorem sc_are_triples : FnScope ["value", "row"] ["value"] (defScope (top 48)) := ⟨rfl, rfl, rfl, by decide +kernel, rfl, by decide +kernel, by decide +kernel⟩
theorem ok_are_triples {P : Program} {w : World} {K : PySem.W.Frag} {mg : Str → Option Value} {base : Heap} {C f : Addr} {fd : FuncData} (g : Bt mg) (wb : Wb K mg C) (c_are_places_L : FnD P w K mg base "are_places" 2 (spP K C F_are_places_L)) (k_MOST_PLACES : GlC K mg C "MOST_PLACES" d_MOST_PLACES) (F : FnT K "are_triples" "are_triples" (top 48) f fd) :
    FnOk P w K mg base CX0 3 f fd ["value"] (spP K C F_are_triples) := by
  have sc := sc_are_triples
  refine fn_P F sc rfl rfl fun cdv A outer s H E hr => ?_
  exact (pss_consS (ps_ifS (PWd.pt (pw_orD (pt_notD (pt_valD (pd_isiT i_tuple rfl g.isi rfl g.tuple (by decide +kernel) (pd_var 0)))) (pw_or1D (pt_notD (pt_chainD c_le c_le pd_int (pd_lenv 0 (pv 0) rfl g.len) (pd_gl k_MOST_PLACES rfl)))))) (pss_oneS (ps_retS pd_bl)) pss_nilS)
    (pss_consS (ps_ifS (pt_notD (pt_valD (pd_callB (k_all rfl) rfl g.all (by decide +kernel) (pd_frz (pr_comp (own := [("row", 1)]) rfl sc.nd (w_tup (pd_var 0)) (blkOk_by (own := [("row", 1)]) (by rfl)) (go_name 1) (by decide) (fun _ _ _ _ _ => (pg_name (i := 1) sc.nd rfl (Or.inl rfl))) (fun _ _ _ _ _ => pts_nilD) (fun _ _ _ _ _ => (pd_andD (pd_isiT i_tuple rfl g.isi rfl g.tuple (by decide +kernel) (pd_var 1)) (pd_oneD (pd_cmp (c_eq (u64 hr)) (pd_lenv 1 (pv 1) rfl g.len) pd_int rfl))))))))) (pss_oneS (ps_retS pd_bl)) pss_nilS)
    (pss_oneS (ps_retS (pd_call c_are_places_L (hr.mono (by decide)) rfl (pl_cons (pd_frz (pr_comp (own := [("row", 1)]) rfl sc.nd (w_tup (pd_var 0)) (blkOk_by (own := [("row", 1)]) (by rfl)) (go_name 1) (by decide) (fun _ _ _ _ _ => (pg_name (i := 1) sc.nd rfl (Or.inl rfl))) (fun _ _ _ _ _ => pts_nilD) (fun _ _ _ _ _ => (pd_ixv 1 (pv 1) pd_int)))) pl_nil))))))
theorem sc_are_rows : FnScope ["value", "row", "places", "to"] ["value"] (defScope (top 49)) := ⟨rfl, rfl, rfl, by decide +kernel, rfl, by decide +kernel, by decide +kernel⟩
theorem ok_are_rows {P : Program} {w : World} {K : PySem.W.Frag} {mg : Str → Option Value} {base : Heap} {C f : Addr} {fd : FuncData} (g : Bt mg) (wb : Wb K mg C) (c_are_triples : FnD P w K mg base "are_triples" 3 (spP K C F_are_triples)) (c_arrows_of : FnD P w K mg base "arrows_of" 1 (spP K C F_arrows_of)) (c_is_one_of : FnD P w K mg base "is_one_of" 1 (spP K C F_is_one_of)) (c_is_what : FnD P w K mg base "is_what" 3 (spP K C F_is_what)) (k_KINDS : GlC K mg C "KINDS" d_KINDS) (F : FnT K "are_rows" "are_rows" (top 49) f fd) :
    FnOk P w K mg base CX0 4 f fd ["value"] (spP K C F_are_rows) := by
  have sc := sc_are_rows
  refine fn_P F sc rfl rfl fun cdv A outer s H E hr => ?_
  exact (pss_consS (ps_ifS (PWd.pt (pw_orD (pt_notD (pt_valD (pd_call c_are_triples (hr.mono (by decide)) rfl (pl_cons (pd_var 0) pl_nil)))) (pw_or1D (pt_notD (pt_valD (pd_callB (k_all rfl) rfl g.all (by decide +kernel) (pd_frz (pr_comp (own := [("row", 1)]) rfl sc.nd (w_tup (pd_var 0)) (blkOk_by (own := [("row", 1)]) (by rfl)) (go_name 1) (by decide) (fun _ _ _ _ _ => (pg_name (i := 1) sc.nd rfl (Or.inl rfl))) (fun _ _ _ _ _ => pts_nilD) (fun _ _ _ _ _ => (pd_andD (pd_toB (pd_call c_is_one_of (hr.mono (by decide)) rfl (pl_cons (pd_ixv 1 (pv 1) pd_int) (pl_cons (pd_gl k_KINDS rfl) pl_nil)))) (pd_oneD (pd_toB (pd_call c_is_what (hr.mono (by decide)) rfl (pl_cons (pd_ixv 1 (pv 1) pd_int) (pl_cons (pd_ixv 1 (pv 1) pd_int) pl_nil))))))))))))))) (pss_oneS (ps_retS pd_bl)) pss_nilS)
    (pss_consS (ps_setS 2 sc.nd rfl (Or.inr rfl) (pr_comp (own := [("row", 1)]) rfl sc.nd (w_tup (pd_var 0)) (blkOk_by (own := [("row", 1)]) (by rfl)) (go_name 1) (by decide) (fun _ _ _ _ _ => (pg_name (i := 1) sc.nd rfl (Or.inl rfl))) (fun _ _ _ _ _ => pts_nilD) (fun _ _ _ _ _ => (pd_ixv 1 (pv 1) pd_int))))
    (pss_oneS (ps_retS (pd_callB (k_all rfl) rfl g.all (by decide +kernel) (pd_frz (pr_comp2 (own := [("row", 1), ("to", 3)]) (vs1 := [3]) rfl sc.nd (w_tup (pd_var 0)) (blkOk_by (own := [("row", 1), ("to", 3)]) (by rfl)) (go_name 1) (by decide) (go_name 3) (by decide) (by decide) (fun _ _ _ _ _ => (pg_name (i := 1) sc.nd rfl (Or.inl rfl))) (fun _ _ _ _ _ => (w_tup (pd_call c_arrows_of (hr.mono (by decide)) rfl (pl_cons (pd_ixv 1 (pv 1) pd_int) (pl_cons (pd_ixv 1 (pv 1) pd_int) pl_nil))))) (fun _ _ _ _ _ => (pg_name (i := 3) sc.nd rfl (Or.inl rfl))) (fun _ _ _ _ _ => (pd_inv (pd_var 3) 2 (pv 2))))))))))
theorem sc_trap_in : FnScope ["rows", "found", "row", "many", "kept", "place", "kind", "what", "inside", "to"] ["rows"] (defScope (top 50)) := ⟨rfl, rfl, rfl, by decide +kernel, rfl, by decide +kernel, by decide +kernel⟩
theorem ok_trap_in {P : Program} {w : World} {K : PySem.W.Frag} {mg : Str → Option Value} {base : Heap} {C f : Addr} {fd : FuncData} (g : Bt mg) (wb : Wb K mg C) (c_arrows_of : FnD P w K mg base "arrows_of" 1 (spP K C F_arrows_of)) (F : FnT K "trap_in" "trap_in" (top 50) f fd) :
    FnOk P w K mg base CX0 2 f fd ["rows"] (spP K C F_trap_in) := by
  have sc := sc_trap_in
  refine fn_P F sc rfl rfl fun cdv A outer s H E hr => ?_
  exact (pss_consS (ps_setS 1 sc.nd rfl (Or.inr rfl) (pr_comp (own := [("row", 2)]) rfl sc.nd (w_tup (pd_var 0)) (blkOk_by (own := [("row", 2)]) (by rfl)) (go_name 2) (by decide) (fun _ _ _ _ _ => (pg_name (i := 2) sc.nd rfl (Or.inl rfl))) (fun _ _ _ _ _ => pts_oneD (pt_cmpD (c_ne (u64 hr)) (pd_ixv 2 (pv 2) pd_int) pd_str rfl)) (fun _ _ _ _ _ => (pd_ixv 2 (pv 2) pd_int))))
    (pss_consS (ps_asgS (pd_add (pd_lenv 1 (pv 1) rfl g.len) pd_int) (pg_name (i := 3) sc.nd rfl (Or.inl rfl)) (go_name 3).h)
    (pss_consS (ps_whileS owns0 (pt_cmpD c_gt (pd_var 3) (pd_lenv 1 (pv 1) rfl g.len) rfl) (pss_consS (ps_asgS (pd_lenv 1 (pv 1) rfl g.len) (pg_name (i := 3) sc.nd rfl (Or.inl rfl)) (go_name 3).h)
    (pss_consS (ps_setS 4 sc.nd rfl (Or.inl rfl) (pr_lst pl_nil))
    (pss_consS (ps_forS owns0 rfl (w_tup (pd_var 0)) (pg_tup rfl (pgs_cons (pg_name (i := 5) sc.nd rfl (Or.inl rfl)) (pgs_cons (pg_name (i := 6) sc.nd rfl (Or.inl rfl)) (pgs_cons (pg_name (i := 7) sc.nd rfl (Or.inl rfl)) pgs_nil)))) ((go_tup (gs_cons (go_name 5) (gs_cons (go_name 6) (gs_cons (go_name 7) gs_nil))))).h (pss_consS (ps_setLcS (own := [("to", 9)]) rfl sc.nd (i := 8) rfl rfl (sw_true rfl rfl rfl (by decide +kernel)) (w_tup (pd_call c_arrows_of (hr.mono (by decide)) rfl (pl_cons (pd_var 6) (pl_cons (pd_var 7) pl_nil)))) (blkOk_by (own := [("to", 9)]) (by rfl)) (go_name 9) (by decide) (fun _ _ _ _ _ => (pg_name (i := 9) sc.nd rfl (Or.inl rfl))) (fun _ _ _ _ _ => pts_nilD) (fun _ _ _ _ _ => (pd_inv (pd_var 9) 1 (pv 1))))
    (pss_oneS (ps_ifS (PWd.pt (pw_andD (pt_inv (pd_var 5) 1 (pv 1)) (pw_and1D (pt_ifB (pt_cmpD (c_eq (u64 hr)) (pd_var 6) pd_str rfl) (pt_valD (pd_callB (k_all rfl) rfl g.all (by decide +kernel) (pd_var 8))) (pt_valD (pd_callB (k_any rfl) rfl g.any (by decide +kernel) (pd_var 8))))))) (pss_oneS (ps_exprS (pd_append 4 (pv 4) (pd_var 5)))) pss_nilS))))
    (pss_oneS (ps_asgS (pd_var 4) (pg_name (i := 1) sc.nd rfl (Or.inr rfl)) (go_name 1).h))))))
    (pss_oneS (ps_retS (pd_callTy (k_tuple) rfl g.tuple (by decide +kernel) (pd_var 1)))))))
theorem sc_are_coin_rows : FnScope ["rows", "place", "kind", "what", "found", "turn", "to"] ["rows"] (defScope (top 51)) := ⟨rfl, rfl, rfl, by decide +kernel, rfl, by decide +kernel, by decide +kernel⟩
theorem ok_are_coin_rows {P : Program} {w : World} {K : PySem.W.Frag} {mg : Str → Option Value} {base : Heap} {C f : Addr} {fd : FuncData} (g : Bt mg) (wb : Wb K mg C) (c_arrows_of : FnD P w K mg base "arrows_of" 1 (spP K C F_arrows_of)) (F : FnT K "are_coin_rows" "are_coin_rows" (top 51) f fd) :
    FnOk P w K mg base CX0 2 f fd ["rows"] (spP K C F_are_coin_rows) := by
  have sc := sc_are_coin_rows
  refine fn_P F sc rfl rfl fun cdv A outer s H E hr => ?_
  exact (pss_consS (ps_ifS (pt_notD (pt_valD (pd_callB (k_all rfl) rfl g.all (by decide +kernel) (pd_frz (pr_comp (own := [("place", 1), ("kind", 2), ("what", 3)]) rfl sc.nd (w_tup (pd_var 0)) (blkOk_by (own := [("place", 1), ("kind", 2), ("what", 3)]) (by rfl)) (go_tup (gs_cons (go_name 1) (gs_cons (go_name 2) (gs_cons (go_name 3) gs_nil)))) (by decide) (fun _ _ _ _ _ => (pg_tup rfl (pgs_cons (pg_name (i := 1) sc.nd rfl (Or.inl rfl)) (pgs_cons (pg_name (i := 2) sc.nd rfl (Or.inl rfl)) (pgs_cons (pg_name (i := 3) sc.nd rfl (Or.inl rfl)) pgs_nil))))) (fun _ _ _ _ _ => pts_nilD) (fun _ _ _ _ _ => (pd_cmp c_in (pd_var 2) (pd_tup (pl_cons pd_str (pl_cons pd_str pl_nil))) rfl))))))) (pss_oneS (ps_retS pd_bl)) pss_nilS)
    (pss_consS (ps_setS 4 sc.nd rfl (Or.inr rfl) (pr_comp (own := [("place", 1), ("kind", 2), ("what", 3)]) rfl sc.nd (w_tup (pd_var 0)) (blkOk_by (own := [("place", 1), ("kind", 2), ("what", 3)]) (by rfl)) (go_tup (gs_cons (go_name 1) (gs_cons (go_name 2) (gs_cons (go_name 3) gs_nil)))) (by decide) (fun _ _ _ _ _ => (pg_tup rfl (pgs_cons (pg_name (i := 1) sc.nd rfl (Or.inl rfl)) (pgs_cons (pg_name (i := 2) sc.nd rfl (Or.inl rfl)) (pgs_cons (pg_name (i := 3) sc.nd rfl (Or.inl rfl)) pgs_nil))))) (fun _ _ _ _ _ => pts_oneD (pt_cmpD (c_eq (u64 hr)) (pd_var 2) pd_str rfl)) (fun _ _ _ _ _ => (pd_var 1))))
    (pss_consS (ps_forS owns0 rfl (w_range1 rfl g.range (pd_lenv 0 (pv 0) rfl g.len)) (pg_name (i := 5) sc.nd rfl (Or.inl rfl)) ((go_name 5)).h (pss_oneS (ps_setS 4 sc.nd rfl (Or.inr rfl) (pr_comp (own := [("place", 1), ("kind", 2), ("what", 3)]) rfl sc.nd (w_tup (pd_var 0)) (blkOk_by (own := [("place", 1), ("kind", 2), ("what", 3)]) (by rfl)) (go_tup (gs_cons (go_name 1) (gs_cons (go_name 2) (gs_cons (go_name 3) gs_nil)))) (by decide) (fun _ _ _ _ _ => (pg_tup rfl (pgs_cons (pg_name (i := 1) sc.nd rfl (Or.inl rfl)) (pgs_cons (pg_name (i := 2) sc.nd rfl (Or.inl rfl)) (pgs_cons (pg_name (i := 3) sc.nd rfl (Or.inl rfl)) pgs_nil))))) (fun _ _ _ _ _ => pts_oneD (PWd.pt (pw_orD (pt_inv (pd_var 1) 4 (pv 4)) (pw_or1D (pt_valD (pd_callB (k_any rfl) rfl g.any (by decide +kernel) (pd_frz (pr_comp (own := [("to", 6)]) rfl sc.nd (w_tup (pd_call c_arrows_of (hr.mono (by decide)) rfl (pl_cons (pd_var 2) (pl_cons (pd_var 3) pl_nil)))) (blkOk_by (own := [("to", 6)]) (by rfl)) (go_name 6) (by decide) (fun _ _ _ _ _ => (pg_name (i := 6) sc.nd rfl (Or.inl rfl))) (fun _ _ _ _ _ => pts_nilD) (fun _ _ _ _ _ => (pd_inv (pd_var 6) 4 (pv 4))))))))))) (fun _ _ _ _ _ => (pd_var 1))))))
    (pss_oneS (ps_retS (pd_cmp (c_eq (u64 hr)) (pd_lenv 4 (pv 4) rfl g.len) (pd_lenv 0 (pv 0) rfl g.len) rfl))))))
theorem sc_W_init : FnScope ["self", "rows", "lot", "place", "kind", "what"] ["self", "rows"] (defScope (wtop 0)) := ⟨rfl, rfl, rfl, by decide +kernel, rfl, by decide +kernel, by decide +kernel⟩
theorem ok_W_init {P : Program} {w : World} {K : PySem.W.Frag} {mg : Str → Option Value} {base : Heap} {C f : Addr} {fd : FuncData} (g : Bt mg) (wb : Wb K mg C) (c_are_coin_rows : FnD P w K mg base "are_coin_rows" 2 (spP K C F_are_coin_rows)) (c_are_rows : FnD P w K mg base "are_rows" 4 (spP K C F_are_rows)) (c_trap_in : FnD P w K mg base "trap_in" 2 (spP K C F_trap_in)) (F : FnT K "__init__" "Web.__init__" (wtop 0) f fd) :
    FnOk P w K mg base CX0 5 f fd ["self", "rows"] (spG K C F_W_init) := by
  have sc := sc_W_init
  refine fn_G F sc rfl rfl fun κ cdv A outer s H E hr => ?_
  exact (pss_consS (ps_ifS (pt_notD (pt_valD (pd_call c_are_rows (hr.mono (by decide)) rfl (pl_cons (pd_var 1) pl_nil)))) (pss_oneS ps_neverS) pss_nilS)
    (pss_consS (ps_asgS (pd_call c_trap_in (hr.mono (by decide)) rfl (pl_cons (pd_var 1) pl_nil)) (pg_name (i := 2) sc.nd rfl (Or.inl rfl)) (go_name 2).h)
    (pss_consS (ps_ifS (PWd.pt (pw_andD (pt_cmpD c_gt (pd_lenv 2 (pv 2) rfl g.len) pd_int rfl) (pw_and1D (pt_notD (pt_valD (pd_call c_are_coin_rows (hr.mono (by decide)) rfl (pl_cons (pd_var 1) pl_nil))))))) (pss_oneS ps_neverS) pss_nilS)
    (pss_consS (ps_fldS 0 wb.cl wb.lines (pv 0) (pd_var 1))
    (pss_consS (ps_fldS 0 wb.cl wb.trap (pv 0) (pd_var 2))
    (pss_oneS (ps_fldS 0 wb.cl wb.by_place (pv 0) (pd_frz (pr_dict rfl rfl g.dict (pd_frz (pr_comp (own := [("place", 3), ("kind", 4), ("what", 5)]) rfl sc.nd (w_tup (pd_var 1)) (blkOk_by (own := [("place", 3), ("kind", 4), ("what", 5)]) (by rfl)) (go_tup (gs_cons (go_name 3) (gs_cons (go_name 4) (gs_cons (go_name 5) gs_nil)))) (by decide) (fun _ _ _ _ _ => (pg_tup rfl (pgs_cons (pg_name (i := 3) sc.nd rfl (Or.inl rfl)) (pgs_cons (pg_name (i := 4) sc.nd rfl (Or.inl rfl)) (pgs_cons (pg_name (i := 5) sc.nd rfl (Or.inl rfl)) pgs_nil))))) (fun _ _ _ _ _ => pts_nilD) (fun _ _ _ _ _ => (pd_tup (pl_cons (pd_var 3) (pl_cons (pd_tup (pl_cons (pd_var 4) (pl_cons (pd_var 5) pl_nil))) pl_nil)))))))))))))))
theorem sc_W_rows : FnScope ["self"] ["self"] (defScope (wtop 2)) := ⟨rfl, rfl, rfl, by decide +kernel, rfl, by decide +kernel, by decide +kernel⟩
theorem ok_W_rows {P : Program} {w : World} {K : PySem.W.Frag} {mg : Str → Option Value} {base : Heap} {C f : Addr} {fd : FuncData} (g : Bt mg) (wb : Wb K mg C)  (F : FnT K "rows" "Web.rows" (wtop 2) f fd) :
    FnOk P w K mg base CX0 1 f fd ["self"] (spP K C F_W_rows) := by
  have sc := sc_W_rows
  refine fn_P F sc rfl rfl fun cdv A outer s H E hr => ?_
  exact (pss_oneS (ps_retS (pd_fld wb.cl wb.lines (pd_var 0))))
theorem sc_W_places : FnScope ["self", "row"] ["self"] (defScope (wtop 3)) := ⟨rfl, rfl, rfl, by decide +kernel, rfl, by decide +kernel, by decide +kernel⟩
theorem ok_W_places {P : Program} {w : World} {K : PySem.W.Frag} {mg : Str → Option Value} {base : Heap} {C f : Addr} {fd : FuncData} (g : Bt mg) (wb : Wb K mg C)  (F : FnT K "places" "Web.places" (wtop 3) f fd) :
    FnOk P w K mg base CX0 1 f fd ["self"] (spP K C F_W_places) := by
  have sc := sc_W_places
  refine fn_P F sc rfl rfl fun cdv A outer s H E hr => ?_
  exact (pss_oneS (ps_retS (pd_callTy (k_tuple) rfl g.tuple (by decide +kernel) (pd_frz (pr_comp (own := [("row", 1)]) rfl sc.nd (w_tup (pd_fld wb.cl wb.lines (pd_var 0))) (blkOk_by (own := [("row", 1)]) (by rfl)) (go_name 1) (by decide) (fun _ _ _ _ _ => (pg_name (i := 1) sc.nd rfl (Or.inl rfl))) (fun _ _ _ _ _ => pts_nilD) (fun _ _ _ _ _ => (pd_ixv 1 (pv 1) pd_int)))))))
theorem sc_W_ends : FnScope ["self", "row"] ["self"] (defScope (wtop 4)) := ⟨rfl, rfl, rfl, by decide +kernel, rfl, by decide +kernel, by decide +kernel⟩
theorem ok_W_ends {P : Program} {w : World} {K : PySem.W.Frag} {mg : Str → Option Value} {base : Heap} {C f : Addr} {fd : FuncData} (g : Bt mg) (wb : Wb K mg C)  (F : FnT K "ends" "Web.ends" (wtop 4) f fd) :
    FnOk P w K mg base CX0 1 f fd ["self"] (spP K C F_W_ends) := by
  have sc := sc_W_ends
  refine fn_P F sc rfl rfl fun cdv A outer s H E hr => ?_
  exact (pss_oneS (ps_retS (pd_callTy (k_tuple) rfl g.tuple (by decide +kernel) (pd_frz (pr_comp (own := [("row", 1)]) rfl sc.nd (w_tup (pd_fld wb.cl wb.lines (pd_var 0))) (blkOk_by (own := [("row", 1)]) (by rfl)) (go_name 1) (by decide) (fun _ _ _ _ _ => (pg_name (i := 1) sc.nd rfl (Or.inl rfl))) (fun _ _ _ _ _ => pts_oneD (pt_cmpD (c_eq (u64 hr)) (pd_ixv 1 (pv 1) pd_int) pd_str rfl)) (fun _ _ _ _ _ => (pd_ixv 1 (pv 1) pd_int)))))))
theorem sc_W_check_place : FnScope ["self", "value"] ["self", "value"] (defScope (wtop 12)) := ⟨rfl, rfl, rfl, by decide +kernel, rfl, by decide +kernel, by decide +kernel⟩
theorem ok_W_check_place {P : Program} {w : World} {K : PySem.W.Frag} {mg : Str → Option Value} {base : Heap} {C f : Addr} {fd : FuncData} (g : Bt mg) (wb : Wb K mg C)  (F : FnT K "check_place" "Web.check_place" (wtop 12) f fd) :
    FnOk P w K mg base CX0 1 f fd ["self", "value"] (spP K C F_W_check_place) := by
  have sc := sc_W_check_place
  refine fn_P F sc rfl rfl fun cdv A outer s H E hr => ?_
  exact (pss_oneS (ps_ifS (PWd.pt (pw_orD (pt_notD (pt_valD (pd_isiT i_str rfl g.isi rfl g.str (by decide +kernel) (pd_var 1)))) (pw_or1D (pt_notInD (u1 hr) (pd_var 1) (pd_fld wb.cl wb.by_place (pd_var 0)))))) (pss_oneS ps_neverS) pss_nilS))
theorem sc_W_arrows : FnScope ["self", "place"] ["self", "place"] (defScope (wtop 9)) := ⟨rfl, rfl, rfl, by decide +kernel, rfl, by decide +kernel, by decide +kernel⟩
theorem ok_W_arrows {P : Program} {w : World} {K : PySem.W.Frag} {mg : Str → Option Value} {base : Heap} {C f : Addr} {fd : FuncData} (g : Bt mg) (wb : Wb K mg C) (c_arrows_of : FnD P w K mg base "arrows_of" 1 (spP K C F_arrows_of)) (m_check_place : MetD P w K mg base C "check_place" 1 (spP K C F_W_check_place)) (F : FnT K "arrows" "Web.arrows" (wtop 9) f fd) :
    FnOk P w K mg base CX0 2 f fd ["self", "place"] (spP K C F_W_arrows) := by
  have sc := sc_W_arrows
  refine fn_P F sc rfl rfl fun cdv A outer s H E hr => ?_
  exact (pss_consS (ps_exprS (pd_methD (pd_var 0) wb.cl m_check_place (hr.mono (by decide)) (pl_cons (pd_var 1) pl_nil)))
    (pss_oneS (ps_retS (pd_call c_arrows_of (hr.mono (by decide)) rfl (pl_cons (pd_ix (pd_dix (u1 hr) (pd_fld wb.cl wb.by_place (pd_var 0)) (pd_var 1)) pd_int) (pl_cons (pd_ix (pd_dix (u1 hr) (pd_fld wb.cl wb.by_place (pd_var 0)) (pd_var 1)) pd_int) pl_nil))))))
theorem sc_W_number : FnScope ["self", "place"] ["self", "place"] (defScope (wtop 10)) := ⟨rfl, rfl, rfl, by decide +kernel, rfl, by decide +kernel, by decide +kernel⟩
theorem ok_W_number {P : Program} {w : World} {K : PySem.W.Frag} {mg : Str → Option Value} {base : Heap} {C f : Addr} {fd : FuncData} (g : Bt mg) (wb : Wb K mg C) (m_check_place : MetD P w K mg base C "check_place" 1 (spP K C F_W_check_place)) (F : FnT K "number" "Web.number" (wtop 10) f fd) :
    FnOk P w K mg base CX0 2 f fd ["self", "place"] (spP K C F_W_number) := by
  have sc := sc_W_number
  refine fn_P F sc rfl rfl fun cdv A outer s H E hr => ?_
  exact (pss_consS (ps_exprS (pd_methD (pd_var 0) wb.cl m_check_place (hr.mono (by decide)) (pl_cons (pd_var 1) pl_nil)))
    (pss_oneS (ps_retS (pd_ifE (pt_cmpD (c_eq (u64 hr)) (pd_ix (pd_dix (u1 hr) (pd_fld wb.cl wb.by_place (pd_var 0)) (pd_var 1)) pd_int) pd_str rfl) (pd_ix (pd_dix (u1 hr) (pd_fld wb.cl wb.by_place (pd_var 0)) (pd_var 1)) pd_int) pd_non))))
theorem sc_check_web : FnScope ["value"] ["value"] (defScope (top 56)) := ⟨rfl, rfl, rfl, by decide +kernel, rfl, by decide +kernel, by decide +kernel⟩
theorem ok_check_web {P : Program} {w : World} {K : PySem.W.Frag} {mg : Str → Option Value} {base : Heap} {C f : Addr} {fd : FuncData} (g : Bt mg) (wb : Wb K mg C)  (F : FnT K "check_web" "check_web" (top 56) f fd) :
    FnOk P w K mg base CX0 1 f fd ["value"] (spP K C F_check_web) := by
  have sc := sc_check_web
  refine fn_P F sc rfl rfl fun cdv A outer s H E hr => ?_
  exact (pss_oneS (ps_ifS (pt_notD (pt_valD (pd_isiW wb rfl g.isi rfl (pd_var 0)))) (pss_oneS ps_neverS) pss_nilS))
theorem sc_solved : FnScope ["lines", "table", "size", "line", "spot", "lead", "at", "top", "bottom", "factor", "part", "old", "new"] ["lines"] (defScope (top 59)) := ⟨rfl, rfl, rfl, by decide +kernel, rfl, by decide +kernel, by decide +kernel⟩
theorem ok_solved {P : Program} {w : World} {K : PySem.W.Frag} {mg : Str → Option Value} {base : Heap} {C f : Addr} {fd : FuncData} (g : Bt mg) (wb : Wb K mg C) (c_less : FnD P w K mg base "less" 3 (spP K C F_less)) (c_times : FnD P w K mg base "times" 3 (spP K C F_times)) (k_ZERO : GlC K mg C "ZERO" d_ZERO) (F : FnT K "solved" "solved" (top 59) f fd) :
    FnOk P w K mg base CX0 4 f fd ["lines"] (spP K C F_solved) := by
  have sc := sc_solved
  refine fn_P F sc rfl rfl fun cdv A outer s H E hr => ?_
  exact (pss_consS (ps_parT rfl sc.nd (i := 1) (j := 2) rfl rfl (by decide) (Or.inr rfl) (Or.inr rfl) (pr_comp (own := [("line", 3)]) rfl sc.nd (w_lst (pd_var 0)) (blkOk_by (own := [("line", 3)]) (by rfl)) (go_name 3) (by decide) (fun _ _ _ _ _ => (pg_name (i := 3) sc.nd rfl (Or.inl rfl))) (fun _ _ _ _ _ => pts_nilD) (fun _ _ _ _ _ => (pd_frz (pr_listv rfl 3 (pv 3) rfl g.list)))) (pr_d (pd_lenv 0 (pv 0) rfl g.len)))
    (pss_consS (ps_forS owns0 rfl (w_range1 rfl g.range (pd_var 2)) (pg_name (i := 4) sc.nd rfl (Or.inr rfl)) ((go_name 4)).h (pss_consS (ps_asgS (pd_ix (pd_frz (pr_comp (own := [("at", 6)]) rfl sc.nd (w_range2 rfl g.range (pd_var 4) (pd_var 2)) (blkOk_by (own := [("at", 6)]) (by rfl)) (go_name 6) (by decide) (fun _ _ _ _ _ => (pg_name (i := 6) sc.nd rfl (Or.inl rfl))) (fun _ _ _ _ _ => pts_oneD (pt_cmpD (c_ne (u64 hr)) (pd_ix (pd_ixv 1 (pv 1) (pd_var 6)) (pd_var 4)) (pd_gl k_ZERO rfl) rfl)) (fun _ _ _ _ _ => (pd_var 6)))) pd_int) (pg_name (i := 5) sc.nd rfl (Or.inl rfl)) (go_name 5).h)
    (pss_consS (ps_asgS (pd_tup (pl_cons (pd_ixv 1 (pv 1) (pd_var 5)) (pl_cons (pd_ixv 1 (pv 1) (pd_var 4)) pl_nil))) (pg_tup rfl (pgs_cons (pg_sub (pv 1) (pd_var 4) set_list) (pgs_cons (pg_sub (pv 1) (pd_var 5) set_list) pgs_nil))) (go_tupH (gs_consH (go_ix 1) (gs_consH (go_ix 1) gs_nilH))))
    (pss_consS (ps_asgS (pd_ix (pd_ixv 1 (pv 1) (pd_var 4)) (pd_var 4)) (pg_tup rfl (pgs_cons (pg_name (i := 7) sc.nd rfl (Or.inl rfl)) (pgs_cons (pg_name (i := 8) sc.nd rfl (Or.inl rfl)) pgs_nil))) (go_tupH (gs_consH (go_name 7).h (gs_consH (go_name 8).h gs_nilH))))
    (pss_consS (ps_asgS (pd_ifE (pt_cmpD c_gt (pd_var 7) pd_int rfl) (pd_tup (pl_cons (pd_var 8) (pl_cons (pd_var 7) pl_nil))) (pd_tup (pl_cons (pd_sub pd_int (pd_var 8)) (pl_cons (pd_sub pd_int (pd_var 7)) pl_nil)))) (pg_name (i := 9) sc.nd rfl (Or.inr rfl)) (go_name 9).h)
    (pss_consS (ps_asgS (pd_frz (pr_comp (own := [("part", 10)]) rfl sc.nd (w_lst (pd_ixv 1 (pv 1) (pd_var 4))) (blkOk_by (own := [("part", 10)]) (by rfl)) (go_name 10) (by decide) (fun _ _ _ _ _ => (pg_name (i := 10) sc.nd rfl (Or.inl rfl))) (fun _ _ _ _ _ => pts_nilD) (fun _ _ _ _ _ => (pd_call c_times (hr.mono (by decide)) rfl (pl_cons (pd_var 9) (pl_cons (pd_var 10) pl_nil)))))) (pg_sub (pv 1) (pd_var 4) set_list) (go_ix 1))
    (pss_oneS (ps_forS owns0 rfl (w_range1 rfl g.range (pd_var 2)) (pg_name (i := 6) sc.nd rfl (Or.inl rfl)) ((go_name 6)).h (pss_consS (ps_asgS (pd_ix (pd_ixv 1 (pv 1) (pd_var 6)) (pd_var 4)) (pg_name (i := 10) sc.nd rfl (Or.inr rfl)) (go_name 10).h)
    (pss_oneS (ps_ifS (PWd.pt (pw_andD (pt_cmpD (c_ne (u64 hr)) (pd_var 6) (pd_var 4) rfl) (pw_and1D (pt_cmpD (c_ne (u64 hr)) (pd_var 10) (pd_gl k_ZERO rfl) rfl)))) (pss_oneS (ps_asgS (pd_frz (pr_comp (own := [("old", 11), ("new", 12)]) rfl sc.nd (w_zip rfl g.zip (pd_ixv 1 (pv 1) (pd_var 6)) (pd_ixv 1 (pv 1) (pd_var 4))) (blkOk_by (own := [("old", 11), ("new", 12)]) (by rfl)) (go_tup (gs_cons (go_name 11) (gs_cons (go_name 12) gs_nil))) (by decide) (fun _ _ _ _ _ => (pg_tup rfl (pgs_cons (pg_name (i := 11) sc.nd rfl (Or.inl rfl)) (pgs_cons (pg_name (i := 12) sc.nd rfl (Or.inl rfl)) pgs_nil)))) (fun _ _ _ _ _ => pts_nilD) (fun _ _ _ _ _ => (pd_call c_less (hr.mono (by decide)) rfl (pl_cons (pd_var 11) (pl_cons (pd_call c_times (hr.mono (by decide)) rfl (pl_cons (pd_var 10) (pl_cons (pd_var 12) pl_nil))) pl_nil)))))) (pg_sub (pv 1) (pd_var 6) set_list) (go_ix 1))) pss_nilS)))))))))))
    (pss_oneS (ps_retS (pd_frz (pr_comp (own := [("line", 3)]) rfl sc.nd (w_lst (pd_var 1)) (blkOk_by (own := [("line", 3)]) (by rfl)) (go_name 3) (by decide) (fun _ _ _ _ _ => (pg_name (i := 3) sc.nd rfl (Or.inl rfl))) (fun _ _ _ _ _ => pts_nilD) (fun _ _ _ _ _ => (pd_frz (pr_sl (pd_var 3) (po_someD (pd_var 2)) po_noneD)))))))))
theorem sc_chain_numbers : FnScope ["known", "moves", "some", "lines", "place", "parts", "added", "line", "right", "other", "to", "part", "spot", "old", "more", "found", "numbers"] ["known", "moves"] (defScope (top 60)) := ⟨rfl, rfl, rfl, by decide +kernel, rfl, by decide +kernel, by decide +kernel⟩
theorem ok_chain_numbers {P : Program} {w : World} {K : PySem.W.Frag} {mg : Str → Option Value} {base : Heap} {C f : Addr} {fd : FuncData} (g : Bt mg) (wb : Wb K mg C) (c_add : FnD P w K mg base "add" 3 (spP K C F_add)) (c_less : FnD P w K mg base "less" 3 (spP K C F_less)) (c_solved : FnD P w K mg base "solved" 4 (spP K C F_solved)) (c_times : FnD P w K mg base "times" 3 (spP K C F_times)) (k_ONE : GlC K mg C "ONE" d_ONE) (k_ZERO : GlC K mg C "ZERO" d_ZERO) (F : FnT K "chain_numbers" "chain_numbers" (top 60) f fd) :
    FnOk P w K mg base CX0 5 f fd ["known", "moves"] (spP K C F_chain_numbers) := by
  have sc := sc_chain_numbers
  refine fn_P F sc rfl rfl fun cdv A outer s H E hr => ?_
  exact (pss_consS (ps_setS 2 sc.nd rfl (Or.inl rfl) (pr_listv rfl 1 (pv 1) rfl g.list))
    (pss_consS (ps_setS 3 sc.nd rfl (Or.inl rfl) (pr_lst pl_nil))
    (pss_consS (ps_forS owns0 rfl (w_lst (pd_var 2)) (pg_name (i := 4) sc.nd rfl (Or.inr rfl)) ((go_name 4)).h (pss_consS (ps_asgS (pd_dixv (u1 hr) 1 (pv 1) (pd_var 4)) (pg_tup rfl (pgs_cons (pg_name (i := 5) sc.nd rfl (Or.inl rfl)) (pgs_cons (pg_name (i := 6) sc.nd rfl (Or.inl rfl)) pgs_nil))) (go_tupH (gs_consH (go_name 5).h (gs_consH (go_name 6).h gs_nilH))))
    (pss_consS (ps_parS rfl sc.nd (i := 7) (j := 8) rfl rfl (by decide) rfl rfl (pr_comp (own := [("other", 9)]) rfl sc.nd (w_lst (pd_var 2)) (blkOk_by (own := [("other", 9)]) (by rfl)) (go_name 9) (by decide) (fun _ _ _ _ _ => (pg_name (i := 9) sc.nd rfl (Or.inl rfl))) (fun _ _ _ _ _ => pts_nilD) (fun _ _ _ _ _ => (pd_ifE (pt_cmpD (c_eq (u64 hr)) (pd_var 9) (pd_var 4) rfl) (pd_gl k_ONE rfl) (pd_gl k_ZERO rfl)))) (pr_listv rfl 6 (pv 6) rfl g.list) rfl)
    (pss_consS (ps_forS owns0 rfl (w_lst (pd_var 5)) (pg_tup rfl (pgs_cons (pg_name (i := 10) sc.nd rfl (Or.inl rfl)) (pgs_cons (pg_name (i := 11) sc.nd rfl (Or.inr rfl)) pgs_nil))) ((go_tup (gs_cons (go_name 10) (gs_cons (go_name 11) gs_nil)))).h (pss_oneS (ps_ifS (pt_inDv (u1 hr) (pd_var 10) 1 (pv 1)) (pss_consS (ps_asgS (pd_index 2 (pv 2) (pd_var 10)) (pg_name (i := 12) sc.nd rfl (Or.inl rfl)) (go_name 12).h)
    (pss_oneS (ps_asgS (pd_call c_less (hr.mono (by decide)) rfl (pl_cons (pd_ixv 7 (pv 7) (pd_var 12)) (pl_cons (pd_var 11) pl_nil))) (pg_sub (pv 7) (pd_var 12) set_list) (go_ix 7)))) (pss_oneS (ps_setLcS (own := [("old", 13), ("more", 14)]) rfl sc.nd (i := 8) rfl rfl (sw_true rfl rfl rfl (by decide +kernel)) (w_zip rfl g.zip (pd_var 8) (pd_dixv (u1 hr) 0 (pv 0) (pd_var 10))) (blkOk_by (own := [("old", 13), ("more", 14)]) (by rfl)) (go_tup (gs_cons (go_name 13) (gs_cons (go_name 14) gs_nil))) (by decide) (fun _ _ _ _ _ => (pg_tup rfl (pgs_cons (pg_name (i := 13) sc.nd rfl (Or.inl rfl)) (pgs_cons (pg_name (i := 14) sc.nd rfl (Or.inl rfl)) pgs_nil)))) (fun _ _ _ _ _ => pts_nilD) (fun _ _ _ _ _ => (pd_call c_add (hr.mono (by decide)) rfl (pl_cons (pd_var 13) (pl_cons (pd_call c_times (hr.mono (by decide)) rfl (pl_cons (pd_var 11) (pl_cons (pd_var 14) pl_nil))) pl_nil)))))))))
    (pss_oneS (ps_exprS (pd_append 3 (pv 3) (pd_frz (pr_cat (pd_var 7) (pd_var 8))))))))))
    (pss_consS (ps_setS 15 sc.nd rfl (Or.inl rfl) (pr_dictv 0 (pv 0) rfl g.dict))
    (pss_consS (ps_forS owns0 rfl (w_zip rfl g.zip (pd_var 2) (pd_call c_solved (hr.mono (by decide)) rfl (pl_cons (pd_var 3) pl_nil))) (pg_tup rfl (pgs_cons (pg_name (i := 4) sc.nd rfl (Or.inr rfl)) (pgs_cons (pg_name (i := 16) sc.nd rfl (Or.inl rfl)) pgs_nil))) ((go_tup (gs_cons (go_name 4) (gs_cons (go_name 16) gs_nil)))).h (pss_oneS (ps_asgS (pd_var 16) (pg_sub (pv 15) (pd_var 4) (set_dict (u1 hr))) (go_dx 15))))
    (pss_oneS (ps_retS (pd_var 15))))))))
theorem sc_options_of : FnScope ["kind", "what", "to"] ["kind", "what"] (defScope (top 61)) := ⟨rfl, rfl, rfl, by decide +kernel, rfl, by decide +kernel, by decide +kernel⟩
theorem ok_options_of {P : Program} {w : World} {K : PySem.W.Frag} {mg : Str → Option Value} {base : Heap} {C f : Addr} {fd : FuncData} (g : Bt mg) (wb : Wb K mg C) (k_ZERO : GlC K mg C "ZERO" d_ZERO) (F : FnT K "options_of" "options_of" (top 61) f fd) :
    FnOk P w K mg base CX0 1 f fd ["kind", "what"] (spP K C F_options_of) := by
  have sc := sc_options_of
  refine fn_P F sc rfl rfl fun cdv A outer s H E hr => ?_
  exact (pss_oneS (ps_retS (pd_ifE (pt_cmpD (c_eq (u64 hr)) (pd_var 0) pd_str rfl) (pd_frz (pr_comp (own := [("to", 2)]) rfl sc.nd (w_tup (pd_var 1)) (blkOk_by (own := [("to", 2)]) (by rfl)) (go_name 2) (by decide) (fun _ _ _ _ _ => (pg_name (i := 2) sc.nd rfl (Or.inl rfl))) (fun _ _ _ _ _ => pts_nilD) (fun _ _ _ _ _ => (pd_tup (pl_cons (pd_var 2) (pl_cons (pd_gl k_ZERO rfl) pl_nil)))))) (pd_frz (pr_listv rfl 1 (pv 1) rfl g.list)))))
theorem sc_moves_by : FnScope ["rows", "high", "low", "found", "place", "kind", "what", "to"] ["rows", "high", "low"] (defScope (top 62)) := ⟨rfl, rfl, rfl, by decide +kernel, rfl, by decide +kernel, by decide +kernel⟩
theorem ok_moves_by {P : Program} {w : World} {K : PySem.W.Frag} {mg : Str → Option Value} {base : Heap} {C f : Addr} {fd : FuncData} (g : Bt mg) (wb : Wb K mg C) (k_HALF : GlC K mg C "HALF" d_HALF) (k_ZERO : GlC K mg C "ZERO" d_ZERO) (F : FnT K "moves_by" "moves_by" (top 62) f fd) :
    FnOk P w K mg base CX0 1 f fd ["rows", "high", "low"] (spP K C F_moves_by) := by
  have sc := sc_moves_by
  refine fn_P F sc rfl rfl fun cdv A outer s H E hr => ?_
  exact (pss_consS (ps_setS 3 sc.nd rfl (Or.inl rfl) pr_dnew)
    (pss_consS (ps_forS owns0 rfl (w_tup (pd_var 0)) (pg_tup rfl (pgs_cons (pg_name (i := 4) sc.nd rfl (Or.inl rfl)) (pgs_cons (pg_name (i := 5) sc.nd rfl (Or.inl rfl)) (pgs_cons (pg_name (i := 6) sc.nd rfl (Or.inl rfl)) pgs_nil)))) ((go_tup (gs_cons (go_name 4) (gs_cons (go_name 5) (gs_cons (go_name 6) gs_nil))))).h (pss_oneS (ps_ifS (pt_cmpD (c_eq (u64 hr)) (pd_var 5) pd_str rfl) pss_neverS (pss_oneS (ps_ifS (pt_cmpD (c_eq (u64 hr)) (pd_var 5) pd_str rfl) (pss_oneS (ps_asgS (pd_tup (pl_cons (pd_frz (pr_lst (pl_cons (pd_tup (pl_cons (pd_dixv (u1 hr) 1 (pv 1) (pd_var 4)) (pl_cons (pd_gl k_HALF rfl) pl_nil))) (pl_cons (pd_tup (pl_cons (pd_dixv (u1 hr) 2 (pv 2) (pd_var 4)) (pl_cons (pd_gl k_HALF rfl) pl_nil))) pl_nil)))) (pl_cons (pd_frz (pr_lst (pl_cons (pd_gl k_ZERO rfl) pl_nil))) pl_nil))) (pg_sub (pv 3) (pd_var 4) (set_dict (u1 hr))) (go_dx 3))) (pss_oneS (ps_ifS (pt_cmpD (c_ne (u64 hr)) (pd_var 5) pd_str rfl) pss_neverS pss_nilS)))))))
    (pss_oneS (ps_retS (pd_var 3)))))
theorem sc_numbers_by : FnScope ["rows", "moves", "known", "place", "kind", "what", "numbers"] ["rows", "moves"] (defScope (top 64)) := ⟨rfl, rfl, rfl, by decide +kernel, rfl, by decide +kernel, by decide +kernel⟩
theorem ok_numbers_by {P : Program} {w : World} {K : PySem.W.Frag} {mg : Str → Option Value} {base : Heap} {C f : Addr} {fd : FuncData} (g : Bt mg) (wb : Wb K mg C) (c_chain_numbers : FnD P w K mg base "chain_numbers" 5 (spP K C F_chain_numbers)) (F : FnT K "numbers_by" "numbers_by" (top 64) f fd) :
    FnOk P w K mg base CX0 6 f fd ["rows", "moves"] (spP K C F_numbers_by) := by
  have sc := sc_numbers_by
  refine fn_P F sc rfl rfl fun cdv A outer s H E hr => ?_
  exact (pss_consS (ps_setS 2 sc.nd rfl (Or.inl rfl) (pr_dict rfl rfl g.dict (pd_frz (pr_comp (own := [("place", 3), ("kind", 4), ("what", 5)]) rfl sc.nd (w_tup (pd_var 0)) (blkOk_by (own := [("place", 3), ("kind", 4), ("what", 5)]) (by rfl)) (go_tup (gs_cons (go_name 3) (gs_cons (go_name 4) (gs_cons (go_name 5) gs_nil)))) (by decide) (fun _ _ _ _ _ => (pg_tup rfl (pgs_cons (pg_name (i := 3) sc.nd rfl (Or.inl rfl)) (pgs_cons (pg_name (i := 4) sc.nd rfl (Or.inl rfl)) (pgs_cons (pg_name (i := 5) sc.nd rfl (Or.inl rfl)) pgs_nil))))) (fun _ _ _ _ _ => pts_oneD (pt_cmpD (c_eq (u64 hr)) (pd_var 4) pd_str rfl)) (fun _ _ _ _ _ => (pd_tup (pl_cons (pd_var 3) (pl_cons (pd_frz (pr_lst (pl_cons (pd_var 5) pl_nil))) pl_nil))))))))
    (pss_oneS (ps_retS (pd_frz (pr_dict rfl rfl g.dict (pd_frz (pr_comp (own := [("place", 3), ("numbers", 6)]) rfl sc.nd (w_items (pd_call c_chain_numbers (hr.mono (by decide)) rfl (pl_cons (pd_var 2) (pl_cons (pd_var 1) pl_nil)))) (blkOk_by (own := [("place", 3), ("numbers", 6)]) (by rfl)) (go_tup (gs_cons (go_name 3) (gs_cons (go_name 6) gs_nil))) (by decide) (fun _ _ _ _ _ => (pg_tup rfl (pgs_cons (pg_name (i := 3) sc.nd rfl (Or.inl rfl)) (pgs_cons (pg_name (i := 6) sc.nd rfl (Or.inl rfl)) pgs_nil)))) (fun _ _ _ _ _ => pts_nilD) (fun _ _ _ _ _ => (pd_tup (pl_cons (pd_var 3) (pl_cons (pd_ixv 6 (pv 6) pd_int) pl_nil)))))))))))
theorem sc_gains_of : FnScope ["kind", "what", "numbers", "to", "price"] ["kind", "what", "numbers"] (defScope (top 65)) := ⟨rfl, rfl, rfl, by decide +kernel, rfl, by decide +kernel, by decide +kernel⟩
theorem ok_gains_of {P : Program} {w : World} {K : PySem.W.Frag} {mg : Str → Option Value} {base : Heap} {C f : Addr} {fd : FuncData} (g : Bt mg) (wb : Wb K mg C) (c_less : FnD P w K mg base "less" 3 (spP K C F_less)) (c_options_of : FnD P w K mg base "options_of" 1 (spP K C F_options_of)) (F : FnT K "gains_of" "gains_of" (top 65) f fd) :
    FnOk P w K mg base CX0 4 f fd ["kind", "what", "numbers"] (spP K C F_gains_of) := by
  have sc := sc_gains_of
  refine fn_P F sc rfl rfl fun cdv A outer s H E hr => ?_
  exact (pss_oneS (ps_retS (pd_frz (pr_comp (own := [("to", 3), ("price", 4)]) rfl sc.nd (w_lst (pd_call c_options_of (hr.mono (by decide)) rfl (pl_cons (pd_var 0) (pl_cons (pd_var 1) pl_nil)))) (blkOk_by (own := [("to", 3), ("price", 4)]) (by rfl)) (go_tup (gs_cons (go_name 3) (gs_cons (go_name 4) gs_nil))) (by decide) (fun _ _ _ _ _ => (pg_tup rfl (pgs_cons (pg_name (i := 3) sc.nd rfl (Or.inl rfl)) (pgs_cons (pg_name (i := 4) sc.nd rfl (Or.inl rfl)) pgs_nil)))) (fun _ _ _ _ _ => pts_nilD) (fun _ _ _ _ _ => (pd_tup (pl_cons (pd_var 3) (pl_cons (pd_call c_less (hr.mono (by decide)) rfl (pl_cons (pd_dixv (u1 hr) 2 (pv 2) (pd_var 3)) (pl_cons (pd_var 4) pl_nil))) pl_nil))))))))
theorem sc_better_plan : FnScope ["rows", "plan", "numbers", "is_high", "found", "is_new", "place", "kind", "what", "gains", "now", "to", "gain"] ["rows", "plan", "numbers", "is_high"] (defScope (top 66)) := ⟨rfl, rfl, rfl, by decide +kernel, rfl, by decide +kernel, by decide +kernel⟩
theorem ok_better_plan {P : Program} {w : World} {K : PySem.W.Frag} {mg : Str → Option Value} {base : Heap} {C f : Addr} {fd : FuncData} (g : Bt mg) (wb : Wb K mg C) (c_gains_of : FnD P w K mg base "gains_of" 4 (spP K C F_gains_of)) (c_is_below : FnD P w K mg base "is_below" 1 (spP K C F_is_below)) (F : FnT K "better_plan" "better_plan" (top 66) f fd) :
    FnOk P w K mg base CX0 5 f fd ["rows", "plan", "numbers", "is_high"] (spP K C F_better_plan) := by
  have sc := sc_better_plan
  refine fn_P F sc rfl rfl fun cdv A outer s H E hr => ?_
  exact (pss_consS (ps_parS rfl sc.nd (i := 4) (j := 5) rfl rfl (by decide) rfl rfl (pr_dictv 1 (pv 1) rfl g.dict) (pr_d pd_bl) rfl)
    (pss_consS (ps_forS owns0 rfl (w_tup (pd_var 0)) (pg_tup rfl (pgs_cons (pg_name (i := 6) sc.nd rfl (Or.inr rfl)) (pgs_cons (pg_name (i := 7) sc.nd rfl (Or.inl rfl)) (pgs_cons (pg_name (i := 8) sc.nd rfl (Or.inl rfl)) pgs_nil)))) ((go_tup (gs_cons (go_name 6) (gs_cons (go_name 7) (gs_cons (go_name 8) gs_nil))))).h (pss_oneS (ps_ifS (pt_inDv (u1 hr) (pd_var 6) 1 (pv 1)) (pss_consS (ps_asgS (pd_call c_gains_of (hr.mono (by decide)) rfl (pl_cons (pd_var 7) (pl_cons (pd_var 8) (pl_cons (pd_var 2) pl_nil)))) (pg_name (i := 9) sc.nd rfl (Or.inl rfl)) (go_name 9).h)
    (pss_consS (ps_asgS (pd_ix (pd_frz (pr_comp (own := [("to", 11), ("gain", 12)]) rfl sc.nd (w_lst (pd_var 9)) (blkOk_by (own := [("to", 11), ("gain", 12)]) (by rfl)) (go_tup (gs_cons (go_name 11) (gs_cons (go_name 12) gs_nil))) (by decide) (fun _ _ _ _ _ => (pg_tup rfl (pgs_cons (pg_name (i := 11) sc.nd rfl (Or.inl rfl)) (pgs_cons (pg_name (i := 12) sc.nd rfl (Or.inl rfl)) pgs_nil)))) (fun _ _ _ _ _ => pts_oneD (pt_cmpD (c_eq (u64 hr)) (pd_var 11) (pd_dixv (u1 hr) 1 (pv 1) (pd_var 6)) rfl)) (fun _ _ _ _ _ => (pd_var 12)))) pd_int) (pg_name (i := 10) sc.nd rfl (Or.inl rfl)) (go_name 10).h)
    (pss_oneS (ps_forS owns0 rfl (w_lst (pd_var 9)) (pg_tup rfl (pgs_cons (pg_name (i := 11) sc.nd rfl (Or.inl rfl)) (pgs_cons (pg_name (i := 12) sc.nd rfl (Or.inl rfl)) pgs_nil))) ((go_tup (gs_cons (go_name 11) (gs_cons (go_name 12) gs_nil)))).h (pss_oneS (ps_ifS (pt_ifB (pt_valD (pd_var 3)) (pt_valD (pd_call c_is_below (hr.mono (by decide)) rfl (pl_cons (pd_var 10) (pl_cons (pd_var 12) pl_nil)))) (pt_valD (pd_call c_is_below (hr.mono (by decide)) rfl (pl_cons (pd_var 12) (pl_cons (pd_var 10) pl_nil))))) (pss_oneS (ps_asgS (pd_tup (pl_cons (pd_var 11) (pl_cons (pd_var 12) (pl_cons pd_bl pl_nil)))) (pg_tup rfl (pgs_cons (pg_sub (pv 4) (pd_var 6) (set_dict (u1 hr))) (pgs_cons (pg_name (i := 10) sc.nd rfl (Or.inl rfl)) (pgs_cons (pg_name (i := 5) sc.nd rfl (Or.inl rfl)) pgs_nil)))) (go_tupH (gs_consH (go_dx 4) (gs_consH (go_name 10).h (gs_consH (go_name 5).h gs_nilH)))))) pss_nilS)))))) pss_nilS)))
    (pss_oneS (ps_retS (pd_ifE (pt_valD (pd_var 5)) (pd_var 4) pd_non)))))
theorem sc_nearest_plan : FnScope ["rows", "near", "place", "kind", "what", "found", "many", "ways", "to"] ["rows"] (defScope (top 67)) := ⟨rfl, rfl, rfl, by decide +kernel, rfl, by decide +kernel, by decide +kernel⟩
theorem ok_nearest_plan {P : Program} {w : World} {K : PySem.W.Frag} {mg : Str → Option Value} {base : Heap} {C f : Addr} {fd : FuncData} (g : Bt mg) (wb : Wb K mg C) (c_arrows_of : FnD P w K mg base "arrows_of" 1 (spP K C F_arrows_of)) (F : FnT K "nearest_plan" "nearest_plan" (top 67) f fd) :
    FnOk P w K mg base CX0 2 f fd ["rows"] (spP K C F_nearest_plan) := by
  have sc := sc_nearest_plan
  refine fn_P F sc rfl rfl fun cdv A outer s H E hr => ?_
  exact (pss_consS (ps_setS 1 sc.nd rfl (Or.inr rfl) (pr_comp (own := [("place", 2), ("kind", 3), ("what", 4)]) rfl sc.nd (w_tup (pd_var 0)) (blkOk_by (own := [("place", 2), ("kind", 3), ("what", 4)]) (by rfl)) (go_tup (gs_cons (go_name 2) (gs_cons (go_name 3) (gs_cons (go_name 4) gs_nil)))) (by decide) (fun _ _ _ _ _ => (pg_tup rfl (pgs_cons (pg_name (i := 2) sc.nd rfl (Or.inl rfl)) (pgs_cons (pg_name (i := 3) sc.nd rfl (Or.inl rfl)) (pgs_cons (pg_name (i := 4) sc.nd rfl (Or.inl rfl)) pgs_nil))))) (fun _ _ _ _ _ => pts_oneD (pt_cmpD (c_eq (u64 hr)) (pd_var 3) pd_str rfl)) (fun _ _ _ _ _ => (pd_var 2))))
    (pss_consS (ps_parS rfl sc.nd (i := 5) (j := 6) rfl rfl (by decide) rfl rfl pr_dnew (pr_d pd_neg) rfl)
    (pss_consS (ps_whileS owns0 (pt_cmpD c_lt (pd_var 6) (pd_lenv 1 (pv 1) rfl g.len) rfl) (pss_consS (ps_asgS (pd_lenv 1 (pv 1) rfl g.len) (pg_name (i := 6) sc.nd rfl (Or.inl rfl)) (go_name 6).h)
    (pss_oneS (ps_forS owns0 rfl (w_tup (pd_var 0)) (pg_tup rfl (pgs_cons (pg_name (i := 2) sc.nd rfl (Or.inl rfl)) (pgs_cons (pg_name (i := 3) sc.nd rfl (Or.inl rfl)) (pgs_cons (pg_name (i := 4) sc.nd rfl (Or.inl rfl)) pgs_nil)))) ((go_tup (gs_cons (go_name 2) (gs_cons (go_name 3) (gs_cons (go_name 4) gs_nil))))).h (pss_consS (ps_setLcS (own := [("to", 8)]) rfl sc.nd (i := 7) rfl rfl (sw_true rfl rfl rfl (by decide +kernel)) (w_tup (pd_call c_arrows_of (hr.mono (by decide)) rfl (pl_cons (pd_var 3) (pl_cons (pd_var 4) pl_nil)))) (blkOk_by (own := [("to", 8)]) (by rfl)) (go_name 8) (by decide) (fun _ _ _ _ _ => (pg_name (i := 8) sc.nd rfl (Or.inl rfl))) (fun _ _ _ _ _ => pts_oneD (pt_inv (pd_var 8) 1 (pv 1))) (fun _ _ _ _ _ => (pd_var 8)))
    (pss_oneS (ps_ifS (PWd.pt (pw_andD (pt_notinv (pd_var 2) 1 (pv 1)) (pw_and1D (pt_cmpD (c_ne (u64 hr)) (pd_var 7) (pd_frz (pr_lst pl_nil)) rfl)))) (pss_consS (ps_exprS (pd_append 1 (pv 1) (pd_var 2)))
    (pss_oneS (ps_ifS (pt_cmpD c_in (pd_var 3) (pd_tup (pl_cons pd_str (pl_cons pd_str pl_nil))) rfl) (pss_oneS (ps_asgS (pd_ixv 7 (pv 7) pd_int) (pg_sub (pv 5) (pd_var 2) (set_dict (u1 hr))) (go_dx 5))) pss_nilS))) pss_nilS)))))))
    (pss_consS (ps_forS owns0 rfl (w_tup (pd_var 0)) (pg_tup rfl (pgs_cons (pg_name (i := 2) sc.nd rfl (Or.inl rfl)) (pgs_cons (pg_name (i := 3) sc.nd rfl (Or.inl rfl)) (pgs_cons (pg_name (i := 4) sc.nd rfl (Or.inl rfl)) pgs_nil)))) ((go_tup (gs_cons (go_name 2) (gs_cons (go_name 3) (gs_cons (go_name 4) gs_nil))))).h (pss_oneS (ps_ifS (PWd.pt (pw_andD (pt_cmpD c_in (pd_var 3) (pd_tup (pl_cons pd_str (pl_cons pd_str pl_nil))) rfl) (pw_and1D (pt_notInDv (u1 hr) (pd_var 2) 5 (pv 5))))) (pss_oneS (ps_asgS (pd_ix (pd_call c_arrows_of (hr.mono (by decide)) rfl (pl_cons (pd_var 3) (pl_cons (pd_var 4) pl_nil))) pd_int) (pg_sub (pv 5) (pd_var 2) (set_dict (u1 hr))) (go_dx 5))) pss_nilS)))
    (pss_oneS (ps_retS (pd_var 5)))))))
theorem sc_low_answer : FnScope ["rows", "high", "low", "place", "kind", "what", "numbers"] ["rows", "high"] (defScope (top 68)) := ⟨rfl, rfl, rfl, by decide +kernel, rfl, by decide +kernel, by decide +kernel⟩
theorem ok_low_answer {P : Program} {w : World} {K : PySem.W.Frag} {mg : Str → Option Value} {base : Heap} {C f : Addr} {fd : FuncData} (g : Bt mg) (wb : Wb K mg C) (c_arrows_of : FnD P w K mg base "arrows_of" 1 (spP K C F_arrows_of)) (c_better_plan : FnD P w K mg base "better_plan" 5 (spP K C F_better_plan)) (c_moves_by : FnD P w K mg base "moves_by" 1 (spP K C F_moves_by)) (c_numbers_by : FnD P w K mg base "numbers_by" 6 (spP K C F_numbers_by)) (F : FnT K "low_answer" "low_answer" (top 68) f fd) :
    FnOk P w K mg base CX0 7 f fd ["rows", "high"] (spP K C F_low_answer) := by
  have sc := sc_low_answer
  refine fn_P F sc rfl rfl fun cdv A outer s H E hr => ?_
  exact (pss_consS (ps_setS 2 sc.nd rfl (Or.inl rfl) (pr_dict rfl rfl g.dict (pd_frz (pr_comp (own := [("place", 3), ("kind", 4), ("what", 5)]) rfl sc.nd (w_tup (pd_var 0)) (blkOk_by (own := [("place", 3), ("kind", 4), ("what", 5)]) (by rfl)) (go_tup (gs_cons (go_name 3) (gs_cons (go_name 4) (gs_cons (go_name 5) gs_nil)))) (by decide) (fun _ _ _ _ _ => (pg_tup rfl (pgs_cons (pg_name (i := 3) sc.nd rfl (Or.inl rfl)) (pgs_cons (pg_name (i := 4) sc.nd rfl (Or.inl rfl)) (pgs_cons (pg_name (i := 5) sc.nd rfl (Or.inl rfl)) pgs_nil))))) (fun _ _ _ _ _ => pts_oneD (pt_cmpD c_in (pd_var 4) (pd_tup (pl_cons pd_str (pl_cons pd_str pl_nil))) rfl)) (fun _ _ _ _ _ => (pd_tup (pl_cons (pd_var 3) (pl_cons (pd_ix (pd_call c_arrows_of (hr.mono (by decide)) rfl (pl_cons (pd_var 4) (pl_cons (pd_var 5) pl_nil))) pd_int) pl_nil))))))))
    (pss_consS (ps_whileS owns0 (pt_notN (pd_var 2)) (pss_consS (ps_asgS (pd_call c_numbers_by (hr.mono (by decide)) rfl (pl_cons (pd_var 0) (pl_cons (pd_call c_moves_by (hr.mono (by decide)) rfl (pl_cons (pd_var 0) (pl_cons (pd_var 1) (pl_cons (pd_var 2) pl_nil)))) pl_nil))) (pg_name (i := 6) sc.nd rfl (Or.inl rfl)) (go_name 6).h)
    (pss_oneS (ps_asgS (pd_call c_better_plan (hr.mono (by decide)) rfl (pl_cons (pd_var 0) (pl_cons (pd_var 2) (pl_cons (pd_var 6) (pl_cons pd_bl pl_nil))))) (pg_name (i := 2) sc.nd rfl (Or.inl rfl)) (go_name 2).h))))
    (pss_oneS (ps_retS (pd_var 6)))))
theorem sc_worths_of : FnScope ["rows", "high", "numbers"] ["rows"] (defScope (top 69)) := ⟨rfl, rfl, rfl, by decide +kernel, rfl, by decide +kernel, by decide +kernel⟩
theorem ok_worths_of {P : Program} {w : World} {K : PySem.W.Frag} {mg : Str → Option Value} {base : Heap} {C f : Addr} {fd : FuncData} (g : Bt mg) (wb : Wb K mg C) (c_better_plan : FnD P w K mg base "better_plan" 5 (spP K C F_better_plan)) (c_low_answer : FnD P w K mg base "low_answer" 7 (spP K C F_low_answer)) (c_nearest_plan : FnD P w K mg base "nearest_plan" 2 (spP K C F_nearest_plan)) (F : FnT K "worths_of" "worths_of" (top 69) f fd) :
    FnOk P w K mg base CX0 8 f fd ["rows"] (spP K C F_worths_of) := by
  have sc := sc_worths_of
  refine fn_P F sc rfl rfl fun cdv A outer s H E hr => ?_
  exact (pss_consS (ps_asgS (pd_call c_nearest_plan (hr.mono (by decide)) rfl (pl_cons (pd_var 0) pl_nil)) (pg_name (i := 1) sc.nd rfl (Or.inl rfl)) (go_name 1).h)
    (pss_consS (ps_whileS owns0 (pt_notN (pd_var 1)) (pss_consS (ps_asgS (pd_call c_low_answer (hr.mono (by decide)) rfl (pl_cons (pd_var 0) (pl_cons (pd_var 1) pl_nil))) (pg_name (i := 2) sc.nd rfl (Or.inl rfl)) (go_name 2).h)
    (pss_oneS (ps_asgS (pd_call c_better_plan (hr.mono (by decide)) rfl (pl_cons (pd_var 0) (pl_cons (pd_var 1) (pl_cons (pd_var 2) (pl_cons pd_bl pl_nil))))) (pg_name (i := 1) sc.nd rfl (Or.inl rfl)) (go_name 1).h))))
    (pss_oneS (ps_retS (pd_var 2)))))
theorem sc_is_share : FnScope ["value"] ["value"] (defScope (top 73)) := ⟨rfl, rfl, rfl, by decide +kernel, rfl, by decide +kernel, by decide +kernel⟩
theorem ok_is_share {P : Program} {w : World} {K : PySem.W.Frag} {mg : Str → Option Value} {base : Heap} {C f : Addr} {fd : FuncData} (g : Bt mg) (wb : Wb K mg C) (c_is_chance : FnD P w K mg base "is_chance" 3 (spP K C F_is_chance)) (k_MOST_BOTTOM : GlC K mg C "MOST_BOTTOM" d_MOST_BOTTOM) (F : FnT K "is_share" "is_share" (top 73) f fd) :
    FnOk P w K mg base CX0 4 f fd ["value"] (spP K C F_is_share) := by
  have sc := sc_is_share
  refine fn_P F sc rfl rfl fun cdv A outer s H E hr => ?_
  exact (pss_oneS (ps_retS (pd_andD (pd_toB (pd_call c_is_chance (hr.mono (by decide)) rfl (pl_cons (pd_var 0) pl_nil))) (pd_oneD (pd_cmp c_le (pd_ixv 0 (pv 0) pd_int) (pd_gl k_MOST_BOTTOM rfl) rfl)))))
theorem sc_are_parts : FnScope ["web", "end"] ["web"] (defScope (top 74)) := ⟨rfl, rfl, rfl, by decide +kernel, rfl, by decide +kernel, by decide +kernel⟩
theorem ok_are_parts {P : Program} {w : World} {K : PySem.W.Frag} {mg : Str → Option Value} {base : Heap} {C f : Addr} {fd : FuncData} (g : Bt mg) (wb : Wb K mg C) (c_is_chance : FnD P w K mg base "is_chance" 3 (spP K C F_is_chance)) (m_ends : PrpD P w K mg base C "ends" 1 (spP K C F_W_ends)) (m_number : MetD P w K mg base C "number" 2 (spP K C F_W_number)) (F : FnT K "are_parts" "are_parts" (top 74) f fd) :
    FnOk P w K mg base CX0 4 f fd ["web"] (spP K C F_are_parts) := by
  have sc := sc_are_parts
  refine fn_P F sc rfl rfl fun cdv A outer s H E hr => ?_
  exact (pss_oneS (ps_retS (pd_callB (k_all rfl) rfl g.all (by decide +kernel) (pd_frz (pr_comp (own := [("end", 1)]) rfl sc.nd (w_tup (pd_propD (pd_var 0) wb.cl m_ends (hr.mono (by decide)))) (blkOk_by (own := [("end", 1)]) (by rfl)) (go_name 1) (by decide) (fun _ _ _ _ _ => (pg_name (i := 1) sc.nd rfl (Or.inl rfl))) (fun _ _ _ _ _ => pts_nilD) (fun _ _ _ _ _ => (pd_call c_is_chance (hr.mono (by decide)) rfl (pl_cons (pd_methD (pd_var 0) wb.cl m_number (hr.mono (by decide)) (pl_cons (pd_var 1) pl_nil)) pl_nil))))))))
theorem sc_are_coins : FnScope ["web", "place", "kind", "what"] ["web"] (defScope (top 75)) := ⟨rfl, rfl, rfl, by decide +kernel, rfl, by decide +kernel, by decide +kernel⟩
theorem ok_are_coins {P : Program} {w : World} {K : PySem.W.Frag} {mg : Str → Option Value} {base : Heap} {C f : Addr} {fd : FuncData} (g : Bt mg) (wb : Wb K mg C) (m_rows : PrpD P w K mg base C "rows" 1 (spP K C F_W_rows)) (F : FnT K "are_coins" "are_coins" (top 75) f fd) :
    FnOk P w K mg base CX0 3 f fd ["web"] (spP K C F_are_coins) := by
  have sc := sc_are_coins
  refine fn_P F sc rfl rfl fun cdv A outer s H E hr => ?_
  exact (pss_oneS (ps_retS (pd_callB (k_all rfl) rfl g.all (by decide +kernel) (pd_frz (pr_comp (own := [("place", 1), ("kind", 2), ("what", 3)]) rfl sc.nd (w_tup (pd_propD (pd_var 0) wb.cl m_rows (hr.mono (by decide)))) (blkOk_by (own := [("place", 1), ("kind", 2), ("what", 3)]) (by rfl)) (go_tup (gs_cons (go_name 1) (gs_cons (go_name 2) (gs_cons (go_name 3) gs_nil)))) (by decide) (fun _ _ _ _ _ => (pg_tup rfl (pgs_cons (pg_name (i := 1) sc.nd rfl (Or.inl rfl)) (pgs_cons (pg_name (i := 2) sc.nd rfl (Or.inl rfl)) (pgs_cons (pg_name (i := 3) sc.nd rfl (Or.inl rfl)) pgs_nil))))) (fun _ _ _ _ _ => pts_nilD) (fun _ _ _ _ _ => (pd_cmp c_in (pd_var 2) (pd_tup (pl_cons pd_str (pl_cons pd_str pl_nil))) rfl)))))))
theorem sc_needs_of : FnScope ["web", "place", "number"] ["web"] (defScope (top 76)) := ⟨rfl, rfl, rfl, by decide +kernel, rfl, by decide +kernel, by decide +kernel⟩
theorem ok_needs_of {P : Program} {w : World} {K : PySem.W.Frag} {mg : Str → Option Value} {base : Heap} {C f : Addr} {fd : FuncData} (g : Bt mg) (wb : Wb K mg C) (c_less : FnD P w K mg base "less" 3 (spP K C F_less)) (c_worths_of : FnD P w K mg base "worths_of" 8 (spP K C F_worths_of)) (k_ONE : GlC K mg C "ONE" d_ONE) (m_rows : PrpD P w K mg base C "rows" 1 (spP K C F_W_rows)) (F : FnT K "needs_of" "needs_of" (top 76) f fd) :
    FnOk P w K mg base CX0 9 f fd ["web"] (spP K C F_needs_of) := by
  have sc := sc_needs_of
  refine fn_P F sc rfl rfl fun cdv A outer s H E hr => ?_
  exact (pss_oneS (ps_retS (pd_frz (pr_dict rfl rfl g.dict (pd_frz (pr_comp (own := [("place", 1), ("number", 2)]) rfl sc.nd (w_items (pd_call c_worths_of (hr.mono (by decide)) rfl (pl_cons (pd_propD (pd_var 0) wb.cl m_rows (hr.mono (by decide))) pl_nil))) (blkOk_by (own := [("place", 1), ("number", 2)]) (by rfl)) (go_tup (gs_cons (go_name 1) (gs_cons (go_name 2) gs_nil))) (by decide) (fun _ _ _ _ _ => (pg_tup rfl (pgs_cons (pg_name (i := 1) sc.nd rfl (Or.inl rfl)) (pgs_cons (pg_name (i := 2) sc.nd rfl (Or.inl rfl)) pgs_nil)))) (fun _ _ _ _ _ => pts_nilD) (fun _ _ _ _ _ => (pd_tup (pl_cons (pd_var 1) (pl_cons (pd_call c_less (hr.mono (by decide)) rfl (pl_cons (pd_gl k_ONE rfl) (pl_cons (pd_var 2) pl_nil))) pl_nil))))))))))
theorem sc_winner_of : FnScope ["need", "share"] ["need", "share"] (defScope (top 77)) := ⟨rfl, rfl, rfl, by decide +kernel, rfl, by decide +kernel, by decide +kernel⟩
theorem ok_winner_of {P : Program} {w : World} {K : PySem.W.Frag} {mg : Str → Option Value} {base : Heap} {C f : Addr} {fd : FuncData} (g : Bt mg) (wb : Wb K mg C) (c_is_below : FnD P w K mg base "is_below" 1 (spP K C F_is_below)) (F : FnT K "winner_of" "winner_of" (top 77) f fd) :
    FnOk P w K mg base CX0 2 f fd ["need", "share"] (spP K C F_winner_of) := by
  have sc := sc_winner_of
  refine fn_P F sc rfl rfl fun cdv A outer s H E hr => ?_
  exact (pss_consS (ps_ifS (pt_cmpD (c_eq (u64 hr)) (pd_var 0) (pd_var 1) rfl) (pss_oneS (ps_retS pd_non)) pss_nilS)
    (pss_oneS (ps_retS (pd_ifE (pt_valD (pd_call c_is_below (hr.mono (by decide)) rfl (pl_cons (pd_var 0) (pl_cons (pd_var 1) pl_nil)))) pd_str pd_str))))
theorem sc_range_of : FnScope ["found", "web", "place", "share", "side", "to", "around", "other", "low", "high"] ["found", "web", "place", "share", "side", "to"] (defScope (top 78)) := ⟨rfl, rfl, rfl, by decide +kernel, rfl, by decide +kernel, by decide +kernel⟩
theorem ok_range_of {P : Program} {w : World} {K : PySem.W.Frag} {mg : Str → Option Value} {base : Heap} {C f : Addr} {fd : FuncData} (g : Bt mg) (wb : Wb K mg C) (c_greatest_of_numbers : FnD P w K mg base "greatest_of_numbers" 3 (spP K C F_greatest_of_numbers)) (c_is_below : FnD P w K mg base "is_below" 1 (spP K C F_is_below)) (c_least_of : FnD P w K mg base "least_of" 3 (spP K C F_least_of)) (c_less : FnD P w K mg base "less" 3 (spP K C F_less)) (c_winner_of : FnD P w K mg base "winner_of" 2 (spP K C F_winner_of)) (m_arrows : MetD P w K mg base C "arrows" 2 (spP K C F_W_arrows)) (F : FnT K "range_of" "range_of" (top 78) f fd) :
    FnOk P w K mg base CX0 4 f fd ["found", "web", "place", "share", "side", "to"] (spP K C F_range_of) := by
  have sc := sc_range_of
  refine fn_P F sc rfl rfl fun cdv A outer s H E hr => ?_
  exact (pss_consS (ps_setLcS (own := [("other", 7)]) rfl sc.nd (i := 6) rfl rfl (sw_true rfl rfl rfl (by decide +kernel)) (w_tup (pd_methD (pd_var 1) wb.cl m_arrows (hr.mono (by decide)) (pl_cons (pd_var 2) pl_nil))) (blkOk_by (own := [("other", 7)]) (by rfl)) (go_name 7) (by decide) (fun _ _ _ _ _ => (pg_name (i := 7) sc.nd rfl (Or.inl rfl))) (fun _ _ _ _ _ => pts_nilD) (fun _ _ _ _ _ => (pd_dixv (u1 hr) 0 (pv 0) (pd_var 7))))
    (pss_consS (ps_ifS (pt_cmpD (c_eq (u64 hr)) (pd_var 4) pd_str rfl) (pss_oneS (ps_parS rfl sc.nd (i := 8) (j := 9) rfl rfl (by decide) rfl rfl (pr_d (pd_call c_less (hr.mono (by decide)) rfl (pl_cons (pd_call c_greatest_of_numbers (hr.mono (by decide)) rfl (pl_cons (pd_var 6) pl_nil)) (pl_cons (pd_var 3) pl_nil)))) (pr_d (pd_call c_less (hr.mono (by decide)) rfl (pl_cons (pd_var 3) (pl_cons (pd_dixv (u1 hr) 0 (pv 0) (pd_var 5)) pl_nil)))) rfl)) (pss_oneS (ps_parS rfl sc.nd (i := 8) (j := 9) rfl rfl (by decide) rfl rfl (pr_d (pd_call c_less (hr.mono (by decide)) rfl (pl_cons (pd_var 3) (pl_cons (pd_call c_least_of (hr.mono (by decide)) rfl (pl_cons (pd_var 6) pl_nil)) pl_nil)))) (pr_d (pd_call c_less (hr.mono (by decide)) rfl (pl_cons (pd_dixv (u1 hr) 0 (pv 0) (pd_var 5)) (pl_cons (pd_var 3) pl_nil)))) rfl)))
    (pss_oneS (ps_retS (pd_ifE (PWd.pt (pw_andD (pt_cmpD (c_eq (u64 hr)) (pd_call c_winner_of (hr.mono (by decide)) rfl (pl_cons (pd_dixv (u1 hr) 0 (pv 0) (pd_var 2)) (pl_cons (pd_var 3) pl_nil))) (pd_var 4) rfl) (pw_and1D (pt_valD (pd_call c_is_below (hr.mono (by decide)) rfl (pl_cons (pd_var 8) (pl_cons (pd_var 9) pl_nil))))))) (pd_tup (pl_cons (pd_var 8) (pl_cons (pd_var 9) pl_nil))) pd_non)))))
theorem sc_check_coins : FnScope ["web"] ["web"] (defScope (top 79)) := ⟨rfl, rfl, rfl, by decide +kernel, rfl, by decide +kernel, by decide +kernel⟩
theorem ok_check_coins {P : Program} {w : World} {K : PySem.W.Frag} {mg : Str → Option Value} {base : Heap} {C f : Addr} {fd : FuncData} (g : Bt mg) (wb : Wb K mg C) (c_are_coins : FnD P w K mg base "are_coins" 3 (spP K C F_are_coins)) (c_are_parts : FnD P w K mg base "are_parts" 4 (spP K C F_are_parts)) (F : FnT K "check_coins" "check_coins" (top 79) f fd) :
    FnOk P w K mg base CX0 5 f fd ["web"] (spP K C F_check_coins) := by
  have sc := sc_check_coins
  refine fn_P F sc rfl rfl fun cdv A outer s H E hr => ?_
  exact (pss_consS (ps_ifS (pt_notD (pt_valD (pd_call c_are_coins (hr.mono (by decide)) rfl (pl_cons (pd_var 0) pl_nil)))) (pss_oneS ps_neverS) pss_nilS)
    (pss_oneS (ps_ifS (pt_notD (pt_valD (pd_call c_are_parts (hr.mono (by decide)) rfl (pl_cons (pd_var 0) pl_nil)))) (pss_oneS ps_neverS) pss_nilS)))
theorem sc_check_share : FnScope ["value"] ["value"] (defScope (top 80)) := ⟨rfl, rfl, rfl, by decide +kernel, rfl, by decide +kernel, by decide +kernel⟩
theorem ok_check_share {P : Program} {w : World} {K : PySem.W.Frag} {mg : Str → Option Value} {base : Heap} {C f : Addr} {fd : FuncData} (g : Bt mg) (wb : Wb K mg C) (c_is_share : FnD P w K mg base "is_share" 4 (spP K C F_is_share)) (F : FnT K "check_share" "check_share" (top 80) f fd) :
    FnOk P w K mg base CX0 5 f fd ["value"] (spP K C F_check_share) := by
  have sc := sc_check_share
  refine fn_P F sc rfl rfl fun cdv A outer s H E hr => ?_
  exact (pss_oneS (ps_ifS (pt_notD (pt_valD (pd_call c_is_share (hr.mono (by decide)) rfl (pl_cons (pd_var 0) pl_nil)))) (pss_oneS ps_neverS) pss_nilS))
theorem sc_check_asked : FnScope ["web", "place", "share", "side", "to"] ["web", "place", "share", "side", "to"] (defScope (top 81)) := ⟨rfl, rfl, rfl, by decide +kernel, rfl, by decide +kernel, by decide +kernel⟩
theorem ok_check_asked {P : Program} {w : World} {K : PySem.W.Frag} {mg : Str → Option Value} {base : Heap} {C f : Addr} {fd : FuncData} (g : Bt mg) (wb : Wb K mg C) (c_check_share : FnD P w K mg base "check_share" 5 (spP K C F_check_share)) (c_check_web : FnD P w K mg base "check_web" 1 (spP K C F_check_web)) (c_is_one_of : FnD P w K mg base "is_one_of" 1 (spP K C F_is_one_of)) (k_SIDES : GlC K mg C "SIDES" d_SIDES) (m_arrows : MetD P w K mg base C "arrows" 2 (spP K C F_W_arrows)) (m_check_place : MetD P w K mg base C "check_place" 1 (spP K C F_W_check_place)) (F : FnT K "check_asked" "check_asked" (top 81) f fd) :
    FnOk P w K mg base CX0 6 f fd ["web", "place", "share", "side", "to"] (spP K C F_check_asked) := by
  have sc := sc_check_asked
  refine fn_P F sc rfl rfl fun cdv A outer s H E hr => ?_
  exact (pss_consS (ps_exprS (pd_call c_check_web (hr.mono (by decide)) rfl (pl_cons (pd_var 0) pl_nil)))
    (pss_consS (ps_exprS (pd_methD (pd_var 0) wb.cl m_check_place (hr.mono (by decide)) (pl_cons (pd_var 1) pl_nil)))
    (pss_consS (ps_exprS (pd_call c_check_share (hr.mono (by decide)) rfl (pl_cons (pd_var 2) pl_nil)))
    (pss_consS (ps_ifS (pt_notD (pt_valD (pd_call c_is_one_of (hr.mono (by decide)) rfl (pl_cons (pd_var 3) (pl_cons (pd_gl k_SIDES rfl) pl_nil))))) (pss_oneS ps_neverS) pss_nilS)
    (pss_consS (ps_exprS (pd_methD (pd_var 0) wb.cl m_check_place (hr.mono (by decide)) (pl_cons (pd_var 4) pl_nil)))
    (pss_oneS (ps_ifS (pt_cmpD c_notin (pd_var 4) (pd_methD (pd_var 0) wb.cl m_arrows (hr.mono (by decide)) (pl_cons (pd_var 1) pl_nil)) rfl) (pss_oneS ps_neverS) pss_nilS)))))))
theorem sc_needs : FnScope ["web", "found", "place"] ["web"] (defScope (top 82)) := ⟨rfl, rfl, rfl, by decide +kernel, rfl, by decide +kernel, by decide +kernel⟩
theorem ok_needs {P : Program} {w : World} {K : PySem.W.Frag} {mg : Str → Option Value} {base : Heap} {C f : Addr} {fd : FuncData} (g : Bt mg) (wb : Wb K mg C) (c_check_coins : FnD P w K mg base "check_coins" 5 (spP K C F_check_coins)) (c_check_web : FnD P w K mg base "check_web" 1 (spP K C F_check_web)) (c_needs_of : FnD P w K mg base "needs_of" 9 (spP K C F_needs_of)) (m_places : PrpD P w K mg base C "places" 1 (spP K C F_W_places)) (F : FnT K "needs" "needs" (top 82) f fd) :
    FnOk P w K mg base CX0 10 f fd ["web"] (spP K C F_needs) := by
  have sc := sc_needs
  refine fn_P F sc rfl rfl fun cdv A outer s H E hr => ?_
  exact (pss_consS (ps_exprS (pd_call c_check_web (hr.mono (by decide)) rfl (pl_cons (pd_var 0) pl_nil)))
    (pss_consS (ps_exprS (pd_call c_check_coins (hr.mono (by decide)) rfl (pl_cons (pd_var 0) pl_nil)))
    (pss_consS (ps_asgS (pd_call c_needs_of (hr.mono (by decide)) rfl (pl_cons (pd_var 0) pl_nil)) (pg_name (i := 1) sc.nd rfl (Or.inr rfl)) (go_name 1).h)
    (pss_oneS (ps_retS (pd_callTy (k_tuple) rfl g.tuple (by decide +kernel) (pd_frz (pr_comp (own := [("place", 2)]) rfl sc.nd (w_tup (pd_propD (pd_var 0) wb.cl m_places (hr.mono (by decide)))) (blkOk_by (own := [("place", 2)]) (by rfl)) (go_name 2) (by decide) (fun _ _ _ _ _ => (pg_name (i := 2) sc.nd rfl (Or.inl rfl))) (fun _ _ _ _ _ => pts_nilD) (fun _ _ _ _ _ => (pd_dixv (u1 hr) 1 (pv 1) (pd_var 2)))))))))))
theorem sc_safe_range : FnScope ["web", "place", "share", "side", "to"] ["web", "place", "share", "side", "to"] (defScope (top 83)) := ⟨rfl, rfl, rfl, by decide +kernel, rfl, by decide +kernel, by decide +kernel⟩
theorem ok_safe_range {P : Program} {w : World} {K : PySem.W.Frag} {mg : Str → Option Value} {base : Heap} {C f : Addr} {fd : FuncData} (g : Bt mg) (wb : Wb K mg C) (c_check_asked : FnD P w K mg base "check_asked" 6 (spP K C F_check_asked)) (c_check_coins : FnD P w K mg base "check_coins" 5 (spP K C F_check_coins)) (c_needs_of : FnD P w K mg base "needs_of" 9 (spP K C F_needs_of)) (c_range_of : FnD P w K mg base "range_of" 4 (spP K C F_range_of)) (F : FnT K "safe_range" "safe_range" (top 83) f fd) :
    FnOk P w K mg base CX0 10 f fd ["web", "place", "share", "side", "to"] (spP K C F_safe_range) := by
  have sc := sc_safe_range
  refine fn_P F sc rfl rfl fun cdv A outer s H E hr => ?_
  exact (pss_consS (ps_exprS (pd_call c_check_asked (hr.mono (by decide)) rfl (pl_cons (pd_var 0) (pl_cons (pd_var 1) (pl_cons (pd_var 2) (pl_cons (pd_var 3) (pl_cons (pd_var 4) pl_nil)))))))
    (pss_consS (ps_exprS (pd_call c_check_coins (hr.mono (by decide)) rfl (pl_cons (pd_var 0) pl_nil)))
    (pss_oneS (ps_retS (pd_call c_range_of (hr.mono (by decide)) rfl (pl_cons (pd_call c_needs_of (hr.mono (by decide)) rfl (pl_cons (pd_var 0) pl_nil)) (pl_cons (pd_var 0) (pl_cons (pd_var 1) (pl_cons (pd_var 2) (pl_cons (pd_var 3) (pl_cons (pd_var 4) pl_nil)))))))))))
theorem sc__law_keg : FnScope ["_law_script", "_law_turn", "_law_mixed", "_law_cell", "_law_own"] ["_law_script", "_law_turn"] (defScope (top 85)) := ⟨rfl, rfl, rfl, by decide +kernel, rfl, by decide +kernel, by decide +kernel⟩
theorem ok__law_keg {P : Program} {w : World} {K : PySem.W.Frag} {mg : Str → Option Value} {base : Heap} {C f : Addr} {fd : FuncData} (g : Bt mg) (wb : Wb K mg C)  (F : FnT K "_law_keg" "_law_keg" (top 85) f fd) :
    FnOk P w K mg base CX0 1 f fd ["_law_script", "_law_turn"] (spF K C F__law_keg) := by
  have sc := sc__law_keg
  refine fn_F F sc rfl rfl fun cdv A outer s H E hr => ?_
  exact (pss_consK (ps_asgS (pd_add pd_int (pd_mul pd_int (pd_var 1))) (pg_name (i := 2) sc.nd rfl (Or.inl rfl)) (go_name 2).h) no_asg
    (pss_consK (ps_forS owns0 rfl (w_lst (pd_frz (pr_sl (pd_var 0) po_noneD (po_someD pd_int)))) (pg_name (i := 3) sc.nd rfl (Or.inl rfl)) ((go_name 3)).h (pss_oneS (ps_asgS (pd_mod (pd_callTy (k_int) rfl g.int (by decide +kernel) (pd_add (pd_mul (pd_var 2) pd_int) (pd_var 3))) pd_int) (pg_name (i := 2) sc.nd rfl (Or.inl rfl)) (go_name 2).h))) (no_for no_asg)
    (pss_consK (ps_asgS (pd_ifE (pt_cmpD c_lt (pd_var 1) (pd_lenv 0 (pv 0) rfl g.len) rfl) (pd_ixv 0 (pv 0) (pd_var 1)) (pd_add (pd_mul pd_int (pd_var 1)) pd_int)) (pg_name (i := 4) sc.nd rfl (Or.inl rfl)) (go_name 4).h) no_asg
    (pss_retK (pr_lst (pl_cons (pd_ifE (pt_cmpD c_ge (pd_callB (k_abs) rfl g.abs (by decide +kernel) (pd_var 4)) (pd_pow pd_int pd_int) rfl) (pd_callB (k_abs) rfl g.abs (by decide +kernel) (pd_var 4)) pd_int) (pl_cons (pd_mod (pd_callTy (k_int) rfl g.int (by decide +kernel) (pd_add (pd_add (pd_mul (pd_var 2) pd_int) (pd_mul (pd_var 4) pd_int)) pd_int)) pd_int) (pl_cons pd_int pl_nil))))))))
theorem sc__law_ladle : FnScope ["_law_keg_here", "_law_most", "_law_figure", "_law_mixed"] ["_law_keg_here", "_law_most"] (defScope (top 86)) := ⟨rfl, rfl, rfl, by decide +kernel, rfl, by decide +kernel, by decide +kernel⟩
theorem ok__law_ladle {P : Program} {w : World} {K : PySem.W.Frag} {mg : Str → Option Value} {base : Heap} {C f : Addr} {fd : FuncData} (g : Bt mg) (wb : Wb K mg C)  (F : FnT K "_law_ladle" "_law_ladle" (top 86) f fd) :
    FnOk P w K mg base CX0 1 f fd ["_law_keg_here", "_law_most"] (spG K C F__law_ladle) := by
  have sc := sc__law_ladle
  refine fn_G F sc rfl rfl fun κ cdv A outer s H E hr => ?_
  exact (pss_consS (ps_ifS (pt_cmpD c_gt (pd_kg 0 0 (pv 0)) pd_int rfl) (pss_consS (ps_asgS (pd_divmod rfl g.divmod (pd_kg 0 0 (pv 0)) (pd_var 1)) (pg_tup rfl (pgs_cons (pg_sub (pv 0) pe_int set_list) (pgs_cons (pg_name (i := 2) sc.nd rfl (Or.inl rfl)) pgs_nil))) (go_tupH (gs_consH (go_kg 0 0) (gs_consH (go_name 2).h gs_nilH))))
    (pss_oneS (ps_retS (pd_var 2)))) pss_nilS)
    (pss_consS (ps_asgS (pd_add (pd_kg 0 2 (pv 0)) pd_int) (pg_sub (pv 0) pe_int set_list) (go_kg 0 2))
    (pss_consS (ps_asgS (pd_mod (pd_callTy (k_int) rfl g.int (by decide +kernel) (pd_add (pd_add (pd_mul (pd_kg 0 1 (pv 0)) pd_int) (pd_mul (pd_mul (pd_kg 0 2 (pv 0)) (pd_kg 0 2 (pv 0))) pd_int)) pd_int)) pd_int) (pg_name (i := 3) sc.nd rfl (Or.inl rfl)) (go_name 3).h)
    (pss_consS (ps_asgS (pd_mod (pd_callTy (k_int) rfl g.int (by decide +kernel) (pd_add (pd_mul (pd_var 3) (pd_add pd_int (pd_mod (pd_callTy (k_int) rfl g.int (by decide +kernel) (pd_var 3)) pd_int))) pd_int)) pd_int) (pg_sub (pv 0) pe_int set_list) (go_kg 0 1))
    (pss_oneS (ps_retS (pd_mod (pd_callTy (k_int) rfl g.int (by decide +kernel) (pd_div (pd_kg 0 1 (pv 0)) pd_int)) (pd_var 1))))))))
theorem sc__law_one : FnScope ["_law_keg_here", "_law_menu"] ["_law_keg_here", "_law_menu"] (defScope (top 87)) := ⟨rfl, rfl, rfl, by decide +kernel, rfl, by decide +kernel, by decide +kernel⟩
theorem ok__law_one {P : Program} {w : World} {K : PySem.W.Frag} {mg : Str → Option Value} {base : Heap} {C f : Addr} {fd : FuncData} (g : Bt mg) (wb : Wb K mg C) (c__law_ladle : FnD P w K mg base "_law_ladle" 1 (spG K C F__law_ladle)) (F : FnT K "_law_one" "_law_one" (top 87) f fd) :
    FnOk P w K mg base CX0 2 f fd ["_law_keg_here", "_law_menu"] (spG K C F__law_one) := by
  have sc := sc__law_one
  refine fn_G F sc rfl rfl fun κ cdv A outer s H E hr => ?_
  exact (pss_oneS (ps_retS (pd_ixv 1 (pv 1) (pd_callG 0 c__law_ladle (hr.mono (by decide)) rfl (pv 0) (pl_cons (pd_lenv 1 (pv 1) rfl g.len) pl_nil)))))
theorem sc__law_low : FnScope ["_law_top", "_law_bottom", "_law_one_here", "_law_two"] ["_law_top", "_law_bottom"] (defScope (top 88)) := ⟨rfl, rfl, rfl, by decide +kernel, rfl, by decide +kernel, by decide +kernel⟩
theorem ok__law_low {P : Program} {w : World} {K : PySem.W.Frag} {mg : Str → Option Value} {base : Heap} {C f : Addr} {fd : FuncData} (g : Bt mg) (wb : Wb K mg C)  (F : FnT K "_law_low" "_law_low" (top 88) f fd) :
    FnOk P w K mg base CX0 1 f fd ["_law_top", "_law_bottom"] (spP K C F__law_low) := by
  have sc := sc__law_low
  refine fn_P F sc rfl rfl fun cdv A outer s H E hr => ?_
  exact (pss_consS (ps_parS rfl sc.nd (i := 2) (j := 3) rfl rfl (by decide) rfl rfl (pr_d (pd_callB (k_abs) rfl g.abs (by decide +kernel) (pd_var 0))) (pr_d (pd_var 1)) rfl)
    (pss_consS (ps_whileS owns0 (pt_cmpD c_gt (pd_var 3) pd_int rfl) (pss_oneS (ps_parS rfl sc.nd (i := 2) (j := 3) rfl rfl (by decide) rfl rfl (pr_d (pd_var 3)) (pr_d (pd_mod (pd_callTy (k_int) rfl g.int (by decide +kernel) (pd_var 2)) (pd_var 3))) rfl)))
    (pss_oneS (ps_retS (pd_tup (pl_cons (pd_div (pd_var 0) (pd_var 2)) (pl_cons (pd_div (pd_var 1) (pd_var 2)) pl_nil)))))))
theorem sc__law_gap : FnScope ["_law_one_here", "_law_two"] ["_law_one_here", "_law_two"] (defScope (top 89)) := ⟨rfl, rfl, rfl, by decide +kernel, rfl, by decide +kernel, by decide +kernel⟩
theorem ok__law_gap {P : Program} {w : World} {K : PySem.W.Frag} {mg : Str → Option Value} {base : Heap} {C f : Addr} {fd : FuncData} (g : Bt mg) (wb : Wb K mg C) (c__law_low : FnD P w K mg base "_law_low" 1 (spP K C F__law_low)) (F : FnT K "_law_gap" "_law_gap" (top 89) f fd) :
    FnOk P w K mg base CX0 2 f fd ["_law_one_here", "_law_two"] (spP K C F__law_gap) := by
  have sc := sc__law_gap
  refine fn_P F sc rfl rfl fun cdv A outer s H E hr => ?_
  exact (pss_oneS (ps_retS (pd_call c__law_low (hr.mono (by decide)) rfl (pl_cons (pd_sub (pd_mul (pd_ixv 0 (pv 0) pd_int) (pd_ixv 1 (pv 1) pd_int)) (pd_mul (pd_ixv 1 (pv 1) pd_int) (pd_ixv 0 (pv 0) pd_int))) (pl_cons (pd_mul (pd_ixv 0 (pv 0) pd_int) (pd_ixv 1 (pv 1) pd_int)) pl_nil)))))
theorem sc__law_under : FnScope ["_law_one_here", "_law_two"] ["_law_one_here", "_law_two"] (defScope (top 90)) := ⟨rfl, rfl, rfl, by decide +kernel, rfl, by decide +kernel, by decide +kernel⟩
theorem ok__law_under {P : Program} {w : World} {K : PySem.W.Frag} {mg : Str → Option Value} {base : Heap} {C f : Addr} {fd : FuncData} (g : Bt mg) (wb : Wb K mg C)  (F : FnT K "_law_under" "_law_under" (top 90) f fd) :
    FnOk P w K mg base CX0 1 f fd ["_law_one_here", "_law_two"] (spP K C F__law_under) := by
  have sc := sc__law_under
  refine fn_P F sc rfl rfl fun cdv A outer s H E hr => ?_
  exact (pss_oneS (ps_retS (pd_cmp c_lt (pd_mul (pd_ixv 0 (pv 0) pd_int) (pd_ixv 1 (pv 1) pd_int)) (pd_mul (pd_ixv 1 (pv 1) pd_int) (pd_ixv 0 (pv 0) pd_int)) rfl)))
theorem sc__law_ends_of : FnScope ["_law_some_here", "_law_low_here", "_law_high", "_law_each"] ["_law_some_here"] (defScope (top 91)) := ⟨rfl, rfl, rfl, by decide +kernel, rfl, by decide +kernel, by decide +kernel⟩
theorem ok__law_ends_of {P : Program} {w : World} {K : PySem.W.Frag} {mg : Str → Option Value} {base : Heap} {C f : Addr} {fd : FuncData} (g : Bt mg) (wb : Wb K mg C) (c__law_under : FnD P w K mg base "_law_under" 1 (spP K C F__law_under)) (F : FnT K "_law_ends_of" "_law_ends_of" (top 91) f fd) :
    FnOk P w K mg base CX0 2 f fd ["_law_some_here"] (spP K C F__law_ends_of) := by
  have sc := sc__law_ends_of
  refine fn_P F sc rfl rfl fun cdv A outer s H E hr => ?_
  exact (pss_consS (ps_parS rfl sc.nd (i := 1) (j := 2) rfl rfl (by decide) rfl rfl (pr_d (pd_ixv 0 (pv 0) pd_int)) (pr_d (pd_ixv 0 (pv 0) pd_int)) rfl)
    (pss_consS (ps_forS owns0 rfl (w_lst (pd_var 0)) (pg_name (i := 3) sc.nd rfl (Or.inl rfl)) ((go_name 3)).h (pss_consS (ps_asgS (pd_ifE (pt_valD (pd_call c__law_under (hr.mono (by decide)) rfl (pl_cons (pd_var 3) (pl_cons (pd_var 1) pl_nil)))) (pd_var 3) (pd_var 1)) (pg_name (i := 1) sc.nd rfl (Or.inl rfl)) (go_name 1).h)
    (pss_oneS (ps_asgS (pd_ifE (pt_valD (pd_call c__law_under (hr.mono (by decide)) rfl (pl_cons (pd_var 2) (pl_cons (pd_var 3) pl_nil)))) (pd_var 3) (pd_var 2)) (pg_name (i := 2) sc.nd rfl (Or.inl rfl)) (go_name 2).h))))
    (pss_oneS (ps_retS (pd_frz (pr_lst (pl_cons (pd_var 1) (pl_cons (pd_var 2) pl_nil))))))))
theorem sc__law_names : FnScope ["_law_keg_here", "_law_many", "_law_found", "_law_mixed", "_law_left", "_law_k"] ["_law_keg_here", "_law_many"] (defScope (top 92)) := ⟨rfl, rfl, rfl, by decide +kernel, rfl, by decide +kernel, by decide +kernel⟩
theorem ok__law_names {P : Program} {w : World} {K : PySem.W.Frag} {mg : Str → Option Value} {base : Heap} {C f : Addr} {fd : FuncData} (g : Bt mg) (wb : Wb K mg C) (c__law_ladle : FnD P w K mg base "_law_ladle" 1 (spG K C F__law_ladle)) (F : FnT K "_law_names" "_law_names" (top 92) f fd) :
    FnOk P w K mg base CX0 2 f fd ["_law_keg_here", "_law_many"] (spG K C F__law_names) := by
  have sc := sc__law_names
  refine fn_G F sc rfl rfl fun κ cdv A outer s H E hr => ?_
  exact (pss_consS (ps_setS 2 sc.nd rfl (Or.inl rfl) (pr_lst (pl_cons pd_str (pl_cons pd_str (pl_cons pd_str (pl_cons pd_str (pl_cons pd_str (pl_cons pd_str (pl_cons pd_str (pl_cons pd_str (pl_cons pd_str pl_nil)))))))))))
    (pss_consS (ps_whileS owns0 (pt_cmpD c_gt (pd_lenv 2 (pv 2) rfl g.len) (pd_var 1) rfl) (pss_oneS (ps_exprS (pd_pop 2 (pv 2) (pd_callG 0 c__law_ladle (hr.mono (by decide)) rfl (pv 0) (pl_cons (pd_lenv 2 (pv 2) rfl g.len) pl_nil))))))
    (pss_consS (ps_parS rfl sc.nd (i := 3) (j := 4) rfl rfl (by decide) rfl rfl (pr_lst pl_nil) (pr_listv rfl 2 (pv 2) rfl g.list) rfl)
    (pss_consS (ps_forS owns0 rfl (w_range1 rfl g.range (pd_var 1)) (pg_name (i := 5) sc.nd rfl (Or.inl rfl)) ((go_name 5)).h (pss_oneS (ps_exprS (pd_append 3 (pv 3) (pd_pop 4 (pv 4) (pd_callG 0 c__law_ladle (hr.mono (by decide)) rfl (pv 0) (pl_cons (pd_lenv 4 (pv 4) rfl g.len) pl_nil)))))))
    (pss_oneS (ps_retS (pd_frz (pr_lst (pl_cons (pd_var 2) (pl_cons (pd_var 3) pl_nil))))))))))
theorem sc__law_some : FnScope ["_law_keg_here", "_law_things", "_law_most", "_law_left", "_law_found", "_law_k"] ["_law_keg_here", "_law_things", "_law_most"] (defScope (top 93)) := ⟨rfl, rfl, rfl, by decide +kernel, rfl, by decide +kernel, by decide +kernel⟩
theorem ok__law_some {P : Program} {w : World} {K : PySem.W.Frag} {mg : Str → Option Value} {base : Heap} {C f : Addr} {fd : FuncData} (g : Bt mg) (wb : Wb K mg C) (c__law_ladle : FnD P w K mg base "_law_ladle" 1 (spG K C F__law_ladle)) (F : FnT K "_law_some" "_law_some" (top 93) f fd) :
    FnOk P w K mg base CX0 2 f fd ["_law_keg_here", "_law_things", "_law_most"] (spG K C F__law_some) := by
  have sc := sc__law_some
  refine fn_G F sc rfl rfl fun κ cdv A outer s H E hr => ?_
  exact (pss_consS (ps_parS rfl sc.nd (i := 3) (j := 4) rfl rfl (by decide) rfl rfl (pr_listv rfl 1 (pv 1) rfl g.list) (pr_lst pl_nil) rfl)
    (pss_consS (ps_forS owns0 rfl (w_range1 rfl g.range (pd_min rfl rfl g.min (pd_lenv 3 (pv 3) rfl g.len) (pd_add pd_int (pd_callG 0 c__law_ladle (hr.mono (by decide)) rfl (pv 0) (pl_cons (pd_var 2) pl_nil))))) (pg_name (i := 5) sc.nd rfl (Or.inl rfl)) ((go_name 5)).h (pss_oneS (ps_exprS (pd_append 4 (pv 4) (pd_pop 3 (pv 3) (pd_callG 0 c__law_ladle (hr.mono (by decide)) rfl (pv 0) (pl_cons (pd_lenv 3 (pv 3) rfl g.len) pl_nil)))))))
    (pss_oneS (ps_retS (pd_callTy (k_tuple) rfl g.tuple (by decide +kernel) (pd_frz (pr_sorted rfl g.sorted (pd_var 4))))))))
theorem sc__law_coins : FnScope ["_law_keg_here", "_law_most", "_law_cap", "_law_inner", "_law_ends_here", "_law_every", "_law_mixed", "_law_found", "_law_done", "_law_name_here", "_law_bottom", "_law_arrows_here", "_law_each"] ["_law_keg_here", "_law_most", "_law_cap"] (defScope (top 94)) := ⟨rfl, rfl, rfl, by decide +kernel, rfl, by decide +kernel, by decide +kernel⟩
theorem ok__law_coins {P : Program} {w : World} {K : PySem.W.Frag} {mg : Str → Option Value} {base : Heap} {C f : Addr} {fd : FuncData} (g : Bt mg) (wb : Wb K mg C) (c__law_ladle : FnD P w K mg base "_law_ladle" 1 (spG K C F__law_ladle)) (c__law_low : FnD P w K mg base "_law_low" 1 (spP K C F__law_low)) (c__law_names : FnD P w K mg base "_law_names" 2 (spG K C F__law_names)) (c__law_one : FnD P w K mg base "_law_one" 2 (spG K C F__law_one)) (c__law_some : FnD P w K mg base "_law_some" 2 (spG K C F__law_some)) (F : FnT K "_law_coins" "_law_coins" (top 94) f fd) :
    FnOk P w K mg base CX0 3 f fd ["_law_keg_here", "_law_most", "_law_cap"] (spG K C F__law_coins) := by
  have sc := sc__law_coins
  refine fn_G F sc rfl rfl fun κ cdv A outer s H E hr => ?_
  exact (pss_consS (ps_parS rfl sc.nd (i := 3) (j := 4) rfl rfl (by decide) rfl rfl (pr_d (pd_add pd_int (pd_callG 0 c__law_ladle (hr.mono (by decide)) rfl (pv 0) (pl_cons (pd_var 1) pl_nil)))) (pr_d (pd_add pd_int (pd_callG 0 c__law_ladle (hr.mono (by decide)) rfl (pv 0) (pl_cons pd_int pl_nil)))) rfl)
    (pss_consS (ps_asgS (pd_callG 0 c__law_names (hr.mono (by decide)) rfl (pv 0) (pl_cons (pd_add (pd_var 3) (pd_var 4)) pl_nil)) (pg_unl rfl (pgs_cons (pg_name (i := 5) sc.nd rfl (Or.inl rfl)) (pgs_cons (pg_name (i := 6) sc.nd rfl (Or.inl rfl)) pgs_nil))) (go_lstH (gs_consH (go_name 5).h (gs_consH (go_name 6).h gs_nilH))))
    (pss_consS (ps_parT rfl sc.nd (i := 7) (j := 8) rfl rfl (by decide) (Or.inr rfl) (Or.inr rfl) pr_dnew (pr_sl (pd_var 6) po_noneD (po_someD (pd_var 4))))
    (pss_consS (ps_forS owns0 rfl (w_lst (pd_frz (pr_sl (pd_var 6) po_noneD (po_someD (pd_var 4))))) (pg_name (i := 9) sc.nd rfl (Or.inl rfl)) ((go_name 9)).h (pss_consS (ps_asgS (pd_add pd_int (pd_callG 0 c__law_ladle (hr.mono (by decide)) rfl (pv 0) (pl_cons pd_int pl_nil))) (pg_name (i := 10) sc.nd rfl (Or.inl rfl)) (go_name 10).h)
    (pss_oneS (ps_asgS (pd_tup (pl_cons pd_str (pl_cons (pd_call c__law_low (hr.mono (by decide)) rfl (pl_cons (pd_callG 0 c__law_ladle (hr.mono (by decide)) rfl (pv 0) (pl_cons (pd_add (pd_var 10) pd_int) pl_nil)) (pl_cons (pd_var 10) pl_nil))) pl_nil))) (pg_sub (pv 7) (pd_var 9) (set_dict (u1 hr))) (go_dx 7)))))
    (pss_consS (ps_forS owns0 rfl (w_lst (pd_frz (pr_sl (pd_var 6) (po_someD (pd_var 4)) po_noneD))) (pg_name (i := 9) sc.nd rfl (Or.inl rfl)) ((go_name 9)).h (pss_consS (ps_asgS (pd_callG 0 c__law_some (hr.mono (by decide)) rfl (pv 0) (pl_cons (pd_var 5) (pl_cons (pd_var 2) pl_nil))) (pg_name (i := 11) sc.nd rfl (Or.inl rfl)) (go_name 11).h)
    (pss_consS (ps_ifS (pt_cmpD (c_eq (u64 hr)) (pd_frz (pr_comp (own := [("_law_each", 12)]) rfl sc.nd (w_tup (pd_var 11)) (blkOk_by (own := [("_law_each", 12)]) (by rfl)) (go_name 12) (by decide) (fun _ _ _ _ _ => (pg_name (i := 12) sc.nd rfl (Or.inl rfl))) (fun _ _ _ _ _ => pts_oneD (pt_inv (pd_var 12) 8 (pv 8))) (fun _ _ _ _ _ => (pd_var 12)))) (pd_frz (pr_lst pl_nil)) rfl) (pss_oneS (ps_asgS (pd_callTy (k_tuple) rfl g.tuple (by decide +kernel) (pd_frz (pr_sorted rfl g.sorted (pd_catA (pd_slT (pd_var 11) (po_someD pd_int) po_noneD) (pd_tup (pl_cons (pd_callG 0 c__law_one (hr.mono (by decide)) rfl (pv 0) (pl_cons (pd_var 8) pl_nil)) pl_nil)))))) (pg_name (i := 11) sc.nd rfl (Or.inl rfl)) (go_name 11).h)) pss_nilS)
    (pss_consS (ps_asgS (pd_tup (pl_cons pd_str (pl_cons (pd_var 11) pl_nil))) (pg_sub (pv 7) (pd_var 9) (set_dict (u1 hr))) (go_dx 7))
    (pss_oneS (ps_setS 8 sc.nd rfl (Or.inr rfl) (pr_cat (pd_var 8) (pd_frz (pr_lst (pl_cons (pd_var 9) pl_nil))))))))))
    (pss_oneS (ps_retS (pd_callTy (k_tuple) rfl g.tuple (by decide +kernel) (pd_frz (pr_comp (own := [("_law_name_here", 9)]) rfl sc.nd (w_lst (pd_var 5)) (blkOk_by (own := [("_law_name_here", 9)]) (by rfl)) (go_name 9) (by decide) (fun _ _ _ _ _ => (pg_name (i := 9) sc.nd rfl (Or.inl rfl))) (fun _ _ _ _ _ => pts_nilD) (fun _ _ _ _ _ => (pd_catA (pd_tup (pl_cons (pd_var 9) pl_nil)) (pd_dixv (u1 hr) 7 (pv 7) (pd_var 9))))))))))))))
theorem sc__law_shares : FnScope ["_law_keg_here", "_law_some_here", "_law_found", "_law_turn", "_law_bottom", "_law_each", "_law_near", "_law_one_here"] ["_law_keg_here", "_law_some_here"] (defScope (top 95)) := ⟨rfl, rfl, rfl, by decide +kernel, rfl, by decide +kernel, by decide +kernel⟩
theorem ok__law_shares {P : Program} {w : World} {K : PySem.W.Frag} {mg : Str → Option Value} {base : Heap} {C f : Addr} {fd : FuncData} (g : Bt mg) (wb : Wb K mg C) (c__law_ladle : FnD P w K mg base "_law_ladle" 1 (spG K C F__law_ladle)) (c__law_low : FnD P w K mg base "_law_low" 1 (spP K C F__law_low)) (F : FnT K "_law_shares" "_law_shares" (top 95) f fd) :
    FnOk P w K mg base CX0 2 f fd ["_law_keg_here", "_law_some_here"] (spG K C F__law_shares) := by
  have sc := sc__law_shares
  refine fn_G F sc rfl rfl fun κ cdv A outer s H E hr => ?_
  exact (pss_consS (ps_setS 2 sc.nd rfl (Or.inl rfl) (pr_lst (pl_cons (pd_tup (pl_cons pd_int (pl_cons pd_int pl_nil))) (pl_cons (pd_tup (pl_cons pd_int (pl_cons pd_int pl_nil))) (pl_cons (pd_tup (pl_cons pd_int (pl_cons pd_int pl_nil))) pl_nil)))))
    (pss_consS (ps_forS owns0 rfl (w_range1 rfl g.range pd_int) (pg_name (i := 3) sc.nd rfl (Or.inl rfl)) ((go_name 3)).h (pss_consS (ps_asgS (pd_add pd_int (pd_callG 0 c__law_ladle (hr.mono (by decide)) rfl (pv 0) (pl_cons pd_int pl_nil))) (pg_name (i := 4) sc.nd rfl (Or.inl rfl)) (go_name 4).h)
    (pss_oneS (ps_exprS (pd_append 2 (pv 2) (pd_call c__law_low (hr.mono (by decide)) rfl (pl_cons (pd_callG 0 c__law_ladle (hr.mono (by decide)) rfl (pv 0) (pl_cons (pd_add (pd_var 4) pd_int) pl_nil)) (pl_cons (pd_var 4) pl_nil))))))))
    (pss_consS (ps_forS owns0 rfl (w_lst (pd_var 1)) (pg_name (i := 5) sc.nd rfl (Or.inl rfl)) ((go_name 5)).h (pss_consS (ps_setS 6 sc.nd rfl (Or.inl rfl) (pr_lst (pl_cons (pd_var 5) (pl_cons (pd_call c__law_low (hr.mono (by decide)) rfl (pl_cons (pd_add (pd_ixv 5 (pv 5) pd_int) pd_int) (pl_cons (pd_add (pd_ixv 5 (pv 5) pd_int) pd_int) pl_nil))) (pl_cons (pd_call c__law_low (hr.mono (by decide)) rfl (pl_cons (pd_ixv 5 (pv 5) pd_int) (pl_cons (pd_add (pd_ixv 5 (pv 5) pd_int) pd_int) pl_nil))) pl_nil)))))
    (pss_oneS (ps_setS 2 sc.nd rfl (Or.inl rfl) (pr_cat (pd_var 2) (pd_frz (pr_comp (own := [("_law_one_here", 7)]) rfl sc.nd (w_lst (pd_var 6)) (blkOk_by (own := [("_law_one_here", 7)]) (by rfl)) (go_name 7) (by decide) (fun _ _ _ _ _ => (pg_name (i := 7) sc.nd rfl (Or.inl rfl))) (fun _ _ _ _ _ => pts_oneD (pt_cmpD c_le (pd_ixv 7 (pv 7) pd_int) (pd_pow pd_int pd_int) rfl)) (fun _ _ _ _ _ => (pd_var 7)))))))))
    (pss_oneS (ps_retS (pd_var 2))))))
theorem sc__law_due : FnScope ["_law_found", "_law_around", "_law_name_here", "_law_part", "_law_who", "_law_goal", "_law_low_here", "_law_high", "_law_pair", "_law_is_winning"] ["_law_found", "_law_around", "_law_name_here", "_law_part", "_law_who", "_law_goal"] (defScope (top 96)) := ⟨rfl, rfl, rfl, by decide +kernel, rfl, by decide +kernel, by decide +kernel⟩
theorem ok__law_due {P : Program} {w : World} {K : PySem.W.Frag} {mg : Str → Option Value} {base : Heap} {C f : Addr} {fd : FuncData} (g : Bt mg) (wb : Wb K mg C) (c__law_ends_of : FnD P w K mg base "_law_ends_of" 2 (spP K C F__law_ends_of)) (c__law_gap : FnD P w K mg base "_law_gap" 2 (spP K C F__law_gap)) (c__law_under : FnD P w K mg base "_law_under" 1 (spP K C F__law_under)) (F : FnT K "_law_due" "_law_due" (top 96) f fd) :
    FnOk P w K mg base CX0 3 f fd ["_law_found", "_law_around", "_law_name_here", "_law_part", "_law_who", "_law_goal"] (spP K C F__law_due) := by
  have sc := sc__law_due
  refine fn_P F sc rfl rfl fun cdv A outer s H E hr => ?_
  exact (pss_consS (ps_asgS (pd_call c__law_ends_of (hr.mono (by decide)) rfl (pl_cons (pd_var 1) pl_nil)) (pg_unl rfl (pgs_cons (pg_name (i := 6) sc.nd rfl (Or.inl rfl)) (pgs_cons (pg_name (i := 7) sc.nd rfl (Or.inl rfl)) pgs_nil))) (go_lstH (gs_consH (go_name 6).h (gs_consH (go_name 7).h gs_nilH))))
    (pss_consS (ps_ifS (pt_cmpD (c_eq (u64 hr)) (pd_var 4) pd_str rfl) (pss_consS (ps_asgS (pd_tup (pl_cons (pd_call c__law_gap (hr.mono (by decide)) rfl (pl_cons (pd_var 7) (pl_cons (pd_var 3) pl_nil))) (pl_cons (pd_call c__law_gap (hr.mono (by decide)) rfl (pl_cons (pd_var 3) (pl_cons (pd_dixv (u1 hr) 0 (pv 0) (pd_var 5)) pl_nil))) pl_nil))) (pg_name (i := 8) sc.nd rfl (Or.inl rfl)) (go_name 8).h)
    (pss_oneS (ps_asgS (pd_call c__law_under (hr.mono (by decide)) rfl (pl_cons (pd_dixv (u1 hr) 0 (pv 0) (pd_var 2)) (pl_cons (pd_var 3) pl_nil))) (pg_name (i := 9) sc.nd rfl (Or.inl rfl)) (go_name 9).h))) (pss_consS (ps_asgS (pd_tup (pl_cons (pd_call c__law_gap (hr.mono (by decide)) rfl (pl_cons (pd_var 3) (pl_cons (pd_var 6) pl_nil))) (pl_cons (pd_call c__law_gap (hr.mono (by decide)) rfl (pl_cons (pd_dixv (u1 hr) 0 (pv 0) (pd_var 5)) (pl_cons (pd_var 3) pl_nil))) pl_nil))) (pg_name (i := 8) sc.nd rfl (Or.inl rfl)) (go_name 8).h)
    (pss_oneS (ps_asgS (pd_call c__law_under (hr.mono (by decide)) rfl (pl_cons (pd_var 3) (pl_cons (pd_dixv (u1 hr) 0 (pv 0) (pd_var 2)) pl_nil))) (pg_name (i := 9) sc.nd rfl (Or.inl rfl)) (go_name 9).h))))
    (pss_oneS (ps_retS (pd_ifE (PWd.pt (pw_andD (pt_valD (pd_var 9)) (pw_and1D (pt_valD (pd_call c__law_under (hr.mono (by decide)) rfl (pl_cons (pd_ixv 8 (pv 8) pd_int) (pl_cons (pd_ixv 8 (pv 8) pd_int) pl_nil))))))) (pd_var 8) pd_non)))))
theorem sc__law_right : FnScope ["_law_keg_here", "_law_rows", "_law_mine", "_law_found", "_law_row", "_law_each", "_law_name_here", "_law_kind_here", "_law_what_here", "_law_around", "_law_some_here", "_law_low_here", "_law_high", "_law_part", "_law_who", "_law_ends_here", "_law_goal", "_law_due_here", "_law_is_winning"] ["_law_keg_here"] (defScope (top 97)) := ⟨rfl, rfl, rfl, by decide +kernel, rfl, by decide +kernel, by decide +kernel⟩
theorem ok__law_right {P : Program} {w : World} {K : PySem.W.Frag} {mg : Str → Option Value} {base : Heap} {C f : Addr} {fd : FuncData} (g : Bt mg) (wb : Wb K mg C) {A : Around} (gd : A.guards = some []) (room : Room 11 A) (c__law_coins : FnD P w K mg base "_law_coins" 3 (spG K C F__law_coins)) (c__law_due : FnD P w K mg base "_law_due" 3 (spP K C F__law_due)) (c__law_ends_of : FnD P w K mg base "_law_ends_of" 2 (spP K C F__law_ends_of)) (c__law_one : FnD P w K mg base "_law_one" 2 (spG K C F__law_one)) (c__law_shares : FnD P w K mg base "_law_shares" 2 (spG K C F__law_shares)) (c__law_under : FnD P w K mg base "_law_under" 1 (spP K C F__law_under)) (c_needs : FnD P w K mg base "needs" 10 (spP K C F_needs)) (c_safe_range : FnD P w K mg base "safe_range" 10 (spP K C F_safe_range)) {kfa : Addr} {kfd : FuncData} (kf_safe_range : FnOk P w K mg base CX0 10 kfa kfd ["web", "place", "share", "side", "to"] (spP K C F_safe_range)) (km_safe_range : mg "safe_range" = some (.ref kfa)) (kk_safe_range : PySem.W.keepIn K (.ref kfa) = true) (kb_safe_range : KwR K kfd ["web", "place", "share", "side", "to"] ["to", "side", "share", "place", "web"]) (w_init : MakD P w K mg base C 5 (spG K C F_W_init)) (F : FnT K "_law_right" "_law_right" (top 97) f fd) :
    FnA P w K mg base A f fd ["_law_keg_here"] (spG K C F__law_right) := by
  have sc := sc__law_right
  refine fn_GA F sc rfl rfl room fun κ cdv outer s H E hr => ?_
  exact (pss_consS (ps_asgS (pd_callG 0 c__law_coins (hr.mono (by decide)) rfl (pv 0) (pl_cons (pd_callG 0 c__law_one (hr.mono (by decide)) rfl (pv 0) (pl_cons (pd_frz (pr_lst (pl_cons pd_int (pl_cons pd_int (pl_cons pd_int (pl_cons pd_int pl_nil)))))) pl_nil)) (pl_cons pd_int pl_nil))) (pg_name (i := 1) sc.nd rfl (Or.inl rfl)) (go_name 1).h)
    (pss_consS (ps_parT rfl sc.nd (i := 2) (j := 3) rfl rfl (by decide) (Or.inl rfl) (Or.inr rfl) (pr_d (pd_makeD w_init wb.mg (hr.mono (by decide)) rfl (pl_cons (pd_var 1) pl_nil))) pr_dnew)
    (pss_consS (ps_forS owns0 rfl (w_zip rfl g.zip (pd_var 1) (pd_call c_needs (hr.mono (by decide)) rfl (pl_cons (pd_var 2) pl_nil))) (pg_tup rfl (pgs_cons (pg_name (i := 4) sc.nd rfl (Or.inl rfl)) (pgs_cons (pg_name (i := 5) sc.nd rfl (Or.inl rfl)) pgs_nil))) ((go_tup (gs_cons (go_name 4) (gs_cons (go_name 5) gs_nil)))).h (pss_oneS (ps_asgS (pd_var 5) (pg_sub (pv 3) (pd_ixv 4 (pv 4) pd_int) (set_dict (u1 hr))) (go_dx 3))))
    (pss_consS (ps_asgS (pd_callG 0 c__law_one (hr.mono (by decide)) rfl (pv 0) (pl_cons (pd_frz (pr_comp (own := [("_law_row", 4)]) rfl sc.nd (w_tup (pd_var 1)) (blkOk_by (own := [("_law_row", 4)]) (by rfl)) (go_name 4) (by decide) (fun _ _ _ _ _ => (pg_name (i := 4) sc.nd rfl (Or.inl rfl))) (fun _ _ _ _ _ => pts_oneD (pt_cmpD (c_eq (u64 hr)) (pd_ixv 4 (pv 4) pd_int) pd_str rfl)) (fun _ _ _ _ _ => (pd_var 4)))) pl_nil)) (pg_tup rfl (pgs_cons (pg_name (i := 6) sc.nd rfl (Or.inl rfl)) (pgs_cons (pg_name (i := 7) sc.nd rfl (Or.inl rfl)) (pgs_cons (pg_name (i := 8) sc.nd rfl (Or.inl rfl)) pgs_nil)))) (go_tupH (gs_consH (go_name 6).h (gs_consH (go_name 7).h (gs_consH (go_name 8).h gs_nilH)))))
    (pss_consS (ps_parS rfl sc.nd (i := 9) (j := 10) rfl rfl (by decide) rfl rfl (pr_comp (own := [("_law_each", 5)]) rfl sc.nd (w_tup (pd_var 8)) (blkOk_by (own := [("_law_each", 5)]) (by rfl)) (go_name 5) (by decide) (fun _ _ _ _ _ => (pg_name (i := 5) sc.nd rfl (Or.inl rfl))) (fun _ _ _ _ _ => pts_nilD) (fun _ _ _ _ _ => (pd_dixv (u1 hr) 3 (pv 3) (pd_var 5)))) (pr_d (pd_callG 0 c__law_shares (hr.mono (by decide)) rfl (pv 0) (pl_cons (pd_frz (pr_lst (pl_cons (pd_dixv (u1 hr) 3 (pv 3) (pd_var 6)) pl_nil))) pl_nil))) rfl)
    (pss_consS (ps_asgS (pd_call c__law_ends_of (hr.mono (by decide)) rfl (pl_cons (pd_var 9) pl_nil)) (pg_unl rfl (pgs_cons (pg_name (i := 11) sc.nd rfl (Or.inl rfl)) (pgs_cons (pg_name (i := 12) sc.nd rfl (Or.inl rfl)) pgs_nil))) (go_lstH (gs_consH (go_name 11).h (gs_consH (go_name 12).h gs_nilH))))
    (pss_consS (ps_forS owns0 rfl (w_lst (pd_frz (pr_lst (pl_cons (pd_callG 0 c__law_one (hr.mono (by decide)) rfl (pv 0) (pl_cons (pd_var 10) pl_nil)) (pl_cons (pd_ixv 10 (pv 10) pd_neg) pl_nil))))) (pg_name (i := 13) sc.nd rfl (Or.inl rfl)) ((go_name 13)).h (pss_oneS (ps_forS owns0 rfl (w_lst (pd_frz (pr_lst (pl_cons pd_str (pl_cons pd_str pl_nil))))) (pg_name (i := 14) sc.nd rfl (Or.inl rfl)) ((go_name 14)).h (pss_consS (ps_asgS (pd_ifE (pt_cmpD (c_eq (u64 hr)) (pd_var 14) pd_str rfl) (pd_frz (pr_lst (pl_cons (pd_dixv (u1 hr) 3 (pv 3) (pd_var 6)) (pl_cons (pd_var 13) pl_nil)))) (pd_frz (pr_lst (pl_cons (pd_var 13) (pl_cons (pd_dixv (u1 hr) 3 (pv 3) (pd_var 6)) pl_nil))))) (pg_name (i := 15) sc.nd rfl (Or.inl rfl)) (go_name 15).h)
    (pss_oneS (ps_forS owns0 rfl (w_tup (pd_var 8)) (pg_name (i := 16) sc.nd rfl (Or.inl rfl)) ((go_name 16)).h (pss_consS (ps_asgS (pd_call c__law_due (hr.mono (by decide)) rfl (pl_cons (pd_var 3) (pl_cons (pd_var 9) (pl_cons (pd_var 6) (pl_cons (pd_var 13) (pl_cons (pd_var 14) (pl_cons (pd_var 16) pl_nil))))))) (pg_name (i := 17) sc.nd rfl (Or.inl rfl)) (go_name 17).h)
    (pss_consS (ps_ifS (pt_cmpD (c_ne (u64 hr)) (pd_repr gd (u12 hr) rfl g.repr (pd_call c_safe_range (hr.mono (by decide)) rfl (pl_cons (pd_var 2) (pl_cons (pd_var 6) (pl_cons (pd_var 13) (pl_cons (pd_var 14) (pl_cons (pd_var 16) pl_nil))))))) (pd_repr gd (u12 hr) rfl g.repr (pd_var 17)) rfl) (pss_oneS (ps_retS pd_bl)) pss_nilS)
    (pss_consS (ps_asgS (pd_call c__law_under (hr.mono (by decide)) rfl (pl_cons (pd_ixv 15 (pv 15) pd_int) (pl_cons (pd_ixv 15 (pv 15) pd_int) pl_nil))) (pg_name (i := 18) sc.nd rfl (Or.inl rfl)) (go_name 18).h)
    (pss_oneS (ps_ifS (PWd.pt (pw_andD (pt_cmpD (c_eq (u64 hr)) (pd_dixv (u1 hr) 3 (pv 3) (pd_var 16)) (pd_ifE (pt_cmpD (c_eq (u64 hr)) (pd_var 14) pd_str rfl) (pd_var 11) (pd_var 12)) rfl) (pw_and1D (pt_cmpD (c_ne (u64 hr)) (pd_notN (pd_var 17)) (pd_var 18) rfl)))) (pss_oneS (ps_retS pd_bl)) pss_nilS)))))))))))
    (pss_consS (ps_par3S rfl sc.nd (i := 16) (j := 13) (l := 14) rfl rfl rfl (by decide) (by decide) (by decide) rfl rfl rfl (pl_cons (pd_callG 0 c__law_one (hr.mono (by decide)) rfl (pv 0) (pl_cons (pd_frz (pr_listv rfl 8 (pv 8) rfl g.list)) pl_nil)) (pl_cons (pd_callG 0 c__law_one (hr.mono (by decide)) rfl (pv 0) (pl_cons (pd_var 10) pl_nil)) (pl_cons (pd_callG 0 c__law_one (hr.mono (by decide)) rfl (pv 0) (pl_cons (pd_frz (pr_lst (pl_cons pd_str (pl_cons pd_str pl_nil)))) pl_nil)) pl_nil))) rfl)
    (pss_consS (ps_asgS (pd_call c__law_due (hr.mono (by decide)) rfl (pl_cons (pd_var 3) (pl_cons (pd_var 9) (pl_cons (pd_var 6) (pl_cons (pd_var 13) (pl_cons (pd_var 14) (pl_cons (pd_var 16) pl_nil))))))) (pg_name (i := 17) sc.nd rfl (Or.inl rfl)) (go_name 17).h)
    (pss_oneS (ps_retS (pd_cmp (c_eq (u64 hr)) (pd_repr gd (u12 hr) rfl g.repr (pd_callR kf_safe_range km_safe_range kk_safe_range kb_safe_range (hr.mono (by decide)) rfl (pk_consD (pd_var 16) (pk_consD (pd_var 14) (pk_consD (pd_var 13) (pk_consD (pd_var 6) (pk_consD (pd_var 2) pk_nilD))))))) (pd_repr gd (u12 hr) rfl g.repr (pd_var 17)) rfl))))))))))))
theorem sc_law : FnScope ["_law_script", "_law_turn"] ["_law_script"] (defScope (top 98)) := ⟨rfl, rfl, rfl, by decide +kernel, rfl, by decide +kernel, by decide +kernel⟩
theorem ok_law {P : Program} {w : World} {K : PySem.W.Frag} {mg : Str → Option Value} {base : Heap} {C f : Addr} {fd : FuncData} (g : Bt mg) (wb : Wb K mg C) {A : Around} (gd : A.guards = some []) (room : Room 12 A) {afa : Addr} {afd : FuncData} (a_law_right : ∀ A : Around, A.guards = some [] → Room 11 A → FnA P w K mg base A afa afd ["_law_keg_here"] (spG K C F__law_right)) (am_law_right : mg "_law_right" = some (.ref afa)) (ak_law_right : PySem.W.keepIn K (.ref afa) = true) (ab_law_right : Binds K afd ["_law_keg_here"] []) (c__law_keg : FnD P w K mg base "_law_keg" 1 (spF K C F__law_keg)) (F : FnT K "law" "law" (top 98) f fd) :
    FnA P w K mg base A f fd ["_law_script"] (spP K C F_law) := by
  have sc := sc_law
  refine fn_PA F sc rfl rfl room fun cdv outer s H E hr => ?_
  exact (pss_oneS (ps_retS (pd_callB (k_all rfl) rfl g.all (by decide +kernel) (pd_frz (pr_comp (own := [("_law_turn", 1)]) rfl sc.nd (w_range1 rfl g.range (pd_max rfl rfl g.max pd_int (pd_min rfl rfl g.min (pd_lenv 0 (pv 0) rfl g.len) pd_int))) (blkOk_by (own := [("_law_turn", 1)]) (by rfl)) (go_name 1) (by decide) (fun _ _ _ _ _ => (pg_name (i := 1) sc.nd rfl (Or.inl rfl))) (fun _ _ _ _ _ => pts_nilD) (fun _ _ _ _ _ => (pd_callKA (a_law_right _ gd (hr.mono (by decide))) am_law_right ak_law_right ab_law_right rfl (pr_callF c__law_keg (hr.mono (by decide)) rfl (pl_cons (pd_var 0) (pl_cons (pd_var 1) pl_nil))))))))))
end Dl
end
end

/-! ## Ev -/
section
set_option Elab.async false
set_option linter.all false
set_option maxRecDepth 100000
/-! Evaluating the denotations: one lemma a construct. -/
namespace Dl
open PySem L2
section
variable {α β : Type} {s : S} {i j k n : Nat} {a b c : M D} {m m1 m2 : M R} {t t1 t2 : M Bool} {es : List (M D)} {p p1 p2 : P}
@[simp] theorem mRet_ap (a : α) : mRet a s = some (a, s) := rfl
@[simp] theorem mFail_ap : (mFail : M α) s = none := rfl
theorem mBind_ap (m : M α) (k : α → M β) : mBind m k s = match m s with
  | some (a, s') => k a s'
  | none => none := rfl
@[simp] theorem mLift_some' (a : α) : mLift (some a) s = some (a, s) := rfl
@[simp] theorem mLift_none' : mLift (none : Option α) s = none := rfl
/-- the i-th slot of a row of slots -/
def gx : List (Option A) → Nat → Option A
  | [], _ => none
  | a :: _, 0 => a
  | _ :: r, n + 1 => gx r n
def sx : List (Option A) → Nat → Option A → List (Option A)
  | [], _, _ => []
  | _ :: r, 0, x => x :: r
  | a :: r, n + 1, x => a :: sx r n x
@[simp] theorem gx_0 (a : Option A) (r) : gx (a :: r) 0 = a := rfl
@[simp] theorem gx_1 (a : Option A) (r n) : gx (a :: r) (n + 1) = gx r n := rfl
@[simp] theorem sx_0 (a x : Option A) (r) : sx (a :: r) 0 x = x :: r := rfl
@[simp] theorem sx_1 (a x : Option A) (r n) : sx (a :: r) (n + 1) x = a :: sx r n x := rfl
theorem gx_eq : ∀ (e : List (Option A)) (i : Nat), (match e[i]? with
  | some (some a) => some a
  | _ => none) = gx e i
  | [], i => by simp [gx]
  | a :: r, 0 => by cases a <;> simp
  | a :: r, n + 1 => by simpa using gx_eq r n
theorem sx_eq : ∀ (e : List (Option A)) (i : Nat) (x : Option A), e.set i x = sx e i x
  | [], i, x => by simp [sx]
  | a :: r, 0, x => rfl
  | a :: r, n + 1, x => by simp [sx_eq r n x]
@[simp] theorem getA_mk (e : List (Option A)) (g : G) (i : Nat) : getA ⟨e, g⟩ i = gx e i := gx_eq e i
@[simp] theorem setA_mk (e : List (Option A)) (g : G) (i : Nat) (a : A) : setA ⟨e, g⟩ i a = ⟨sx e i (some a), g⟩ := by simp [setA, sx_eq]
@[simp] theorem clrA_mk (e : List (Option A)) (g : G) (i : Nat) : clrA ⟨e, g⟩ i = ⟨sx e i none, g⟩ := by simp [clrA, sx_eq]
@[simp] theorem wipeS_nil : wipeS s [] = s := rfl
@[simp] theorem wipeS_cons (i : Nat) (r) : wipeS s (i :: r) = clrA (wipeS s r) i := rfl
@[simp] theorem backS_nil (s0 : S) : backS s s0 [] = s := rfl
theorem bk_eq : ∀ (e : List (Option A)) (i : Nat), (match e[i]? with
  | some a => a
  | none => none) = gx e i
  | [], i => by simp [gx]
  | a :: r, 0 => by simp
  | a :: r, n + 1 => by simpa using bk_eq r n
@[simp] theorem backS_cons (s0 : S) (i : Nat) (r) : backS s s0 (i :: r) = ⟨sx (backS s s0 r).e i (gx s0.e i), (backS s s0 r).g⟩ := by
  show S.mk _ _ = _
  rw [sx_eq]
  congr 2
  exact bk_eq _ _
@[simp] theorem freeOf_nil : freeOf s [] = true := rfl
/-- nothing of its own -/
def nj : Option A → Bool
  | some a => !isOwn a
  | none => true
@[simp] theorem nj_d (x : D) : nj (some (.d x)) = true := rfl
@[simp] theorem nj_n : nj none = true := rfl
@[simp] theorem nj_b : nj (some .brw) = true := rfl
@[simp] theorem freeOf_cons (i : Nat) (r) : freeOf s (i :: r) = (nj (getA s i) && freeOf s r) := by
  unfold freeOf nj
  rw [List.all_cons]
  all_goals rfl
@[simp] theorem isOwn_d (x : D) : isOwn (.d x) = false := rfl
@[simp] theorem isOwn_o (x) : isOwn (.own x) = true := rfl
@[simp] theorem isOwn_k (x) : isOwn (.dct x) = true := rfl
@[simp] theorem xC_ap (d : D) : xC d s = some (d, s) := rfl
@[simp] theorem xVar_ap : xVar i s = match getA s i with
  | some (.d x) => some (x, s)
  | some (.own xs) => some (.lst xs, setA s i (.d (.lst xs)))
  | some (.dct kvs) => some (.dic kvs, setA s i (.d (.dic kvs)))
  | _ => none := rfl
@[simp] theorem xUn_ap (f) : xUn f a s = match a s with
  | some (x, s1) => mLift (f x) s1
  | none => none := by
  show mBind _ _ _ = _
  rw [mBind_ap]
  cases a s <;> rfl
@[simp] theorem xBin_ap (f) : xBin f a b s = match a s with
  | some (x, s1) => (match b s1 with
    | some (y, s2) => mLift (f x y) s2
    | none => none)
  | none => none := by
  show mBind _ _ _ = _
  rw [mBind_ap]
  cases a s with
  | none => rfl
  | some p =>
    obtain ⟨x, s1⟩ := p
    dsimp only
    rw [mBind_ap]
    cases b s1 <;> rfl
@[simp] theorem xFrz_ap : xFrz m s = match m s with
  | some (.d x, s1) => some (x, s1)
  | some (.fr xs, s1) => some (.lst xs, s1)
  | some (.fd kvs, s1) => some (.dic kvs, s1)
  | none => none := by
  show mBind _ _ _ = _
  rw [mBind_ap]
  cases m s with
  | none => rfl
  | some p => obtain ⟨r, s1⟩ := p; cases r <;> rfl
@[simp] theorem tVal_ap : tVal a s = match a s with
  | some (.bl b, s1) => some (b, s1)
  | _ => none := by
  show mBind _ _ _ = _
  rw [mBind_ap]
  cases a s with
  | none => rfl
  | some p => obtain ⟨r, s1⟩ := p; cases r <;> rfl
@[simp] theorem tUn_ap (f) : tUn f a s = match a s with
  | some (x, s1) => mLift (f x) s1
  | none => none := by
  show mBind _ _ _ = _
  rw [mBind_ap]
  cases a s <;> rfl
@[simp] theorem tBin_ap (f) : tBin f a b s = match a s with
  | some (x, s1) => (match b s1 with
    | some (y, s2) => mLift (f x y) s2
    | none => none)
  | none => none := by
  show mBind _ _ _ = _
  rw [mBind_ap]
  cases a s with
  | none => rfl
  | some p =>
    obtain ⟨x, s1⟩ := p
    dsimp only
    rw [mBind_ap]
    cases b s1 <;> rfl
@[simp] theorem tNot_ap : tNot t s = match t s with
  | some (x, s1) => some (!x, s1)
  | none => none := by
  show mBind _ _ _ = _
  rw [mBind_ap]
  cases t s <;> rfl
@[simp] theorem tAnd_ap : tAnd t t1 s = match t s with
  | some (true, s1) => t1 s1
  | some (false, s1) => some (false, s1)
  | none => none := by
  show mBind _ _ _ = _
  rw [mBind_ap]
  cases t s with
  | none => rfl
  | some p => obtain ⟨r, s1⟩ := p; cases r <;> rfl
@[simp] theorem tOr_ap : tOr t t1 s = match t s with
  | some (true, s1) => some (true, s1)
  | some (false, s1) => t1 s1
  | none => none := by
  show mBind _ _ _ = _
  rw [mBind_ap]
  cases t s with
  | none => rfl
  | some p => obtain ⟨r, s1⟩ := p; cases r <;> rfl
@[simp] theorem tIfB_ap : tIfB t t1 t2 s = match t s with
  | some (true, s1) => t1 s1
  | some (false, s1) => t2 s1
  | none => none := by
  show mBind _ _ _ = _
  rw [mBind_ap]
  cases t s with
  | none => rfl
  | some p => obtain ⟨r, s1⟩ := p; cases r <;> rfl
@[simp] theorem xB_ap : xB t s = match t s with
  | some (x, s1) => some (.bl x, s1)
  | none => none := by
  show mBind _ _ _ = _
  rw [mBind_ap]
  cases t s <;> rfl
@[simp] theorem xIf_ap : xIf t a b s = match t s with
  | some (true, s1) => a s1
  | some (false, s1) => b s1
  | none => none := by
  show mBind _ _ _ = _
  rw [mBind_ap]
  cases t s with
  | none => rfl
  | some p => obtain ⟨r, s1⟩ := p; cases r <;> rfl
@[simp] theorem tChain_ap (f g) : tChain f g a b c s = match a s with
  | some (x, s1) => (match b s1 with
    | some (y, s2) => (match f x y with
      | some true => (match c s2 with
        | some (z, s3) => mLift (g y z) s3
        | none => none)
      | some false => some (false, s2)
      | none => none)
    | none => none)
  | none => none := by
  show mBind _ _ _ = _
  rw [mBind_ap]
  cases a s with
  | none => rfl
  | some p =>
    obtain ⟨x, s1⟩ := p
    dsimp only
    rw [mBind_ap]
    cases b s1 with
    | none => rfl
    | some p =>
      obtain ⟨y, s2⟩ := p
      dsimp only
      rw [mBind_ap]
      cases f x y with
      | none => rfl
      | some r =>
        cases r with
        | false => rfl
        | true =>
          show mBind _ _ _ = _
          rw [mBind_ap]
          dsimp only
          cases c s2 <;> rfl
@[simp] theorem vLen_ap : vLen i s = match getA s i with
  | some (.d x) => (match oLen x with
    | some d => some (d, s)
    | none => none)
  | some (.own xs) => some (.int xs.length, s)
  | _ => none := rfl
@[simp] theorem mIf_ap (c : S → Bool) (m : M α) : mIf c m s = if c s = true then m s else none := rfl
@[simp] theorem hasA_ap : hasA i s = (getA s i).isSome := rfl
@[simp] theorem hasL_ap : hasL i s = match getA s i with
  | some (.own _) => true
  | some (.d (.lst _)) => true
  | _ => false := rfl
@[simp] theorem hasB_ap : hasB i s = match getA s i with
  | some .brw => true
  | _ => false := rfl
@[simp] theorem vIx_ap : vIx i b s = if (getA s i).isSome = true then (match b s with
  | some (k, s1) => (match getA s1 i with
    | some (.d x) => mLift (oIx x k) s1
    | some (.own xs) => mLift (oIx (.lst xs) k) s1
    | _ => none)
  | none => none) else none := by
  show (if (getA s i).isSome = true then _ else _) = _
  by_cases h : (getA s i).isSome = true
  · rw [if_pos h, if_pos h, mBind_ap]
    cases b s with
    | none => rfl
    | some p =>
      obtain ⟨k, s1⟩ := p
      dsimp only
      cases getA s1 i with
      | none => rfl
      | some q => cases q <;> first | rfl | (dsimp only; split <;> rename_i hq <;> rw [hq] <;> rfl)
  · rw [if_neg h, if_neg h]
@[simp] theorem vDix_ap : vDix i b s = if (getA s i).isSome = true then (match b s with
  | some (k, s1) => (match getA s1 i with
    | some (.d x) => mLift (oDix x k) s1
    | some (.dct kvs) => mLift (oDix (.dic kvs) k) s1
    | _ => none)
  | none => none) else none := by
  show (if (getA s i).isSome = true then _ else _) = _
  by_cases h : (getA s i).isSome = true
  · rw [if_pos h, if_pos h, mBind_ap]
    cases b s with
    | none => rfl
    | some p =>
      obtain ⟨k, s1⟩ := p
      dsimp only
      cases getA s1 i with
      | none => rfl
      | some q => cases q <;> first | rfl | (dsimp only; split <;> rename_i hq <;> rw [hq] <;> rfl)
  · rw [if_neg h, if_neg h]
@[simp] theorem vIn_ap : vIn a i s = match a s with
  | some (k, s1) => (match getA s1 i with
    | some (.d x) => mLift (oIn k x) s1
    | some (.own xs) => mLift (oIn k (.lst xs)) s1
    | _ => none)
  | none => none := by
  show mBind _ _ _ = _
  rw [mBind_ap]
  cases a s with
  | none => rfl
  | some p =>
      obtain ⟨k, s1⟩ := p
      dsimp only
      cases getA s1 i with
      | none => rfl
      | some q => cases q <;> first | rfl | (dsimp only; split <;> rename_i hq <;> rw [hq] <;> rfl)
@[simp] theorem vInD_ap : vInD a i s = match a s with
  | some (k, s1) => (match getA s1 i with
    | some (.d x) => mLift (oInD k x) s1
    | some (.dct kvs) => mLift (oInD k (.dic kvs)) s1
    | _ => none)
  | none => none := by
  show mBind _ _ _ = _
  rw [mBind_ap]
  cases a s with
  | none => rfl
  | some p =>
      obtain ⟨k, s1⟩ := p
      dsimp only
      cases getA s1 i with
      | none => rfl
      | some q => cases q <;> first | rfl | (dsimp only; split <;> rename_i hq <;> rw [hq] <;> rfl)
@[simp] theorem mAll_nil' : mAll [] s = some ([], s) := rfl
@[simp] theorem mAll_cons' : mAll (a :: es) s = match a s with
  | some (x, s1) => (match mAll es s1 with
    | some (xs, s2) => some (x :: xs, s2)
    | none => none)
  | none => none := by
  show mBind _ _ _ = _
  rw [mBind_ap]
  cases a s with
  | none => rfl
  | some p =>
    obtain ⟨x, s1⟩ := p
    dsimp only
    rw [mBind_ap]
    cases mAll es s1 <;> rfl
@[simp] theorem xTup_ap : xTup es s = match mAll es s with
  | some (xs, s1) => if xs.length ≤ 1000 then some (.tup xs, s1) else none
  | none => none := by
  show mBind _ _ _ = _
  rw [mBind_ap]
  cases mAll es s with
  | none => rfl
  | some p => dsimp only; split <;> rfl
@[simp] theorem rLst_ap : rLst es s = match mAll es s with
  | some (xs, s1) => if xs.length ≤ 1000 then some (.fr xs, s1) else none
  | none => none := by
  show mBind _ _ _ = _
  rw [mBind_ap]
  cases mAll es s with
  | none => rfl
  | some p => dsimp only; split <;> rfl
@[simp] theorem rDnew_ap : rDnew s = some (.fd [], s) := rfl
@[simp] theorem rD_ap : rD a s = match a s with
  | some (x, s1) => some (.d x, s1)
  | none => none := by
  show mBind _ _ _ = _
  rw [mBind_ap]
  cases a s <;> rfl
@[simp] theorem vList_ap : vList i s = match getA s i with
  | some (.d (.lst xs)) => some (.fr xs, s)
  | some (.d (.tup xs)) => some (.fr xs, s)
  | some (.d (.dic kvs)) => some (.fr (kvs.map fun kv => .str kv.1), s)
  | some (.own xs) => some (.fr xs, s)
  | _ => none := rfl
@[simp] theorem vDict_ap : vDict i s = match getA s i with
  | some (.d (.dic kvs)) => some (.fd kvs, s)
  | some (.dct kvs) => some (.fd kvs, s)
  | _ => none := rfl
@[simp] theorem rCat_ap : rCat a b s = match a s with
  | some (x, s1) => (match b s1 with
    | some (y, s2) => (match x, y with
      | .lst xs, .lst ys => if xs.length + ys.length ≤ 1000 then some (.fr (xs ++ ys), s2) else none
      | _, _ => none)
    | none => none)
  | none => none := by
  show mBind _ _ _ = _
  rw [mBind_ap]
  cases a s with
  | none => rfl
  | some p =>
    obtain ⟨x, s1⟩ := p
    dsimp only
    rw [mBind_ap]
    cases b s1 with
    | none => rfl
    | some p =>
      obtain ⟨y, s2⟩ := p
      cases x <;> cases y <;> first | rfl | (dsimp only; split <;> rfl)
@[simp] theorem rSorted_ap : rSorted a s = match a s with
  | some (x, s1) => (match oSort x with
    | some xs => some (.fr xs, s1)
    | none => none)
  | none => none := by
  show mBind _ _ _ = _
  rw [mBind_ap]
  cases a s with
  | none => rfl
  | some p => obtain ⟨x, s1⟩ := p; dsimp only; cases oSort x <;> rfl
@[simp] theorem rDict_ap : rDict a s = match a s with
  | some (.lst xs, s1) => (match pairsOf xs with
    | some ps => if ps.length ≤ 1000 then some (.fd (dAll [] ps), s1) else none
    | none => none)
  | _ => none := by
  show mBind _ _ _ = _
  rw [mBind_ap]
  cases a s with
  | none => rfl
  | some p =>
    obtain ⟨x, s1⟩ := p
    cases x <;> first | rfl | skip
    rename_i xs
    dsimp only
    cases pairsOf xs with
    | none => rfl
    | some ps => dsimp only; split <;> rfl
@[simp] theorem mOpt_n : mOpt none s = some (none, s) := rfl
@[simp] theorem mOpt_s : mOpt (some a) s = match a s with
  | some (.int i, s1) => some (some i, s1)
  | _ => none := by
  show mBind _ _ _ = _
  rw [mBind_ap]
  cases a s with
  | none => rfl
  | some p => obtain ⟨x, s1⟩ := p; cases x <;> rfl
@[simp] theorem rSl_ap (lo hi) : rSl a lo hi s = match a s with
  | some (x, s1) => (match mOpt lo s1 with
    | some (l, s2) => (match mOpt hi s2 with
      | some (h, s3) => (match x with
        | .lst xs => some (.fr (cutD xs l h), s3)
        | .scr ns => some (.fr ((cutD ns l h).map .int), s3)
        | _ => none)
      | none => none)
    | none => none)
  | none => none := by
  show mBind _ _ _ = _
  rw [mBind_ap]
  cases a s with
  | none => rfl
  | some p =>
    obtain ⟨x, s1⟩ := p
    dsimp only
    rw [mBind_ap]
    cases mOpt lo s1 with
    | none => rfl
    | some p =>
      obtain ⟨y, s2⟩ := p
      dsimp only
      rw [mBind_ap]
      cases mOpt hi s2 with
      | none => rfl
      | some p => obtain ⟨z, s3⟩ := p; cases x <;> rfl
@[simp] theorem xSlT_ap (lo hi) : xSlT a lo hi s = match a s with
  | some (x, s1) => (match mOpt lo s1 with
    | some (l, s2) => (match mOpt hi s2 with
      | some (h, s3) => (match x with
        | .tup xs => if (cutD xs l h).length < xs.length then some (.tup (cutD xs l h), s3) else none
        | _ => none)
      | none => none)
    | none => none)
  | none => none := by
  show mBind _ _ _ = _
  rw [mBind_ap]
  cases a s with
  | none => rfl
  | some p =>
    obtain ⟨x, s1⟩ := p
    dsimp only
    rw [mBind_ap]
    cases mOpt lo s1 with
    | none => rfl
    | some p =>
      obtain ⟨y, s2⟩ := p
      dsimp only
      rw [mBind_ap]
      cases mOpt hi s2 with
      | none => rfl
      | some p => obtain ⟨z, s3⟩ := p; cases x <;> first | rfl | (dsimp only; split <;> rfl)
@[simp] theorem xCall_ap (F) : xCall F es s = match mAll es s with
  | some (xs, s1) => mLift (F xs) s1
  | none => none := by
  show mBind _ _ _ = _
  rw [mBind_ap]
  cases mAll es s <;> rfl
@[simp] theorem rCallF_ap (F) : rCallF F es s = match mAll es s with
  | some (xs, s1) => (match F xs with
    | some ys => some (.fr ys, s1)
    | none => none)
  | none => none := by
  show mBind _ _ _ = _
  rw [mBind_ap]
  cases mAll es s with
  | none => rfl
  | some p => obtain ⟨x, s1⟩ := p; dsimp only; cases F x <;> rfl
@[simp] theorem xCallR_ap (F) : xCallR F es s = match mAll es s with
  | some (xs, s1) => mLift (F xs.reverse) s1
  | none => none := by
  show mBind _ _ _ = _
  rw [mBind_ap]
  cases mAll es s <;> rfl
@[simp] theorem xCallG_ap (F) : xCallG F i es s = if hasB i s = true then (match mAll es s with
  | some (xs, s1) => (match F s1.g xs with
    | some (d, g) => some (d, ⟨s1.e, g⟩)
    | none => none)
  | none => none) else none := by
  show (if hasB i s = true then _ else _) = _
  by_cases h : hasB i s = true
  · rw [if_pos h, if_pos h, mBind_ap]
    cases mAll es s <;> rfl
  · rw [if_neg h, if_neg h]
@[simp] theorem xCallK_ap (F) : xCallK F m s = match m s with
  | some (.fr [.int x, .int y, .int z], s1) => (match F (.keg x y z) [] with
    | some (d, _) => some (d, s1)
    | none => none)
  | _ => none := by
  show mBind _ _ _ = _
  rw [mBind_ap]
  cases m s with
  | none => rfl
  | some p =>
    obtain ⟨r, s1⟩ := p
    dsimp only
    split
    · rename_i x y z
      dsimp only
      cases F (.keg x y z) [] <;> rfl
    · rename_i hh
      split
      · rename_i x y z s2 hq
        cases hq
        exact absurd rfl (hh x y z)
      · rfl
@[simp] theorem xMeth_ap (F mm) : xMeth F mm a es s = match a s with
  | some (.web fs, s1) => if (dGet fs mm).isNone = true then (match mAll es s1 with
    | some (xs, s2) => mLift (F (.web fs :: xs)) s2
    | none => none) else none
  | _ => none := by
  show mBind _ _ _ = _
  rw [mBind_ap]
  cases a s with
  | none => rfl
  | some p =>
    obtain ⟨x, s1⟩ := p
    cases x <;> first | rfl | skip
    rename_i fs
    dsimp only
    by_cases h : (dGet fs mm).isNone = true
    · rw [if_pos h, if_pos h, mBind_ap]
      cases mAll es s1 <;> rfl
    · rw [if_neg h, if_neg h]
      rfl
@[simp] theorem xProp_ap (F) : xProp F a s = match a s with
  | some (.web fs, s1) => mLift (F [.web fs]) s1
  | _ => none := by
  show mBind _ _ _ = _
  rw [mBind_ap]
  cases a s with
  | none => rfl
  | some p =>
    obtain ⟨x, s1⟩ := p
    cases x <;> rfl
@[simp] theorem xMake_ap (F) : xMake F es s = match mAll es s with
  | some (xs, s1) => (match F (.obj []) xs with
    | some (.non, .obj fs) => some (.web fs, s1)
    | _ => none)
  | none => none := by
  show mBind _ _ _ = _
  rw [mBind_ap]
  cases mAll es s with
  | none => rfl
  | some p =>
    obtain ⟨x, s1⟩ := p
    dsimp only
    generalize F (.obj []) x = o
    cases o with
    | none => rfl
    | some q =>
      obtain ⟨d, g⟩ := q
      cases d <;> cases g <;> rfl
@[simp] theorem gNm_ap (x : D) : gNm i x s = if i < s.e.length then some (setA s i (.d x)) else none := rfl
@[simp] theorem gTp_ap (ts xs) : gTp ts (.tup xs) s = gAll ts xs s := rfl
@[simp] theorem gLs_ap (ts xs) : gLs ts (.lst xs) s = gAll ts xs s := rfl
@[simp] theorem gAll_nil : gAll [] [] s = some s := rfl
@[simp] theorem gAll_cons (t : T) (ts) (x : D) (xs) : gAll (t :: ts) (x :: xs) s = match t x s with
  | some s' => gAll ts xs s'
  | none => none := rfl
@[simp] theorem gIx_ap (x : D) : gIx i b x s = if (getA s i).isSome = true then (match b s with
  | some (.int k, s') => (match getA s' i with
    | some (.own xs) => (match ixN xs.length k with
      | some j => some (setA s' i (.own (xs.set j x)))
      | none => none)
    | _ => none)
  | _ => none) else none := by
  show (match mIf (hasA i) b s with
  | some (.int k, s') => _
  | _ => none) = _
  rw [mIf_ap, hasA_ap]
  by_cases h : (getA s i).isSome = true
  · rw [if_pos h, if_pos h]
    all_goals
      generalize b s = o
      cases o with
      | none => rfl
      | some q =>
        obtain ⟨d, g⟩ := q
        cases d <;> rfl
  · rw [if_neg h, if_neg h]
@[simp] theorem gDx_ap (x : D) : gDx i b x s = if (getA s i).isSome = true then (match b s with
  | some (.str k, s') => (match getA s' i with
    | some (.dct kvs) => if kvs.length < 1000 then some (setA s' i (.dct (dPut kvs k x))) else none
    | _ => none)
  | _ => none) else none := by
  show (match mIf (hasA i) b s with
  | some (.str k, s') => _
  | _ => none) = _
  rw [mIf_ap, hasA_ap]
  by_cases h : (getA s i).isSome = true
  · rw [if_pos h, if_pos h]
    all_goals
      generalize b s = o
      cases o with
      | none => rfl
      | some q =>
        obtain ⟨d, g⟩ := q
        cases d <;> rfl
  · rw [if_neg h, if_neg h]
@[simp] theorem gKg_ap (x : D) : gKg i k x s = match getA s i, s.g, x with
  | some .brw, .keg a b c, .int n => (match k with
    | 0 => some { s with g := .keg n b c }
    | 1 => some { s with g := .keg a n c }
    | 2 => some { s with g := .keg a b n }
    | _ => none)
  | _, _, _ => none := rfl
@[simp] theorem xKg_ap : xKg i k s = match getA s i, s.g with
  | some .brw, .keg a b c => (match k with
    | 0 => some (.int a, s)
    | 1 => some (.int b, s)
    | 2 => some (.int c, s)
    | _ => none)
  | _, _ => none := rfl
@[simp] theorem iLst_ap : iLst a s = match a s with
  | some (.lst xs, s1) => some (xs, s1)
  | _ => none := by
  show mBind _ _ _ = _
  rw [mBind_ap]
  cases a s with
  | none => rfl
  | some p => obtain ⟨x, s1⟩ := p; cases x <;> rfl
@[simp] theorem iTup_ap : iTup a s = match a s with
  | some (.tup xs, s1) => some (xs, s1)
  | _ => none := by
  show mBind _ _ _ = _
  rw [mBind_ap]
  cases a s with
  | none => rfl
  | some p => obtain ⟨x, s1⟩ := p; cases x <;> rfl
@[simp] theorem iStr_ap : iStr a s = match a s with
  | some (.str x, s1) => if x.length ≤ 1000 then some (x.cps.toList.map fun c => .str ⟨#[c]⟩, s1) else none
  | _ => none := by
  show mBind _ _ _ = _
  rw [mBind_ap]
  cases a s with
  | none => rfl
  | some p => obtain ⟨x, s1⟩ := p; cases x <;> first | rfl | (dsimp only; split <;> rfl)
@[simp] theorem iRange1_ap : iRange1 a s = match a s with
  | some (.int j, s1) => if j ≤ 1000 ∧ -1000 ≤ j then some (rgD 0 j.toNat, s1) else none
  | _ => none := by
  show mBind _ _ _ = _
  rw [mBind_ap]
  cases a s with
  | none => rfl
  | some p => obtain ⟨x, s1⟩ := p; cases x <;> first | rfl | (dsimp only; split <;> rfl)
@[simp] theorem iRange2_ap : iRange2 a b s = match a s with
  | some (x, s1) => (match b s1 with
    | some (y, s2) => (match x, y with
      | .int i, .int j => if (i ≤ 1000 ∧ -1000 ≤ i) ∧ (j ≤ 1000 ∧ -1000 ≤ j) then some (rgD i (j - i).toNat, s2) else none
      | _, _ => none)
    | none => none)
  | none => none := by
  show mBind _ _ _ = _
  rw [mBind_ap]
  cases a s with
  | none => rfl
  | some p =>
    obtain ⟨x, s1⟩ := p
    dsimp only
    rw [mBind_ap]
    cases b s1 with
    | none => rfl
    | some p =>
      obtain ⟨y, s2⟩ := p
      cases x <;> cases y <;> first | rfl | (dsimp only; split <;> rfl)
@[simp] theorem iZip_ap : iZip a b s = match a s with
  | some (x, s1) => (match b s1 with
    | some (y, s2) => (match x, y with
      | .lst xs, .lst ys => some ((xs.zip ys).map fun p => .tup [p.1, p.2], s2)
      | .tup xs, .tup ys => some ((xs.zip ys).map fun p => .tup [p.1, p.2], s2)
      | _, _ => none)
    | none => none)
  | none => none := by
  show mBind _ _ _ = _
  rw [mBind_ap]
  cases a s with
  | none => rfl
  | some p =>
    obtain ⟨x, s1⟩ := p
    dsimp only
    rw [mBind_ap]
    cases b s1 with
    | none => rfl
    | some p =>
      obtain ⟨y, s2⟩ := p
      cases x <;> cases y <;> rfl
@[simp] theorem iItems_ap : iItems a s = match a s with
  | some (.dic kvs, s1) => some (kvs.map fun kv => .tup [.str kv.1, kv.2], s1)
  | _ => none := by
  show mBind _ _ _ = _
  rw [mBind_ap]
  cases a s with
  | none => rfl
  | some p => obtain ⟨x, s1⟩ := p; cases x <;> rfl
@[simp] theorem sNx_ap : sNx s = some (.nx s) := rfl
@[simp] theorem sNo_ap : sNo s = none := rfl
@[simp] theorem sSeq_ap : sSeq p p1 s = match p s with
  | some (.nx s') => p1 s'
  | some (.rt d s') => some (.rt d s')
  | none => none := rfl
@[simp] theorem sRet_ap : sRet a s = match a s with
  | some (d, s') => some (.rt d s')
  | none => none := rfl
@[simp] theorem sDrop_ap : sDrop a s = match a s with
  | some (_, s') => some (.nx s')
  | none => none := rfl
@[simp] theorem sIf_ap : sIf t p p1 s = match t s with
  | some (true, s') => p s'
  | some (false, s') => p1 s'
  | none => none := by
  show (match t s with
    | some (c, s') => if c = true then p s' else p1 s'
    | none => none) = _
  cases t s with
  | none => rfl
  | some q => obtain ⟨x, s1⟩ := q; cases x <;> rfl
@[simp] theorem sAsg_ap (g : T) : sAsg g a s = match a s with
  | some (d, s') => (match g d s' with
    | some s2 => some (.nx s2)
    | none => none)
  | none => none := rfl
@[simp] theorem putR_d (x : D) : putR s i (.d x) = setA s i (.d x) := rfl
@[simp] theorem putR_f (x) : putR s i (.fr x) = setA s i (.own x) := rfl
@[simp] theorem putR_k (x) : putR s i (.fd x) = setA s i (.dct x) := rfl
@[simp] theorem sSet_ap : sSet i m s = match m s with
  | some (r, s') => if i < s'.e.length then some (.nx (putR s' i r)) else none
  | none => none := rfl
@[simp] theorem sPar_ap : sPar i j m m1 s = match m s with
  | some (r, s1) => (match m1 s1 with
    | some (q, s2) => if i < s2.e.length ∧ j < s2.e.length ∧ i ≠ j then some (.nx (putR (putR s2 i r) j q)) else none
    | none => none)
  | none => none := rfl
@[simp] theorem vApp_ap : vApp i a s = if hasL i s = true then (match a s with
  | some (d, s1) => (match getA s1 i with
    | some (.own xs) => if xs.length < 1000 then some (.non, setA s1 i (.own (xs ++ [d]))) else none
    | _ => none)
  | none => none) else none := by
  show (if hasL i s = true then mBind _ _ s else none) = _
  by_cases h : hasL i s = true
  · rw [if_pos h, if_pos h, mBind_ap]
    cases a s <;> rfl
  · rw [if_neg h, if_neg h]
@[simp] theorem vPop_ap : vPop i b s = if hasL i s = true then (match b s with
  | some (k, s1) => (match getA s1 i, k with
    | some (.own xs), .int j => if 0 ≤ j ∧ j < 1000 then (match xs[j.toNat]? with
      | some d => some (d, setA s1 i (.own (xs.eraseIdx j.toNat)))
      | none => none) else none
    | _, _ => none)
  | none => none) else none := by
  show (if hasL i s = true then mBind _ _ s else none) = _
  by_cases h : hasL i s = true
  · rw [if_pos h, if_pos h, mBind_ap]
    cases b s <;> rfl
  · rw [if_neg h, if_neg h]
@[simp] theorem vIndex_ap : vIndex i b s = if hasL i s = true then (match b s with
  | some (k, s1) => (match getA s1 i, k with
    | some (.d (.lst xs)), .str x => (match strsOf xs with
      | some ys => (match ixOf x ys with
        | some n => some (.int n, s1)
        | none => none)
      | none => none)
    | some (.own xs), .str x => (match strsOf xs with
      | some ys => (match ixOf x ys with
        | some n => some (.int n, s1)
        | none => none)
      | none => none)
    | _, _ => none)
  | none => none) else none := by
  show (if hasL i s = true then mBind _ _ s else none) = _
  by_cases h : hasL i s = true
  · rw [if_pos h, if_pos h, mBind_ap]
    cases b s <;> rfl
  · rw [if_neg h, if_neg h]
@[simp] theorem sFld_ap (f : Str) : sFld i f a s = match a s with
  | some (d, s') => (match getA s' i, s'.g with
    | some .brw, .obj fs => if fs.length < 100 then some (.nx { s' with g := .obj (dPut fs f d) }) else none
    | _, _ => none)
  | none => none := rfl
@[simp] theorem sFor_ap (src : M (List D)) (g : T) : sFor src g p s = match src s with
  | some (xs, s') => forLoop g p xs s'
  | none => none := rfl
@[simp] theorem kSeq_ap (b : S → Option (List D × S)) : kSeq p b s = match p s with
  | some (.nx s') => b s'
  | _ => none := rfl
@[simp] theorem kRet_ap : kRet m s = match m s with
  | some (.fr xs, s') => some (xs, s')
  | _ => none := rfl
@[simp] theorem fin_r (d : D) : fin (some (.rt d s)) = some (d, s) := rfl
@[simp] theorem fin_n : fin (some (.nx s)) = some (.non, s) := rfl
@[simp] theorem fin_o : fin none = none := rfl
end

/-! operators at known shapes -/
@[simp] theorem oAdd_i (i j : Int) : oAdd (.int i) (.int j) = some (.int (i + j)) := rfl
@[simp] theorem oSub_i (i j : Int) : oSub (.int i) (.int j) = some (.int (i - j)) := rfl
theorem oMul_i {i j : Int} (h : mulOk i j = true) : oMul (.int i) (.int j) = some (.int (i * j)) := if_pos h
theorem oDiv_i {i j : Int} (h : 0 < j) (h2 : j.natAbs < big) : oDiv (.int i) (.int j) = some (.int (i / j)) := if_pos ⟨h, h2⟩
theorem oMod_i {i j : Int} (h : 0 < j) : oMod (.int i) (.int j) = some (.int (i % j)) := if_pos h
@[simp] theorem oLt_i (i j : Int) : oLt (.int i) (.int j) = some (decide (i < j)) := rfl
@[simp] theorem oLe_i (i j : Int) : oLe (.int i) (.int j) = some (decide (i ≤ j)) := rfl
@[simp] theorem oGt_i (i j : Int) : oGt (.int i) (.int j) = some (decide (j < i)) := rfl
@[simp] theorem oGe_i (i j : Int) : oGe (.int i) (.int j) = some (decide (j ≤ i)) := rfl
@[simp] theorem oAbs_i (i : Int) : oAbs (.int i) = some (.int (if i < 0 then -i else i)) := rfl
@[simp] theorem oInt_i (i : Int) : oInt (.int i) = some (.int i) := rfl
@[simp] theorem oMin_i (i j : Int) : oMin (.int i) (.int j) = some (.int (if j < i then j else i)) := rfl
@[simp] theorem oMax_i (i j : Int) : oMax (.int i) (.int j) = some (.int (if j > i then j else i)) := rfl
@[simp] theorem oIx_l (xs : List D) (i : Int) : oIx (.lst xs) (.int i) = atI xs i := rfl
@[simp] theorem oIx_t (xs : List D) (i : Int) : oIx (.tup xs) (.int i) = atI xs i := rfl
@[simp] theorem atI_nat {α : Type} (xs : List α) (n : Nat) : atI xs (n : Int) = xs[n]? := by
  unfold atI ixN
  by_cases h : n < xs.length
  · simp [h]
  · simp [h]
@[simp] theorem atI_0 {α : Type} (xs : List α) : atI xs (0 : Int) = xs[0]? := atI_nat xs 0
@[simp] theorem atI_1 {α : Type} (xs : List α) : atI xs (1 : Int) = xs[1]? := atI_nat xs 1
@[simp] theorem atI_2 {α : Type} (xs : List α) : atI xs (2 : Int) = xs[2]? := atI_nat xs 2
@[simp] theorem oDix_d (kvs k) : oDix (.dic kvs) (.str k) = dGet kvs k := rfl
@[simp] theorem oInD_d (kvs k) : oInD (.str k) (.dic kvs) = some (dGet kvs k).isSome := rfl
@[simp] theorem oNotInD_d (kvs k) : oNotInD (.str k) (.dic kvs) = some (!(dGet kvs k).isSome) := rfl
@[simp] theorem oFld_w (f fs) : oFld f (.web fs) = dGet fs f := rfl
@[simp] theorem oLen_l (xs : List D) : oLen (.lst xs) = some (.int xs.length) := rfl
@[simp] theorem oLen_t (xs : List D) : oLen (.tup xs) = some (.int xs.length) := rfl
@[simp] theorem oLen_c (xs : List Int) : oLen (.scr xs) = some (.int xs.length) := rfl
@[simp] theorem oTuple_l (xs : List D) : oTuple (.lst xs) = some (.tup xs) := rfl
@[simp] theorem oAll_m (xs : List Bool) : oAll (.lst (xs.map .bl)) = some (.bl (xs.all id)) := by simp [oAll, blsOf_map]
@[simp] theorem oAny_m (xs : List Bool) : oAny (.lst (xs.map .bl)) = some (.bl (xs.any id)) := by simp [oAny, blsOf_map]
@[simp] theorem oIn_l (x : Str) (xs : List Str) : oIn (.str x) (.lst (xs.map .str)) = some (decide (x ∈ xs)) := by simp [oIn, strsOf_map]
@[simp] theorem oIn_t (x : Str) (xs : List Str) : oIn (.str x) (.tup (xs.map .str)) = some (decide (x ∈ xs)) := by simp [oIn, strsOf_map]
@[simp] theorem oIsN_n : oIsN .non = some true := rfl
@[simp] theorem oIsN_t (xs) : oIsN (.tup xs) = some false := rfl
@[simp] theorem oIsN_d (xs) : oIsN (.dic xs) = some false := rfl
@[simp] theorem oIsN_i (xs) : oIsN (.int xs) = some false := rfl
@[simp] theorem oNotN_n : oNotN .non = some false := rfl
@[simp] theorem oNotN_t (xs) : oNotN (.tup xs) = some true := rfl
@[simp] theorem oNotN_d (xs) : oNotN (.dic xs) = some true := rfl
@[simp] theorem oIsInt_i (i) : oIsInt (.int i) = some true := rfl
@[simp] theorem oIsBool_i (i) : oIsBool (.int i) = some false := rfl
@[simp] theorem oIsStr_s (i) : oIsStr (.str i) = some true := rfl
@[simp] theorem oIsTup_t (i) : oIsTup (.tup i) = some true := rfl
@[simp] theorem oIsWeb_w (i) : oIsWeb (.web i) = some true := rfl
@[simp] theorem oCatA_t (xs ys : List D) : oCatA (.tup xs) (.tup ys) = if xs.length + ys.length ≤ 1000 then some (.tup (xs ++ ys)) else none := rfl

/-! equality -/
@[simp] theorem oEq_i (i j : Int) : oEq (.int i) (.int j) = some (decide (i = j)) := by
  simp only [oEq, D.py]
  rfl
/-- a text that the model can lay -/
def sOk (x : Str) : Prop := PyData.canLay0 (.str x) = true
theorem oEq_s {i j : Str} (h1 : sOk i) (h2 : sOk j) : oEq (.str i) (.str j) = some (decide (i = j)) := by
  simp only [oEq, D.py]
  have a1 : SeqAt.shaped (.str i) = true := by
    unfold SeqAt.shaped
    rw [show PyData.canLay0 (.str i) = true from h1]
    simp [PyData.depth]
  have a2 : SeqAt.shaped (.str j) = true := by
    unfold SeqAt.shaped
    rw [show PyData.canLay0 (.str j) = true from h2]
    simp [PyData.depth]
  rw [if_pos ⟨a1, a2⟩]
  congr 1
theorem runP_ap {n k : Nat} {b : P} {ds : List D} (h : ds.length = k) : runP n k b ds = match fin (b ⟨start n ds, .no⟩) with
  | some (d, _) => some d
  | none => none := if_pos h
theorem runG_ap {n k : Nat} {b : P} {g : G} {ds : List D} (h : ds.length = k) : runG n k b g ds = match fin (b ⟨some .brw :: start n ds, g⟩) with
  | some (d, s) => some (d, s.g)
  | none => none := if_pos h
theorem runK_ap {n k : Nat} {b : S → Option (List D × S)} {ds : List D} (h : ds.length = k) : runK n k b ds = match b ⟨start n ds, .no⟩ with
  | some (xs, _) => some xs
  | none => none := if_pos h
end Dl
end

/-! ## Loop -/
section
set_option Elab.async false
set_option linter.all false
set_option maxRecDepth 100000
/-! Loops and dicts over plain lists. -/
namespace Dl
open PySem L2
theorem sWhile_inv {α : Type} {t : M Bool} {b : P} (I : α → S → Prop) (m : α → Nat) (Q : S → Prop)
    (h : ∀ a s, I a s → (∃ s1, t s = some (false, s1) ∧ Q s1) ∨ ∃ s1 s2 a', t s = some (true, s1) ∧ b s1 = some (.nx s2) ∧ I a' s2 ∧ m a' < m a) :
    ∀ a s, I a s → ∃ s', sWhile t b s = some (.nx s') ∧ Q s' := by
  have key : ∀ k a s, m a ≤ k → I a s → ∃ n s', whileN t b n s = some (.nx s') ∧ Q s' := by
    intro k
    induction k with
    | zero =>
      intro a s hk hI
      rcases h a s hI with ⟨s1, h1, h2⟩ | ⟨s1, s2, a', h1, h2, h3, h4⟩
      · exact ⟨1, s1, by simp [whileN, h1], h2⟩
      · omega
    | succ k ih =>
      intro a s hk hI
      rcases h a s hI with ⟨s1, h1, h2⟩ | ⟨s1, s2, a', h1, h2, h3, h4⟩
      · exact ⟨1, s1, by simp [whileN, h1], h2⟩
      · obtain ⟨n, s', h5, h6⟩ := ih a' s2 (by omega) h3
        exact ⟨n + 1, s', by simp [whileN, h1, h2, h5], h6⟩
  intro a s hI
  obtain ⟨n, s', h1, h2⟩ := key (m a) a s (Nat.le_refl _) hI
  exact ⟨s', sWhile_of n h1, h2⟩
theorem forLoop_pre {β : Type} {tg : T} {b : P} (enc : β → D) (I : List β → S → Prop) (xs : List β)
    (hs : ∀ pre x post s, xs = pre ++ x :: post → I pre s → ∃ s1 s2, tg (enc x) s = some s1 ∧ b s1 = some (.nx s2) ∧ I (pre ++ [x]) s2) {s : S} (h0 : I [] s) :
    ∃ s', forLoop tg b (xs.map enc) s = some (.nx s') ∧ I xs s' := by
  have key : ∀ post pre s, xs = pre ++ post → I pre s → ∃ s', forLoop tg b (post.map enc) s = some (.nx s') ∧ I xs s' := by
    intro post
    induction post with
    | nil =>
      intro pre s h hI
      rw [List.append_nil] at h
      subst h
      exact ⟨s, rfl, hI⟩
    | cons x r ih =>
      intro pre s h hI
      obtain ⟨s1, s2, h1, h2, h3⟩ := hs pre x r s h hI
      obtain ⟨s', h4, h5⟩ := ih (pre ++ [x]) s2 (by rw [h]; simp) h3
      exact ⟨s', by simp [forLoop, h1, h2, h4], h5⟩
  exact key xs [] s rfl h0
/-- a loop whose state is a fold -/
theorem forLoop_fold {α β : Type} {tg : T} {b : P} (enc : β → D) (f : α → β → α) (I : α → S → Prop) :
    ∀ (xs : List β) (hs : ∀ x ∈ xs, ∀ a s, I a s → ∃ s1 s2, tg (enc x) s = some s1 ∧ b s1 = some (.nx s2) ∧ I (f a x) s2) (a : α) (s : S) (h0 : I a s),
    ∃ s', forLoop tg b (xs.map enc) s = some (.nx s') ∧ I (xs.foldl f a) s'
  | [], _, a, s, h0 => ⟨s, rfl, h0⟩
  | x :: r, hs, a, s, h0 => by
    obtain ⟨s1, s2, h1, h2, h3⟩ := hs x (by simp) a s h0
    obtain ⟨s', h4, h5⟩ := forLoop_fold enc f I r (fun y hy => hs y (by simp [hy])) (f a x) s2 h3
    exact ⟨s', by simp [forLoop, h1, h2, h4], by simpa using h5⟩
theorem comp_fm {β : Type} {tg : T} {t : M Bool} {e : M D} {vs : List Nat} (enc : β → D) (f : β → Option D) {s : S} :
    ∀ (xs : List β) (H : ∀ x ∈ xs, ∃ s2, tg (enc x) s = some s2 ∧ wipeS s2 vs = s ∧ ((f x = none ∧ t s2 = some (false, s2)) ∨ ∃ d, f x = some d ∧ t s2 = some (true, s2) ∧ e s2 = some (d, s2))),
    compLoop tg t e vs (xs.map enc) s = some (xs.filterMap f, s)
  | [], _ => rfl
  | x :: r, H => by
    obtain ⟨s2, h1, h2, h3⟩ := H x (by simp)
    have ih := comp_fm enc f r (fun y hy => H y (by simp [hy]))
    rcases h3 with ⟨h3, h4⟩ | ⟨d, h3, h4, h5⟩
    · simp [compLoop, h1, h4, h2, ih, h3]
    · simp [compLoop, h1, h4, h5, h2, ih, h3]
theorem rComp_eq {β : Type} {src : M (List D)} {tg : T} {t : M Bool} {e : M D} {vs : List Nat} {s s1 : S} (xs : List β) (enc : β → D) (f : β → Option D)
    (hs : src s = some (xs.map enc, s1)) (hf : freeOf s1 vs = true) (hb : backS (wipeS s1 vs) s1 vs = s1)
    (H : ∀ x ∈ xs, ∃ s2, tg (enc x) (wipeS s1 vs) = some s2 ∧ wipeS s2 vs = wipeS s1 vs ∧ ((f x = none ∧ t s2 = some (false, s2)) ∨ ∃ d, f x = some d ∧ t s2 = some (true, s2) ∧ e s2 = some (d, s2))) :
    rComp src tg t e vs s = some (.fr (xs.filterMap f), s1) := by
  unfold rComp
  rw [mBind_ap, hs]
  dsimp only
  rw [if_pos hf, comp_fm enc f xs H]
  simp only [hb]
theorem rComp_map {β : Type} {src : M (List D)} {tg : T} {e : M D} {vs : List Nat} {s s1 : S} (xs : List β) (enc : β → D) (f : β → D)
    (hs : src s = some (xs.map enc, s1)) (hf : freeOf s1 vs = true) (hb : backS (wipeS s1 vs) s1 vs = s1)
    (H : ∀ x ∈ xs, ∃ s2, tg (enc x) (wipeS s1 vs) = some s2 ∧ wipeS s2 vs = wipeS s1 vs ∧ e s2 = some (f x, s2)) :
    rComp src tg (mRet true) e vs s = some (.fr (xs.map f), s1) := by
  rw [rComp_eq xs enc (fun x => some (f x)) hs hf hb fun x hx => ?_, List.filterMap_eq_map' ]
  obtain ⟨s2, h1, h2, h3⟩ := H x hx
  exact ⟨s2, h1, h2, .inr ⟨_, rfl, rfl, h3⟩⟩
theorem flt_fm {β γ : Type} (xs : List β) (p : β → Bool) (f : β → γ) : (xs.filter p).map f = xs.filterMap (fun x => if p x = true then some (f x) else none) := by
  induction xs with
  | nil => rfl
  | cons a r ih => by_cases q : p a = true <;> simp [q, List.filterMap_cons, ih]
/-- the kept ones, each told -/
theorem rComp_flt {β : Type} {src : M (List D)} {tg : T} {t : M Bool} {e : M D} {vs : List Nat} {s s1 : S} (xs : List β) (enc : β → D) (p : β → Bool) (f : β → D)
    (hs : src s = some (xs.map enc, s1)) (hf : freeOf s1 vs = true) (hb : backS (wipeS s1 vs) s1 vs = s1)
    (H : ∀ x ∈ xs, ∃ s2, tg (enc x) (wipeS s1 vs) = some s2 ∧ wipeS s2 vs = wipeS s1 vs ∧ t s2 = some (p x, s2) ∧ (p x = true → e s2 = some (f x, s2))) :
    rComp src tg t e vs s = some (.fr ((xs.filter p).map f), s1) := by
  have e1 := flt_fm xs p f
  rw [e1]
  refine rComp_eq xs enc _ hs hf hb fun x hx => ?_
  obtain ⟨s2, h1, h2, h3, h4⟩ := H x hx
  refine ⟨s2, h1, h2, ?_⟩
  cases q : p x with
  | false => exact .inl ⟨by simp, by rw [h3, q]⟩
  | true => exact .inr ⟨f x, by simp, by rw [h3, q], h4 q⟩

/-! dicts -/
def dicOf (l : List Str) (f : Str → D) : List (Str × D) := l.map fun p => (p, f p)
@[simp] theorem dicOf_length (l f) : (dicOf l f).length = l.length := by simp [dicOf]
theorem dGet_of (l : List Str) (f : Str → D) (k : Str) : dGet (dicOf l f) k = if k ∈ l then some (f k) else none := by
  induction l with
  | nil => rfl
  | cons a r ih =>
    show (if a = k then some (f a) else dGet (dicOf r f) k) = _
    by_cases h : a = k
    · subst h
      simp
    · rw [if_neg h, ih]
      have : k ∈ a :: r ↔ k ∈ r := by simp [Ne.symm h]
      simp only [this]
theorem dicOf_congr {l : List Str} {f g : Str → D} (h : ∀ p ∈ l, f p = g p) : dicOf l f = dicOf l g := by
  unfold dicOf
  exact List.map_congr_left fun p hp => by rw [h p hp]
theorem dPut_not (l : List Str) (f : Str → D) (k : Str) (v : D) (h : k ∉ l) : dPut (dicOf l f) k v = dicOf l f ++ [(k, v)] := by
  induction l with
  | nil => rfl
  | cons a r ih =>
    show (if a = k then _ else (a, f a) :: dPut (dicOf r f) k v) = _
    rw [if_neg (by rintro rfl; simp at h), ih (by simp at h; exact h.2)]
    rfl
theorem dPut_new (l : List Str) (f : Str → D) (k : Str) (v : D) (h : k ∉ l) : dPut (dicOf l f) k v = dicOf (l ++ [k]) (fun p => if p = k then v else f p) := by
  rw [dPut_not l f k v h]
  have : dicOf l f = dicOf l (fun p => if p = k then v else f p) := dicOf_congr fun p hp => by
    rw [if_neg (by rintro rfl; exact h hp)]
  rw [this]
  simp [dicOf]
theorem dPut_old (l : List Str) (f : Str → D) (k : Str) (v : D) (h : k ∈ l) (nd : l.Nodup) : dPut (dicOf l f) k v = dicOf l (fun p => if p = k then v else f p) := by
  induction l with
  | nil => simp at h
  | cons a r ih =>
    rw [List.nodup_cons] at nd
    show (if a = k then (a, v) :: dicOf r f else (a, f a) :: dPut (dicOf r f) k v) = _
    by_cases q : a = k
    · subst q
      rw [if_pos rfl]
      show _ = (a, if a = a then v else f a) :: dicOf r _
      rw [if_pos rfl, dicOf_congr (l := r) (f := f) (g := fun p => if p = a then v else f p) fun p hp => by rw [if_neg (by rintro rfl; exact nd.1 hp)]]
    · rw [if_neg q, ih (by simpa [Ne.symm q] using h) nd.2]
      show _ = (a, if a = k then v else f a) :: dicOf r _
      rw [if_neg q]
theorem dAll_of (l0 l : List Str) (f : Str → D) (nd : (l0 ++ l).Nodup) : dAll (dicOf l0 f) (dicOf l f) = dicOf (l0 ++ l) f := by
  induction l generalizing l0 with
  | nil => simp [dicOf, dAll]
  | cons a r ih =>
    show dAll (dPut (dicOf l0 f) a (f a)) (dicOf r f) = _
    have na : a ∉ l0 := by
      rw [List.nodup_append] at nd
      intro h
      exact nd.2.2 a h a (by simp) rfl
    rw [dPut_new _ _ _ _ na, dicOf_congr (l := l0 ++ [a]) (g := f) fun p _ => by by_cases q : p = a <;> simp [q]]
    rw [ih (l0 ++ [a]) (by simpa using nd)]
    simp
theorem pairsOf_of (l : List Str) (f : Str → D) : pairsOf (l.map fun p => .tup [.str p, f p]) = some (dicOf l f) := by
  induction l with
  | nil => rfl
  | cons a r ih =>
    show (match pairsOf (r.map fun p => .tup [.str p, f p]) with
      | some ys => some ((a, f a) :: ys)
      | none => none) = _
    rw [ih]
    rfl
theorem dicOf_map_str (l : List Str) (f : Str → D) : (dicOf l f).map (fun kv => D.str kv.1) = l.map .str := by simp [dicOf, Function.comp_def]
theorem ixOf_get : ∀ (l : List Str) (x : Str), x ∈ l → ∃ n, ixOf x l = some n ∧ n < l.length ∧ l[n]? = some x
  | [], x, h => by simp at h
  | a :: r, x, h => by
    by_cases q : a = x
    · exact ⟨0, by simp [ixOf, q], by simp, by simp [q]⟩
    · obtain ⟨n, h1, h2, h3⟩ := ixOf_get r x (by simpa [Ne.symm q] using h)
      exact ⟨n + 1, by simp [ixOf, q, h1], by simp [h2], by simpa using h3⟩
theorem runP_1 (n : Nat) (b : P) (x1 : D) : runP n 1 b [x1] = match fin (b ⟨start n [x1], .no⟩) with
  | some (d, _) => some d
  | none => none := runP_ap rfl
theorem runP_2 (n : Nat) (b : P) (x1 x2 : D) : runP n 2 b [x1, x2] = match fin (b ⟨start n [x1, x2], .no⟩) with
  | some (d, _) => some d
  | none => none := runP_ap rfl
theorem runP_3 (n : Nat) (b : P) (x1 x2 x3 : D) : runP n 3 b [x1, x2, x3] = match fin (b ⟨start n [x1, x2, x3], .no⟩) with
  | some (d, _) => some d
  | none => none := runP_ap rfl
theorem runP_4 (n : Nat) (b : P) (x1 x2 x3 x4 : D) : runP n 4 b [x1, x2, x3, x4] = match fin (b ⟨start n [x1, x2, x3, x4], .no⟩) with
  | some (d, _) => some d
  | none => none := runP_ap rfl
theorem runP_5 (n : Nat) (b : P) (x1 x2 x3 x4 x5 : D) : runP n 5 b [x1, x2, x3, x4, x5] = match fin (b ⟨start n [x1, x2, x3, x4, x5], .no⟩) with
  | some (d, _) => some d
  | none => none := runP_ap rfl
theorem runP_6 (n : Nat) (b : P) (x1 x2 x3 x4 x5 x6 : D) : runP n 6 b [x1, x2, x3, x4, x5, x6] = match fin (b ⟨start n [x1, x2, x3, x4, x5, x6], .no⟩) with
  | some (d, _) => some d
  | none => none := runP_ap rfl
theorem runG_0 (n : Nat) (b : P) (g : G) : runG n 0 b g [] = match fin (b ⟨some .brw :: start n [], g⟩) with
  | some (d, s) => some (d, s.g)
  | none => none := runG_ap rfl
theorem runG_1 (n : Nat) (b : P) (g : G) (x1 : D) : runG n 1 b g [x1] = match fin (b ⟨some .brw :: start n [x1], g⟩) with
  | some (d, s) => some (d, s.g)
  | none => none := runG_ap rfl
theorem runG_2 (n : Nat) (b : P) (g : G) (x1 x2 : D) : runG n 2 b g [x1, x2] = match fin (b ⟨some .brw :: start n [x1, x2], g⟩) with
  | some (d, s) => some (d, s.g)
  | none => none := runG_ap rfl
theorem runG_3 (n : Nat) (b : P) (g : G) (x1 x2 x3 : D) : runG n 3 b g [x1, x2, x3] = match fin (b ⟨some .brw :: start n [x1, x2, x3], g⟩) with
  | some (d, s) => some (d, s.g)
  | none => none := runG_ap rfl
theorem runK_2 (n : Nat) (b : S → Option (List D × S)) (x1 x2 : D) : runK n 2 b [x1, x2] = match b ⟨start n [x1, x2], .no⟩ with
  | some (xs, _) => some xs
  | none => none := runK_ap rfl
theorem sIf_t {t : M Bool} {a b : P} {s s' : S} {r : Option O} (h : t s = some (true, s')) (h2 : a s' = r) : sIf t a b s = r := by
  rw [sIf_ap, h]
  exact h2
theorem sIf_f {t : M Bool} {a b : P} {s s' : S} {r : Option O} (h : t s = some (false, s')) (h2 : b s' = r) : sIf t a b s = r := by
  rw [sIf_ap, h]
  exact h2
theorem sAsg_of {g : T} {a : M D} {s s1 s2 : S} {d : D} (h : a s = some (d, s1)) (h2 : g d s1 = some s2) : sAsg g a s = some (.nx s2) := by
  rw [sAsg_ap, h]
  dsimp only
  rw [h2]
theorem xFrz_f {m : M R} {s s1 : S} {xs : List D} (h : m s = some (.fr xs, s1)) : xFrz m s = some (.lst xs, s1) := by rw [xFrz_ap, h]
theorem xFrz_k {m : M R} {s s1 : S} {xs : List (Str × D)} (h : m s = some (.fd xs, s1)) : xFrz m s = some (.dic xs, s1) := by rw [xFrz_ap, h]
theorem sRet_of {a : M D} {s s1 : S} {d : D} (h : a s = some (d, s1)) : sRet a s = some (.rt d s1) := by rw [sRet_ap, h]
theorem sSet_of {i : Nat} {m : M R} {s s1 : S} {r : R} (h : m s = some (r, s1)) (hl : i < s1.e.length) : sSet i m s = some (.nx (putR s1 i r)) := by
  rw [sSet_ap, h]
  dsimp only
  rw [if_pos hl]
theorem xUn_of {f : D → Option D} {a : M D} {s s1 : S} {d e : D} (h : a s = some (d, s1)) (h2 : f d = some e) : xUn f a s = some (e, s1) := by
  rw [xUn_ap, h]
  dsimp only
  rw [h2]
  rfl
theorem sFor_of {src : M (List D)} {g : T} {p : P} {s s1 : S} {xs : List D} {r : Option O} (h : src s = some (xs, s1)) (h2 : forLoop g p xs s1 = r) : sFor src g p s = r := by
  rw [sFor_ap, h]
  exact h2
theorem run_of {n k : Nat} {b : P} {ds : List D} {d : D} {s : S} (hl : ds.length = k) (h : b ⟨start n ds, .no⟩ = some (.rt d s)) : runP n k b ds = some d := by
  rw [runP_ap hl, h]
  rfl
theorem sSeq_nx {a b : P} {s s' : S} {r : Option O} (h : a s = some (.nx s')) (h2 : b s' = r) : sSeq a b s = r := by
  rw [sSeq_ap, h]
  exact h2
end Dl
end

/-! ## Num -/
section
set_option Elab.async false
set_option linter.all false
set_option maxRecDepth 100000
/-! Fractions. -/
namespace Dl
open PySem L2
/-- a fraction as the program keeps it -/
def fr (q : Rat) : D := .tup [.int q.num, .int q.den]
/-- at most B bits above and below -/
structure Sz (B : Nat) (q : Rat) : Prop where
  num : q.num.natAbs < 2 ^ B
  den : q.den < 2 ^ B
theorem Sz.mono {B C : Nat} {q : Rat} (h : Sz B q) (hc : B ≤ C) : Sz C q := ⟨Nat.lt_of_lt_of_le h.num (Nat.pow_le_pow_right (by decide) hc), Nat.lt_of_lt_of_le h.den (Nat.pow_le_pow_right (by decide) hc)⟩
theorem mkRat_le (n : Int) (d : Nat) (h : d ≠ 0) : (mkRat n d).num.natAbs ≤ n.natAbs ∧ (mkRat n d).den ≤ d := by
  rw [← Rat.normalize_eq_mkRat h, Rat.normalize_eq]
  refine ⟨?_, Nat.div_le_self _ _⟩
  show (n / ((n.natAbs.gcd d : Nat) : Int)).natAbs ≤ n.natAbs
  rw [Int.natAbs_ediv_of_dvd (Int.ofNat_dvd_left.mpr (Nat.gcd_dvd_left _ _))]
  exact Nat.div_le_self _ _
theorem Sz.mk' {B : Nat} {n : Int} {d : Nat} (h : d ≠ 0) (h1 : n.natAbs < 2 ^ B) (h2 : d < 2 ^ B) : Sz B (mkRat n d) :=
  ⟨Nat.lt_of_le_of_lt (mkRat_le n d h).1 h1, Nat.lt_of_le_of_lt (mkRat_le n d h).2 h2⟩
theorem mul_lt_pow {a b B C : Nat} (h1 : a < 2 ^ B) (h2 : b < 2 ^ C) : a * b < 2 ^ (B + C) := by
  rw [Nat.pow_add]
  exact Nat.mul_lt_mul'' h1 h2
theorem Sz.mul {B : Nat} {a b : Rat} (h1 : Sz B a) (h2 : Sz B b) : Sz (2 * B) (a * b) := by
  rw [Rat.mul_def', show 2 * B = B + B by omega]
  exact Sz.mk' (Nat.mul_ne_zero a.den_nz b.den_nz) (by rw [Int.natAbs_mul]; exact mul_lt_pow h1.num h2.num) (mul_lt_pow h1.den h2.den)
theorem cross_lt {B : Nat} {a b : Rat} (h1 : Sz B a) (h2 : Sz B b) : (a.num * b.den).natAbs < 2 ^ (B + B) := by
  rw [Int.natAbs_mul]
  exact mul_lt_pow h1.num (by simpa using h2.den)
theorem Sz.add {B : Nat} {a b : Rat} (h1 : Sz B a) (h2 : Sz B b) : Sz (2 * B + 1) (a + b) := by
  rw [Rat.add_def']
  have e : 2 ^ (2 * B + 1) = 2 ^ (B + B) + 2 ^ (B + B) := by rw [show 2 * B + 1 = (B + B) + 1 by omega, Nat.pow_succ]; omega
  have := cross_lt h1 h2
  have := cross_lt h2 h1
  have := mul_lt_pow h1.den h2.den
  exact Sz.mk' (Nat.mul_ne_zero a.den_nz b.den_nz) (by rw [e]; omega) (by rw [e]; omega)
theorem Sz.sub {B : Nat} {a b : Rat} (h1 : Sz B a) (h2 : Sz B b) : Sz (2 * B + 1) (a - b) := by
  rw [Rat.sub_def']
  have e : 2 ^ (2 * B + 1) = 2 ^ (B + B) + 2 ^ (B + B) := by rw [show 2 * B + 1 = (B + B) + 1 by omega, Nat.pow_succ]; omega
  have := cross_lt h1 h2
  have := cross_lt h2 h1
  have := mul_lt_pow h1.den h2.den
  exact Sz.mk' (Nat.mul_ne_zero a.den_nz b.den_nz) (by rw [e]; omega) (by rw [e]; omega)
theorem fr_inj {a b : Rat} (h : fr a = fr b) : a = b := by
  unfold fr at h
  injection h with h
  injection h with h1 h2
  injection h1 with h1
  injection h2 with h2
  injection h2 with h2
  exact Rat.ext h1 (by omega)
theorem big_of {B n : Nat} (h : n < 2 ^ B) (hB : B ≤ 8000) : n < big := Nat.lt_of_lt_of_le h (Nat.pow_le_pow_right (by decide) hB)
theorem mulOk_of {i j : Int} (h1 : i.natAbs < big) (h2 : j.natAbs < big) : mulOk i j = true := by
  unfold mulOk
  simp [h1, h2]
/-- the euclid loop, at any slots -/
theorem gcd_step (a b : Nat) (h : 0 < b) : Nat.gcd a b = Nat.gcd b (a % b) := by
  rw [Nat.gcd_comm a b, Nat.gcd_rec b a, Nat.gcd_comm]
theorem common_ok (x : Int) (y : Nat) : F_common [.int x, .int y] = some (.int (Nat.gcd x.natAbs y)) := by
  unfold F_common
  rw [runP_2]
  have key := sWhile_inv (t := tBin oGt (xVar 1) (xC (.int 0))) (b := sPar 0 1 (rD (xVar 1)) (rD (xBin oMod (xUn oInt (xVar 0)) (xVar 1))))
    (fun (p : Nat × Nat) s => s = ⟨[some (.d (.int p.1)), some (.d (.int p.2))], .no⟩ ∧ Nat.gcd p.1 p.2 = Nat.gcd x.natAbs y) (fun p => p.2)
    (fun s => ∃ u, s = ⟨[some (.d (.int (Nat.gcd x.natAbs y))), u], .no⟩) (by
      rintro ⟨a, b⟩ s ⟨rfl, h⟩
      rcases Nat.eq_zero_or_pos b with rfl | hb
      · left
        refine ⟨_, by simp; rfl, ?_⟩
        simp at h
        simp [h]
      · right
        refine ⟨_, _, (b, a % b), by simp [hb]; rfl, ?_, ⟨rfl, ?_⟩, Nat.mod_lt _ hb⟩
        · simp [oMod_i (i := (a : Int)) (j := (b : Int)) (by omega)]
        · rw [← h]
          exact (gcd_step a b hb).symm)
    (x.natAbs, y) ⟨[some (.d (.int (x.natAbs : Int))), some (.d (.int y))], .no⟩ ⟨rfl, rfl⟩
  obtain ⟨s', h1, u, rfl⟩ := key
  have e : (if x < 0 then -x else x) = (x.natAbs : Int) := by split <;> omega
  simp [psi_common, start, e, h1]
theorem lowest_ok (x : Int) (d : Nat) (h : d ≠ 0) (hb : d < big) : F_lowest [.int x, .int d] = some (fr (mkRat x d)) := by
  unfold F_lowest
  rw [runP_2]
  have g0 : 0 < Nat.gcd x.natAbs d := Nat.gcd_pos_of_pos_right _ (Nat.pos_of_ne_zero h)
  have g1 : Nat.gcd x.natAbs d < big := Nat.lt_of_le_of_lt (Nat.gcd_le_right _ (Nat.pos_of_ne_zero h)) hb
  have h1 : ∀ i : Int, oDiv (.int i) (.int (Nat.gcd x.natAbs d : Nat)) = some (.int (i / (Nat.gcd x.natAbs d : Nat))) := fun i => oDiv_i (by omega) (by simpa using g1)
  simp [psi_lowest, start, common_ok, h1]
  rw [← Rat.normalize_eq_mkRat h, Rat.normalize_eq]
  simp [fr]
theorem law_low_ok (x : Int) (d : Nat) (h : d ≠ 0) (hb : d < big) : F__law_low [.int x, .int d] = some (fr (mkRat x d)) := by
  unfold F__law_low
  rw [runP_2]
  have g0 : 0 < Nat.gcd x.natAbs d := Nat.gcd_pos_of_pos_right _ (Nat.pos_of_ne_zero h)
  have g1 : Nat.gcd x.natAbs d < big := Nat.lt_of_le_of_lt (Nat.gcd_le_right _ (Nat.pos_of_ne_zero h)) hb
  have h1 : ∀ i : Int, oDiv (.int i) (.int (Nat.gcd x.natAbs d : Nat)) = some (.int (i / (Nat.gcd x.natAbs d : Nat))) := fun i => oDiv_i (by omega) (by simpa using g1)
  have key := sWhile_inv (t := tBin oGt (xVar 3) (xC (.int 0))) (b := sPar 2 3 (rD (xVar 3)) (rD (xBin oMod (xUn oInt (xVar 2)) (xVar 3))))
    (fun (p : Nat × Nat) s => s = ⟨[some (.d (.int x)), some (.d (.int d)), some (.d (.int p.1)), some (.d (.int p.2))], .no⟩ ∧ Nat.gcd p.1 p.2 = Nat.gcd x.natAbs d) (fun p => p.2)
    (fun s => ∃ u, s = ⟨[some (.d (.int x)), some (.d (.int d)), some (.d (.int (Nat.gcd x.natAbs d : Nat))), u], .no⟩) (by
      rintro ⟨a, b⟩ s ⟨rfl, h⟩
      rcases Nat.eq_zero_or_pos b with rfl | hb
      · left
        refine ⟨_, by simp; rfl, ?_⟩
        simp at h
        simp [h]
      · right
        refine ⟨_, _, (b, a % b), by simp [hb]; rfl, ?_, ⟨rfl, ?_⟩, Nat.mod_lt _ hb⟩
        · simp [oMod_i (i := (a : Int)) (j := (b : Int)) (by omega)]
        · rw [← h]
          exact (gcd_step a b hb).symm)
    (x.natAbs, d) ⟨[some (.d (.int x)), some (.d (.int d)), some (.d (.int (x.natAbs : Int))), some (.d (.int d))], .no⟩ ⟨rfl, rfl⟩
  obtain ⟨s', h2, u, rfl⟩ := key
  have e : (if x < 0 then -x else x) = (x.natAbs : Int) := by split <;> omega
  simp [psi__law_low, start, e, h2, h1]
  rw [← Rat.normalize_eq_mkRat h, Rat.normalize_eq]
  simp [fr]
section
variable {B : Nat} {a b : Rat} (h1 : Sz B a) (h2 : Sz B b) (hB : 2 * B + 1 ≤ 8000)
include h1 h2 hB
theorem nd_big {n : Int} {d : Nat} (h1 : n.natAbs < 2 ^ B) (h2 : d < 2 ^ B) : mulOk n d = true := mulOk_of (big_of h1 (by omega)) (big_of (by simpa using h2) (by omega))
theorem less_ok : F_less [fr a, fr b] = some (fr (a - b)) := by
  unfold F_less
  rw [runP_2]
  have e1 := mulOk_of (i := a.num) (j := b.den) (big_of h1.num (by omega)) (big_of (by simpa using h2.den) (by omega))
  have e2 := mulOk_of (i := b.num) (j := a.den) (big_of h2.num (by omega)) (big_of (by simpa using h1.den) (by omega))
  have e3 := mulOk_of (i := a.den) (j := b.den) (big_of (by simpa using h1.den) (by omega)) (big_of (by simpa using h2.den) (by omega))
  have e4 := lowest_ok (a.num * b.den - b.num * a.den) (a.den * b.den) (Nat.mul_ne_zero a.den_nz b.den_nz) (big_of (mul_lt_pow h1.den h2.den) (by omega))
  rw [Int.natCast_mul] at e4
  rw [Rat.sub_def']
  simp [psi_less, start, fr, oMul_i e1, oMul_i e2, oMul_i e3, e4]
theorem law_gap_ok : F__law_gap [fr a, fr b] = some (fr (a - b)) := by
  unfold F__law_gap
  rw [runP_2]
  have e1 := mulOk_of (i := a.num) (j := b.den) (big_of h1.num (by omega)) (big_of (by simpa using h2.den) (by omega))
  have e2 := mulOk_of (i := b.num) (j := a.den) (big_of h2.num (by omega)) (big_of (by simpa using h1.den) (by omega))
  have e3 := mulOk_of (i := a.den) (j := b.den) (big_of (by simpa using h1.den) (by omega)) (big_of (by simpa using h2.den) (by omega))
  have e4 := law_low_ok (a.num * b.den - b.num * a.den) (a.den * b.den) (Nat.mul_ne_zero a.den_nz b.den_nz) (big_of (mul_lt_pow h1.den h2.den) (by omega))
  rw [Int.natCast_mul] at e4
  rw [Rat.sub_def']
  simp [psi__law_gap, start, fr, oMul_i e1, oMul_i e2, oMul_i e3, e4]
theorem add_ok : F_add [fr a, fr b] = some (fr (a + b)) := by
  unfold F_add
  rw [runP_2]
  have e1 := mulOk_of (i := a.num) (j := b.den) (big_of h1.num (by omega)) (big_of (by simpa using h2.den) (by omega))
  have e2 := mulOk_of (i := b.num) (j := a.den) (big_of h2.num (by omega)) (big_of (by simpa using h1.den) (by omega))
  have e3 := mulOk_of (i := a.den) (j := b.den) (big_of (by simpa using h1.den) (by omega)) (big_of (by simpa using h2.den) (by omega))
  have e4 := lowest_ok (a.num * b.den + b.num * a.den) (a.den * b.den) (Nat.mul_ne_zero a.den_nz b.den_nz) (big_of (mul_lt_pow h1.den h2.den) (by omega))
  rw [Int.natCast_mul] at e4
  rw [Rat.add_def']
  simp [psi_add, start, fr, oMul_i e1, oMul_i e2, oMul_i e3, e4]
theorem times_ok : F_times [fr a, fr b] = some (fr (a * b)) := by
  unfold F_times
  rw [runP_2]
  have e1 := mulOk_of (i := a.num) (j := b.num) (big_of h1.num (by omega)) (big_of h2.num (by omega))
  have e3 := mulOk_of (i := a.den) (j := b.den) (big_of (by simpa using h1.den) (by omega)) (big_of (by simpa using h2.den) (by omega))
  have e4 := lowest_ok (a.num * b.num) (a.den * b.den) (Nat.mul_ne_zero a.den_nz b.den_nz) (big_of (mul_lt_pow h1.den h2.den) (by omega))
  rw [Int.natCast_mul] at e4
  rw [Rat.mul_def']
  simp [psi_times, start, fr, oMul_i e1, oMul_i e3, e4]
theorem is_below_ok : F_is_below [fr a, fr b] = some (.bl (decide (a < b))) := by
  unfold F_is_below
  rw [runP_2]
  have e1 := mulOk_of (i := a.num) (j := b.den) (big_of h1.num (by omega)) (big_of (by simpa using h2.den) (by omega))
  have e2 := mulOk_of (i := b.num) (j := a.den) (big_of h2.num (by omega)) (big_of (by simpa using h1.den) (by omega))
  simp only [Rat.lt_iff]
  simp [psi_is_below, start, fr, oMul_i e1, oMul_i e2]
theorem law_under_ok : F__law_under [fr a, fr b] = some (.bl (decide (a < b))) := by
  unfold F__law_under
  rw [runP_2]
  have e1 := mulOk_of (i := a.num) (j := b.den) (big_of h1.num (by omega)) (big_of (by simpa using h2.den) (by omega))
  have e2 := mulOk_of (i := b.num) (j := a.den) (big_of h2.num (by omega)) (big_of (by simpa using h1.den) (by omega))
  simp only [Rat.lt_iff]
  simp [psi__law_under, start, fr, oMul_i e1, oMul_i e2]
theorem lesser_ok : F_lesser [fr a, fr b] = some (fr (if b < a then b else a)) := by
  unfold F_lesser
  rw [runP_2]
  have e := is_below_ok h2 h1 hB
  by_cases q : b < a <;> simp [psi_lesser, start, e, q]
theorem greater_ok : F_greater [fr a, fr b] = some (fr (if a < b then b else a)) := by
  unfold F_greater
  rw [runP_2]
  have e := is_below_ok h1 h2 hB
  by_cases q : a < b <;> simp [psi_greater, start, e, q]
end
theorem oEq_fr (a b : Rat) : oEq (fr a) (fr b) = some (decide (a = b)) := by
  have e : ∀ q : Rat, D.py (fr q) = some (.tuple [.int q.num, .int q.den]) := fun q => by simp [fr, D.py, D.pys]
  have s : ∀ q : Rat, SeqAt.shaped (.tuple [.int q.num, .int q.den]) = true := fun q => by simp [SeqAt.shaped, PyData.canLay0, PyData.canLayAll0, PyData.depth, PyData.depthAll]
  unfold oEq
  rw [e, e]
  dsimp only
  rw [if_pos ⟨s a, s b⟩]
  congr 1
  by_cases h : a = b
  · subst h
    simp [PyData.eqv, PyData.eqvAll]
  · have : ¬ (a.num = b.num ∧ a.den = b.den) := fun q => h (Rat.ext q.1 q.2)
    simp [PyData.eqv, PyData.eqvAll, h]
    intro h1 h2
    exact this ⟨h1, by omega⟩
theorem oNe_fr (a b : Rat) : oNe (fr a) (fr b) = some (!decide (a = b)) := by
  unfold oNe
  rw [oEq_fr]
theorem is_between_ok (i : Int) : F_is_between [.int i, .non, .non] = some (.bl true) := by
  unfold F_is_between
  rw [runP_3]
  simp [psi_is_between, start]
theorem is_between_ok1 (i : Int) (h : 1 ≤ i) : F_is_between [.int i, .int 1, .non] = some (.bl true) := by
  unfold F_is_between
  rw [runP_3]
  simp [psi_is_between, start, h]
theorem oNe_i (i j : Int) : oNe (.int i) (.int j) = some (!decide (i = j)) := by
  unfold oNe
  rw [oEq_i]
theorem is_fraction_ok (q : Rat) : F_is_fraction [fr q] = some (.bl true) := by
  unfold F_is_fraction
  rw [runP_1]
  have h := is_between_ok1 q.den (by have := q.den_pos; omega)
  have c : (q.num.natAbs.gcd q.den) = 1 := q.reduced
  simp [psi_is_fraction, start, fr, oNe_i, is_between_ok, h, common_ok, c]
theorem is_chance_ok (q : Rat) (h0 : 0 ≤ q) (h1 : q ≤ 1) : F_is_chance [fr q] = some (.bl true) := by
  unfold F_is_chance
  rw [runP_1]
  have e0 : 0 ≤ q.num := Rat.num_nonneg.mpr h0
  have e1 : q.num ≤ q.den := by
    have := (Rat.le_iff q 1).mp h1
    simpa using this
  have f := is_fraction_ok q
  unfold fr at f
  simp [psi_is_chance, start, fr, f, e0, e1]
theorem is_share_ok (q : Rat) (h0 : 0 ≤ q) (h1 : q ≤ 1) (h2 : q.den ≤ 1000000) : F_is_share [fr q] = some (.bl true) := by
  unfold F_is_share
  rw [runP_1]
  have f := is_chance_ok q h0 h1
  unfold fr at f
  simp [psi_is_share, start, fr, f, d_MOST_BOTTOM]
  omega
end Dl
end

/-! ## Solve -/
section
set_option Elab.async false
set_option linter.all false
set_option maxRecDepth 100000
set_option maxHeartbeats 1000000
/-! Elimination. -/
namespace Dl
open PySem L2
theorem Sz.mul2 {B C : Nat} {a b : Rat} (h1 : Sz B a) (h2 : Sz C b) : Sz (B + C) (a * b) := by
  rw [Rat.mul_def']
  exact Sz.mk' (Nat.mul_ne_zero a.den_nz b.den_nz) (by rw [Int.natAbs_mul]; exact mul_lt_pow h1.num h2.num) (mul_lt_pow h1.den h2.den)
theorem Sz.sub2 {B C : Nat} {a b : Rat} (h1 : Sz B a) (h2 : Sz C b) : Sz (B + C + 1) (a - b) := by
  rw [Rat.sub_def']
  have e : 2 ^ (B + C + 1) = 2 ^ (B + C) + 2 ^ (B + C) := by rw [Nat.pow_succ]; omega
  have q1 : (a.num * b.den).natAbs < 2 ^ (B + C) := by
    rw [Int.natAbs_mul]
    exact mul_lt_pow h1.num (by simpa using h2.den)
  have q2 : (b.num * a.den).natAbs < 2 ^ (B + C) := by
    rw [Int.natAbs_mul, Nat.add_comm]
    exact mul_lt_pow h2.num (by simpa using h1.den)
  have := mul_lt_pow h1.den h2.den
  exact Sz.mk' (Nat.mul_ne_zero a.den_nz b.den_nz) (by rw [e]; omega) (by rw [e]; omega)
theorem Sz.inv {B : Nat} {a : Rat} (h : Sz B a) (h0 : a ≠ 0) : Sz B a⁻¹ := by
  have e := Rat.inv_def a
  have : a.num ≠ 0 := fun q => h0 (Rat.num_eq_zero.mp q)
  constructor
  · rw [Rat.num_inv]
    have : (a.num.sign * a.den).natAbs = a.den := by
      rw [Int.natAbs_mul, Int.natAbs_sign_of_ne_zero this]
      simp
    rw [this]
    exact h.den
  · rw [Rat.den_inv, if_neg this]
    exact h.num
theorem fr_inv {a : Rat} (h0 : a ≠ 0) : fr a⁻¹ = if 0 < a.num then .tup [.int a.den, .int a.num] else .tup [.int (0 - a.den), .int (0 - a.num)] := by
  have hn : a.num ≠ 0 := fun q => h0 (Rat.num_eq_zero.mp q)
  unfold fr
  rw [Rat.num_inv, Rat.den_inv, if_neg hn]
  by_cases h : 0 < a.num
  · rw [if_pos h, Int.sign_eq_one_of_pos h, Int.one_mul]
    congr 3
    congr 1
    omega
  · rw [if_neg h, Int.sign_eq_neg_one_of_neg (by omega)]
    congr 2
    · congr 1
      omega
    · congr 2
      omega
def sumN : Nat → (Nat → Rat) → Rat
  | 0, _ => 0
  | n + 1, g => sumN n g + g n
theorem sumN_congr {n : Nat} {f g : Nat → Rat} (h : ∀ j, j < n → f j = g j) : sumN n f = sumN n g := by
  induction n with
  | zero => rfl
  | succ n ih => simp only [sumN]; rw [ih fun j hj => h j (by omega), h n (by omega)]
theorem sumN_sub (n : Nat) (f g : Nat → Rat) (c : Rat) : sumN n (fun j => f j - c * g j) = sumN n f - c * sumN n g := by
  induction n with
  | zero => simp only [sumN]; grind
  | succ n ih => simp only [sumN]; rw [ih]; grind
theorem sumN_mul (n : Nat) (f : Nat → Rat) (c : Rat) : sumN n (fun j => c * f j) = c * sumN n f := by
  induction n with
  | zero => simp [sumN]
  | succ n ih => simp only [sumN]; rw [ih]; grind
theorem sumN_zero (n : Nat) : sumN n (fun _ => 0) = 0 := by
  induction n with
  | zero => rfl
  | succ n ih => simp only [sumN]; rw [ih]; grind
/-- one term alone -/
theorem sumN_one (n i : Nat) (f : Nat → Rat) (h : i < n) (h0 : ∀ j, j < n → j ≠ i → f j = 0) : sumN n f = f i := by
  induction n with
  | zero => omega
  | succ n ih =>
    simp only [sumN]
    by_cases q : i = n
    · subst q
      rw [sumN_congr (g := fun _ => 0) fun j hj => h0 j (by omega) (by omega), sumN_zero]
      grind
    · rw [ih (by omega) fun j hj => h0 j (by omega), h0 n (by omega) (by omega)]
      grind
def dot (w : Nat) (f v : Nat → Rat) : Rat := sumN w fun j => f j * v j
def Sol (k w : Nat) (T : Nat → Nat → Rat) (v : Nat → Rat) : Prop := ∀ i, i < k → dot w (T i) v = 0
theorem dot_smul (w : Nat) (f v : Nat → Rat) (c : Rat) : dot w (fun j => c * f j) v = c * dot w f v := by
  unfold dot
  rw [← sumN_mul]
  exact sumN_congr fun j _ => by grind
theorem dot_sub (w : Nat) (f g v : Nat → Rat) (c : Rat) : dot w (fun j => f j - c * g j) v = dot w f v - c * dot w g v := by
  unfold dot
  rw [← sumN_sub]
  exact sumN_congr fun j _ => by grind
def swapT (T : Nat → Nat → Rat) (a b : Nat) : Nat → Nat → Rat := fun i => if i = b then T a else if i = a then T b else T i
def scaleT (T : Nat → Nat → Rat) (a : Nat) (c : Rat) : Nat → Nat → Rat := fun i => if i = a then fun j => c * T a j else T i
def elimT (T : Nat → Nat → Rat) (a : Nat) : Nat → Nat → Rat := fun i => if i = a then T i else fun j => T i j - T i a * T a j
theorem sol_swap {k w : Nat} {T : Nat → Nat → Rat} {a b : Nat} {v : Nat → Rat} (ha : a < k) (hb : b < k) (h : Sol k w (swapT T a b) v) : Sol k w T v := by
  intro i hi
  by_cases e1 : i = a
  · subst e1
    simpa [swapT] using h b hb
  · by_cases e2 : i = b
    · subst e2
      have := h a ha
      unfold swapT at this
      by_cases e3 : a = i
      · exact absurd e3.symm e1
      · simpa [e3] using this
    · have := h i hi
      simpa [swapT, e1, e2] using this
theorem sol_scale {k w : Nat} {T : Nat → Nat → Rat} {a : Nat} {c : Rat} {v : Nat → Rat} (ha : a < k) (hc : c ≠ 0) (h : Sol k w (scaleT T a c) v) : Sol k w T v := by
  intro i hi
  by_cases e1 : i = a
  · subst e1
    have := h i hi
    simp only [scaleT, if_true] at this
    rw [dot_smul] at this
    rcases Rat.mul_eq_zero.mp this with q | q
    · exact absurd q hc
    · exact q
  · have := h i hi
    simpa [scaleT, e1] using this
theorem sol_elim {k w : Nat} {T : Nat → Nat → Rat} {a : Nat} {v : Nat → Rat} (ha : a < k) (h : Sol k w (elimT T a) v) : Sol k w T v := by
  have h1 : dot w (T a) v = 0 := by
    have := h a ha
    simpa [elimT] using this
  intro i hi
  by_cases e1 : i = a
  · subst e1
    exact h1
  · have := h i hi
    simp only [elimT, if_neg e1] at this
    rw [dot_sub, h1] at this
    grind
/-- a pivot -/
theorem pivot {k : Nat} {T : Nat → Nat → Rat} {n : Nat} (hn : n < k) (hu : ∀ i, i < k → ∀ j, j < n → T i j = if i = j then 1 else 0)
    (inj : ∀ v : Nat → Rat, v k = 0 → Sol k (k + 1) T v → ∀ j, j < k → v j = 0) : ∃ d, d < k - n ∧ T (n + d) n ≠ 0 := by
  by_cases hh : ∃ d, d < k - n ∧ T (n + d) n ≠ 0
  · exact hh
  · exfalso
    have z : ∀ i, n ≤ i → i < k → T i n = 0 := fun i h1 h2 => by
      by_cases q : T i n = 0
      · exact q
      · exact absurd ⟨i - n, by omega, by rw [show n + (i - n) = i by omega]; exact q⟩ hh
    have := inj (fun j => if j < n then T j n else if j = n then -1 else 0) (by rw [if_neg (by omega), if_neg (by omega)]) (fun i hi => by
      unfold dot
      by_cases e : i < n
      · -- two terms
        have e2 : ∀ m, n < m → m ≤ k + 1 → sumN m (fun j => T i j * (if j < n then T j n else if j = n then -1 else 0)) = 0 := by
          intro m
          induction m with
          | zero => omega
          | succ m ih =>
            intro h1 h2
            simp only [sumN]
            by_cases q : n = m
            · subst q
              rw [sumN_one n i _ e fun j hj hne => by rw [hu i hi j hj, if_neg (Ne.symm hne)]; grind]
              rw [hu i hi i e]
              simp [e]
              grind
            · rw [ih (by omega) (by omega), if_neg (by omega), if_neg (by omega)]
              grind
        exact e2 (k + 1) (by omega) (by omega)
      · rw [sumN_congr (g := fun _ => 0) fun j hj => ?_, sumN_zero]
        by_cases q : j < n
        · rw [hu i hi j q, if_neg (by omega)]
          grind
        · by_cases q2 : j = n
          · subst q2
            rw [z i (by omega) hi]
            grind
          · dsimp only
            rw [if_neg q, if_neg q2]
            grind) n hn
    simp at this
    grind
end Dl
end

/-! ## SolveE -/
section
set_option Elab.async false
set_option linter.all false
set_option maxRecDepth 100000
set_option maxHeartbeats 2000000
/-! The elimination, evaluated. -/
namespace Dl
open PySem L2
theorem rgD_nat (i n : Nat) : rgD (i : Int) n = (List.range n).map fun (d : Nat) => D.int ((i + d : Nat) : Int) := by
  unfold rgD
  exact List.map_congr_left fun d _ => by rw [Int.natCast_add]
theorem rgD_zero (n : Nat) : rgD 0 n = (List.range n).map fun (d : Nat) => D.int (d : Int) := by
  have := rgD_nat 0 n
  simpa using this
theorem range_split {k : Nat} {pre post : List Nat} {x : Nat} (h : List.range k = pre ++ x :: post) : x = pre.length ∧ x < k := by
  have h1 : pre.length < (List.range k).length := by rw [h]; simp
  have h2 : (List.range k)[pre.length]? = some x := by rw [h]; simp
  rw [List.length_range] at h1
  rw [List.getElem?_range h1] at h2
  simp at h2
  omega
def rowD (w : Nat) (f : Nat → Rat) : D := .lst ((List.range w).map fun j => fr (f j))
def tabD (k w : Nat) (T : Nat → Nat → Rat) : List D := (List.range k).map fun i => rowD w (T i)
@[simp] theorem tabD_length (k w T) : (tabD k w T).length = k := by simp [tabD]
theorem tabD_get {k w : Nat} {T : Nat → Nat → Rat} {i : Nat} (h : i < k) : (tabD k w T)[i]? = some (rowD w (T i)) := by simp [tabD, h]
theorem tabD_set {k w : Nat} {T : Nat → Nat → Rat} {i : Nat} {f : Nat → Rat} : (tabD k w T).set i (rowD w f) = tabD k w (fun j => if j = i then f else T j) := by
  apply List.ext_getElem?
  intro j
  rw [List.getElem?_set]
  by_cases h : j < k
  · by_cases e : i = j
    · subst e
      rw [if_pos rfl, tabD_get h]
      simp [h]
    · rw [if_neg e, tabD_get h, tabD_get h, if_neg (Ne.symm e)]
  · have z : ∀ T', (tabD k w T')[j]? = none := fun T' => by simp [tabD]; omega
    rw [z, z]
    split
    · split
      · rename_i h1 h2
        simp at h2
        omega
      · rfl
    · rfl
theorem tabD_congr {k w : Nat} {T U : Nat → Nat → Rat} (h : ∀ i, i < k → T i = U i) : tabD k w T = tabD k w U := by
  unfold tabD
  exact List.map_congr_left fun i hi => by rw [h i (by simpa using hi)]
theorem ixN_nat {n i : Nat} (h : i < n) : ixN n (i : Int) = some i := by
  unfold ixN
  simp [h]
theorem oIx_row {w : Nat} {f : Nat → Rat} {j : Nat} (h : j < w) : oIx (rowD w f) (.int (j : Int)) = some (fr (f j)) := by
  unfold rowD
  rw [oIx_l, atI_nat]
  simp [h]
theorem atI_tab {k w : Nat} {T : Nat → Nat → Rat} {i : Nat} (h : i < k) : atI (tabD k w T) (i : Int) = some (rowD w (T i)) := by
  rw [atI_nat, tabD_get h]
theorem gNm_fr {i : Nat} {s : S} (a : Rat) (j : Nat) : gTp [gNm i, gNm j] (fr a) s = gAll [gNm i, gNm j] [.int a.num, .int a.den] s := rfl
section
variable {k : Nat} {T : Nat → Nat → Rat} {B : Nat} {L : D} {n : Nat} {j3 j5 j6 j7 j8 j9 j10 j11 j12 : Option A}
/-- the state of the elimination -/
def sv (k : Nat) (L : D) (T : Nat → Nat → Rat) (j3 j4 j5 j6 j7 j8 j9 j10 j11 j12 : Option A) : S :=
  ⟨[some (.d L), some (.own (tabD k (k + 1) T)), some (.d (.int k)), j3, j4, j5, j6, j7, j8, j9, j10, j11, j12], .no⟩
/-- the pivot's row -/
theorem sv_lead (hk : k ≤ 3) (hn : n < k) (h6 : nj j6 = true) (hp : ∃ d, d < k - n ∧ T (n + d) n ≠ 0) :
    ∃ l, n ≤ l ∧ l < k ∧ T l n ≠ 0 ∧ sAsg (gNm 5) (xBin oIx (xFrz (rComp (iRange2 (xVar 4) (xVar 2)) (gNm 6) (tBin oNe (xBin oIx (vIx 1 (xVar 6)) (xVar 4)) (xC d_ZERO)) (xVar 6) [6])) (xC (.int 0)))
      (sv k L T j3 (some (.d (.int n))) j5 j6 j7 j8 j9 j10 j11 j12) = some (.nx (sv k L T j3 (some (.d (.int n))) (some (.d (.int l))) j6 j7 j8 j9 j10 j11 j12)) := by
  have z0 : d_ZERO = fr 0 := rfl
  have hc := rComp_flt (src := iRange2 (xVar 4) (xVar 2)) (tg := gNm 6) (t := tBin oNe (xBin oIx (vIx 1 (xVar 6)) (xVar 4)) (xC d_ZERO)) (e := xVar 6) (vs := [6])
    (s := sv k L T j3 (some (.d (.int n))) j5 j6 j7 j8 j9 j10 j11 j12) (s1 := sv k L T j3 (some (.d (.int n))) j5 j6 j7 j8 j9 j10 j11 j12)
    (List.range (k - n)) (fun d => .int ((n + d : Nat) : Int)) (fun d => !decide (T (n + d) n = 0)) (fun d => .int ((n + d : Nat) : Int))
    (by
      have e1 : ((k : Int) - (n : Int)).toNat = k - n := by omega
      have e2 : ((n : Int) ≤ 1000 ∧ -1000 ≤ (n : Int)) ∧ (k : Int) ≤ 1000 ∧ -1000 ≤ (k : Int) := by omega
      simp [sv, e2, e1, rgD_nat])
    (by simp [sv, h6]) (by simp [sv]) (by
      intro d hd
      have hd : n + d < k := by have := List.mem_range.mp hd; omega
      refine ⟨sv k L T j3 (some (.d (.int n))) j5 (some (.d (.int ((n + d : Nat) : Int)))) j7 j8 j9 j10 j11 j12, by simp [sv], by simp [sv], ?_, fun _ => by simp [sv]⟩
      have := atI_tab (T := T) (w := k + 1) hd
      have q := oIx_row (w := k + 1) (f := T (n + d)) (j := n) (by omega)
      simp [sv, -Int.natCast_add, -atI_nat, this, q, z0, oNe_fr])
  obtain ⟨d, hd, hne⟩ := hp
  cases e : (List.range (k - n)).filter (fun d => !decide (T (n + d) n = 0)) with
  | nil =>
    have := List.filter_eq_nil_iff.mp e d (by simpa using hd)
    simp [hne] at this
  | cons a r =>
    have ha : a ∈ (List.range (k - n)).filter (fun d => !decide (T (n + d) n = 0)) := by rw [e]; simp
    rw [List.mem_filter] at ha
    obtain ⟨h1, h2⟩ := ha
    have h1 := List.mem_range.mp h1
    refine ⟨n + a, by omega, by omega, by simpa using h2, ?_⟩
    rw [e] at hc
    rw [sAsg_ap, xBin_ap, xFrz_ap, hc]
    simp [sv]
theorem sv_swap (hn : n < k) {l : Nat} (hl : l < k) :
    sAsg (gTp [(gIx 1 (xVar 4)), (gIx 1 (xVar 5))]) (xTup [(vIx 1 (xVar 5)), (vIx 1 (xVar 4))]) (sv k L T j3 (some (.d (.int n))) (some (.d (.int l))) j6 j7 j8 j9 j10 j11 j12)
      = some (.nx (sv k L (swapT T n l) j3 (some (.d (.int n))) (some (.d (.int l))) j6 j7 j8 j9 j10 j11 j12)) := by
  have e1 := tabD_get (T := T) (w := k + 1) hl
  have e2 := tabD_get (T := T) (w := k + 1) hn
  simp [sv, e1, e2, ixN_nat hn, ixN_nat hl, tabD_set]
  exact tabD_congr fun i hi => by
    funext j
    unfold swapT
    by_cases q1 : i = l <;> by_cases q2 : i = n <;> simp [q1, q2]
theorem sv_top (hn : n < k) {l : D} :
    sAsg (gTp [(gNm 7), (gNm 8)]) (xBin oIx (vIx 1 (xVar 4)) (xVar 4)) (sv k L T j3 (some (.d (.int n))) j5 j6 j7 j8 j9 j10 j11 j12)
      = some (.nx (sv k L T j3 (some (.d (.int n))) j5 j6 (some (.d (.int (T n n).num))) (some (.d (.int (T n n).den))) j9 j10 j11 j12)) := by
  have e1 := tabD_get (T := T) (w := k + 1) hn
  have e2 := oIx_row (w := k + 1) (f := T n) (j := n) (by omega)
  simp [sv, e1, e2, gNm_fr]
theorem sv_factor (h0 : T n n ≠ 0) :
    sAsg (gNm 9) (xIf (tBin oGt (xVar 7) (xC (.int 0))) (xTup [(xVar 8), (xVar 7)]) (xTup [(xBin oSub (xC (.int 0)) (xVar 8)), (xBin oSub (xC (.int 0)) (xVar 7))]))
      (sv k L T j3 (some (.d (.int n))) j5 j6 (some (.d (.int (T n n).num))) (some (.d (.int (T n n).den))) j9 j10 j11 j12)
      = some (.nx (sv k L T j3 (some (.d (.int n))) j5 j6 (some (.d (.int (T n n).num))) (some (.d (.int (T n n).den))) (some (.d (fr (T n n)⁻¹))) j10 j11 j12)) := by
  rw [fr_inv h0]
  by_cases q : 0 < (T n n).num <;> simp [sv, q]
theorem sv_scale (hn : n < k) (hB : 4 * B + 1 ≤ 8000) (h10 : nj j10 = true) (hz : ∀ j, j < k + 1 → Sz B (T n j)) {c : Rat} (hc : Sz B c) :
    sAsg (gIx 1 (xVar 4)) (xFrz (rComp (iLst (vIx 1 (xVar 4))) (gNm 10) (mRet true) (xCall F_times [(xVar 9), (xVar 10)]) [10])) (sv k L T j3 (some (.d (.int n))) j5 j6 j7 j8 (some (.d (fr c))) j10 j11 j12)
      = some (.nx (sv k L (scaleT T n c) j3 (some (.d (.int n))) j5 j6 j7 j8 (some (.d (fr c))) j10 j11 j12)) := by
  have e1 := tabD_get (T := T) (w := k + 1) hn
  have hc := rComp_map (src := iLst (vIx 1 (xVar 4))) (tg := gNm 10) (e := xCall F_times [(xVar 9), (xVar 10)]) (vs := [10])
    (s := sv k L T j3 (some (.d (.int n))) j5 j6 j7 j8 (some (.d (fr c))) j10 j11 j12) (s1 := sv k L T j3 (some (.d (.int n))) j5 j6 j7 j8 (some (.d (fr c))) j10 j11 j12)
    (List.range (k + 1)) (fun j => fr (T n j)) (fun j => fr (c * T n j))
    (by simp [sv, e1, rowD])
    (by simp [sv, h10]) (by simp [sv]) (by
      intro j hj
      have hj := List.mem_range.mp hj
      refine ⟨sv k L T j3 (some (.d (.int n))) j5 j6 j7 j8 (some (.d (fr c))) (some (.d (fr (T n j)))) j11 j12, by simp [sv], by simp [sv], ?_⟩
      have := times_ok hc (hz j hj) (by omega)
      simp [sv, this])
  rw [sAsg_ap, xFrz_ap, hc]
  have e3 : D.lst ((List.range (k + 1)).map fun j => fr (c * T n j)) = rowD (k + 1) (fun j => c * T n j) := rfl
  simp [sv, ixN_nat hn, e3, tabD_set]
  exact tabD_congr fun i hi => by
    funext j
    unfold scaleT
    by_cases q1 : i = n <;> simp [q1]
end
end Dl
end

/-! ## SolveF -/
section
set_option Elab.async false
set_option linter.all false
set_option maxRecDepth 100000
set_option maxHeartbeats 2000000
/-! The elimination, evaluated: the whole. -/
namespace Dl
open PySem L2
theorem sv_congr {k : Nat} {L : D} {T U : Nat → Nat → Rat} {j3 j4 j5 j6 j7 j8 j9 j10 j11 j12 : Option A} (h : ∀ i, i < k → T i = U i) :
    sv k L T j3 j4 j5 j6 j7 j8 j9 j10 j11 j12 = sv k L U j3 j4 j5 j6 j7 j8 j9 j10 j11 j12 := by
  unfold sv
  rw [tabD_congr h]
def elim1 (U : Nat → Nat → Rat) (n m : Nat) : Nat → Nat → Rat := fun i => if i = m then (if m = n then U m else fun j => U m j - U m n * U n j) else U i
section
variable {k : Nat} {T : Nat → Nat → Rat} {B : Nat} {L : D} {n m : Nat} {j3 j5 j6 j7 j8 j9 j10 j11 j12 : Option A}
theorem sv_elim (hn : n < k) (hm : m < k) (hB : 6 * B + 1 ≤ 8000) (h11 : nj j11 = true) (h12 : nj j12 = true)
    (hz1 : ∀ j, j < k + 1 → Sz (2 * B) (T n j)) (hz2 : m ≠ n → ∀ j, j < k + 1 → Sz B (T m j)) :
    (sSeq (sAsg (gNm 10) (xBin oIx (vIx 1 (xVar 6)) (xVar 4))) (sIf (tAnd (tBin oNe (xVar 6) (xVar 4)) (tBin oNe (xVar 10) (xC d_ZERO))) (sAsg (gIx 1 (xVar 6)) (xFrz (rComp (iZip (vIx 1 (xVar 6)) (vIx 1 (xVar 4))) (gTp [(gNm 11), (gNm 12)]) (mRet true) (xCall F_less [(xVar 11), (xCall F_times [(xVar 10), (xVar 12)])]) [11, 12]))) sNx))
      (sv k L T j3 (some (.d (.int n))) j5 (some (.d (.int m))) j7 j8 j9 j10 j11 j12)
      = some (.nx (sv k L (elim1 T n m) j3 (some (.d (.int n))) j5 (some (.d (.int m))) j7 j8 j9 (some (.d (fr (T m n)))) j11 j12)) := by
  have z0 : d_ZERO = fr 0 := rfl
  have e1 := tabD_get (T := T) (w := k + 1) hn
  have e2 := tabD_get (T := T) (w := k + 1) hm
  have e3 := oIx_row (w := k + 1) (f := T m) (j := n) (by omega)
  refine sSeq_nx (s' := sv k L T j3 (some (.d (.int n))) j5 (some (.d (.int m))) j7 j8 j9 (some (.d (fr (T m n)))) j11 j12) (by simp [sv, e2, e3]) ?_
  by_cases q1 : m = n
  · subst q1
    simp [sv, oNe_i]
    exact tabD_congr fun i hi => by
      by_cases q : i = m <;> simp [elim1, q]
  · by_cases q2 : T m n = 0
    · have q3 : (m : Int) ≠ (n : Int) := by omega
      simp [sv, oNe_i, q3, z0, oNe_fr, q2]
      exact tabD_congr fun i hi => by
        by_cases q : i = m
        · subst q
          simp [elim1, q1, q2]
          funext j
          grind
        · simp [elim1, q]
    · have q3 : (m : Int) ≠ (n : Int) := by omega
      have hc := rComp_map (src := iZip (vIx 1 (xVar 6)) (vIx 1 (xVar 4))) (tg := gTp [(gNm 11), (gNm 12)]) (e := xCall F_less [(xVar 11), (xCall F_times [(xVar 10), (xVar 12)])]) (vs := [11, 12])
        (s := sv k L T j3 (some (.d (.int n))) j5 (some (.d (.int m))) j7 j8 j9 (some (.d (fr (T m n)))) j11 j12) (s1 := sv k L T j3 (some (.d (.int n))) j5 (some (.d (.int m))) j7 j8 j9 (some (.d (fr (T m n)))) j11 j12)
        (List.range (k + 1)) (fun j => .tup [fr (T m j), fr (T n j)]) (fun j => fr (T m j - T m n * T n j))
        (by
          simp only [sv, iZip_ap, vIx_ap, getA_mk, gx_0, gx_1, xVar_ap, mLift_some', oIx_l, atI_nat, e1, e2, Option.isSome_some, if_true]
          simp [rowD, List.zip_map', List.map_map, Function.comp_def])
        (by simp [sv, h11, h12]) (by simp [sv]) (by
          intro j hj
          have hj := List.mem_range.mp hj
          refine ⟨sv k L T j3 (some (.d (.int n))) j5 (some (.d (.int m))) j7 j8 j9 (some (.d (fr (T m n)))) (some (.d (fr (T m j)))) (some (.d (fr (T n j)))), by simp [sv], by simp [sv], ?_⟩
          have s1 : Sz (2 * B) (T m n) := (hz2 q1 n (by omega)).mono (by omega)
          have t1 := times_ok s1 (hz1 j hj) (by omega)
          have s2 : Sz (3 * B) (T m n * T n j) := ((hz2 q1 n (by omega)).mul2 (hz1 j hj)).mono (by omega)
          have s3 : Sz (3 * B) (T m j) := (hz2 q1 j hj).mono (by omega)
          have t2 := less_ok s3 s2 (by omega)
          simp [sv, t1, t2])
      have e4 : D.lst ((List.range (k + 1)).map fun j => fr (T m j - T m n * T n j)) = rowD (k + 1) (fun j => T m j - T m n * T n j) := rfl
      refine sIf_t (s' := sv k L T j3 (some (.d (.int n))) j5 (some (.d (.int m))) j7 j8 j9 (some (.d (fr (T m n)))) j11 j12) (by simp [sv, oNe_i, q3, z0, oNe_fr, q2]) ?_
      refine sAsg_of (xFrz_f hc) ?_
      simp [sv, e4, ixN_nat hm, tabD_set]
      exact tabD_congr fun i hi => by
        by_cases q : i = m
        · subst q
          simp [elim1, q1]
        · simp [elim1, q]
/-- the inner loop -/
theorem sv_inner (hk : k ≤ 3) (hn : n < k) (hB : 6 * B + 1 ≤ 8000) (h11 : nj j11 = true) (h12 : nj j12 = true) (h6 : nj j6 = true) (h10 : nj j10 = true)
    (hz1 : ∀ j, j < k + 1 → Sz (2 * B) (T n j)) (hz2 : ∀ m, m < k → m ≠ n → ∀ j, j < k + 1 → Sz B (T m j)) :
    ∃ i6 i10, nj i6 = true ∧ nj i10 = true ∧ (sFor (iRange1 (xVar 2)) (gNm 6) (sSeq (sAsg (gNm 10) (xBin oIx (vIx 1 (xVar 6)) (xVar 4))) (sIf (tAnd (tBin oNe (xVar 6) (xVar 4)) (tBin oNe (xVar 10) (xC d_ZERO))) (sAsg (gIx 1 (xVar 6)) (xFrz (rComp (iZip (vIx 1 (xVar 6)) (vIx 1 (xVar 4))) (gTp [(gNm 11), (gNm 12)]) (mRet true) (xCall F_less [(xVar 11), (xCall F_times [(xVar 10), (xVar 12)])]) [11, 12]))) sNx)))
      (sv k L T j3 (some (.d (.int n))) j5 j6 j7 j8 j9 j10 j11 j12)
      = some (.nx (sv k L (elimT T n) j3 (some (.d (.int n))) j5 i6 j7 j8 j9 i10 j11 j12)) := by
  have hs : ∀ j6 j10, iRange1 (xVar 2) (sv k L T j3 (some (.d (.int n))) j5 j6 j7 j8 j9 j10 j11 j12) = some ((List.range k).map (fun (d : Nat) => D.int (d : Int)), sv k L T j3 (some (.d (.int n))) j5 j6 j7 j8 j9 j10 j11 j12) := by
    intro j6 j10
    have e2 : (k : Int) ≤ 1000 ∧ -1000 ≤ (k : Int) := by omega
    simp [sv, e2, rgD_zero]
  obtain ⟨s', h1, h2⟩ := forLoop_pre (tg := gNm 6) (b := (sSeq (sAsg (gNm 10) (xBin oIx (vIx 1 (xVar 6)) (xVar 4))) (sIf (tAnd (tBin oNe (xVar 6) (xVar 4)) (tBin oNe (xVar 10) (xC d_ZERO))) (sAsg (gIx 1 (xVar 6)) (xFrz (rComp (iZip (vIx 1 (xVar 6)) (vIx 1 (xVar 4))) (gTp [(gNm 11), (gNm 12)]) (mRet true) (xCall F_less [(xVar 11), (xCall F_times [(xVar 10), (xVar 12)])]) [11, 12]))) sNx)))
    (fun (d : Nat) => D.int (d : Int)) (fun pre s => ∃ j6 j10, nj j6 = true ∧ nj j10 = true ∧ s = sv k L (fun i => if i < pre.length then elimT T n i else T i) j3 (some (.d (.int n))) j5 j6 j7 j8 j9 j10 j11 j12) (List.range k)
    (by
      rintro pre x post s hx ⟨j6, j10, h6, h10, rfl⟩
      obtain ⟨rfl, hx⟩ := range_split hx
      refine ⟨_, _, by simp [sv]; rfl, sv_elim (T := fun i => if i < pre.length then elimT T n i else T i) hn hx hB h11 h12 ?_ ?_, some (.d (.int pre.length)), _, rfl, rfl, sv_congr fun i hi => ?_⟩
      · intro j hj
        by_cases q : n < pre.length
        · simpa [q, elimT] using hz1 j hj
        · simpa [q] using hz1 j hj
      · intro q j hj
        simpa using hz2 pre.length hx q j hj
      · funext j
        unfold elim1
        by_cases q : i = pre.length
        · subst q
          by_cases q2 : pre.length = n
          · subst q2
            simp [elimT]
          · have : (if n < pre.length then elimT T n n else T n) = T n := by split <;> simp [elimT]
            simp [q2, elimT, this]
        · have : (i < pre.length + 1) = (i < pre.length) := by simp; omega
          simp [q, this])
    (s := sv k L T j3 (some (.d (.int n))) j5 j6 j7 j8 j9 j10 j11 j12) ⟨j6, j10, h6, h10, sv_congr fun i hi => by simp⟩
  obtain ⟨j6', j10', h6', h10', rfl⟩ := h2
  refine ⟨j6', j10', h6', h10', ?_⟩
  rw [sFor_ap, hs]
  dsimp only
  rw [h1]
  congr 2
  exact sv_congr fun i hi => by simp [hi]
end
end Dl
end

/-! ## SolveG -/
section
set_option Elab.async false
set_option linter.all false
set_option maxRecDepth 100000
set_option maxHeartbeats 2000000
/-! The elimination: what it finds. -/
namespace Dl
open PySem L2
def bsz : Nat → Nat
  | 0 => 16
  | n + 1 => 4 * bsz n + 1
/-- n columns done -/
structure Inv (k : Nat) (L : Nat → Nat → Rat) (n : Nat) (T : Nat → Nat → Rat) : Prop where
  sol : ∀ v, Sol k (k + 1) T v → Sol k (k + 1) L v
  unit : ∀ i, i < k → ∀ j, j < n → T i j = if i = j then 1 else 0
  sz : ∀ i, i < k → ∀ j, j < k + 1 → Sz (bsz n) (T i j)
theorem Inv.step {k : Nat} {L T : Nat → Nat → Rat} {n l : Nat} (h : Inv k L n T) (hn : n < k) (hl : l < k) (hnl : n ≤ l) (h0 : T l n ≠ 0) :
    Inv k L (n + 1) (elimT (scaleT (swapT T n l) n (T l n)⁻¹) n) := by
  have hc : (T l n)⁻¹ ≠ 0 := fun q => by
    have := Rat.mul_inv_cancel _ h0
    rw [q] at this
    grind
  have sw : swapT T n l n n = T l n := by
    unfold swapT
    by_cases q : n = l
    · subst q; simp
    · simp [q]
  have su : ∀ i, i < k → ∀ j, j < n → swapT T n l i j = if i = j then 1 else 0 := by
    intro i hi j hj
    unfold swapT
    by_cases q1 : i = l
    · subst q1
      rw [if_pos rfl, h.unit n hn j hj, if_neg (by omega), if_neg (by omega)]
    · rw [if_neg q1]
      by_cases q2 : i = n
      · subst q2
        rw [if_pos rfl, h.unit l hl j hj, if_neg (by omega), if_neg (by omega)]
      · rw [if_neg q2, h.unit i hi j hj]
  have ss : ∀ i, i < k → ∀ j, j < k + 1 → Sz (bsz n) (swapT T n l i j) := by
    intro i hi j hj
    unfold swapT
    by_cases q1 : i = l
    · rw [if_pos q1]; exact h.sz n hn j hj
    · rw [if_neg q1]
      by_cases q2 : i = n
      · rw [if_pos q2]; exact h.sz l hl j hj
      · rw [if_neg q2]; exact h.sz i hi j hj
  have hcs : Sz (bsz n) (T l n)⁻¹ := (h.sz l hl n (by omega)).inv h0
  constructor
  · intro v hv
    exact h.sol v (sol_swap hn hl (sol_scale hn hc (sol_elim hn hv)))
  · intro i hi j hj
    by_cases q1 : i = n
    · subst q1
      simp only [elimT, scaleT, if_true]
      by_cases q2 : j = i
      · subst q2
        rw [sw, if_pos rfl]
        exact Rat.inv_mul_cancel _ h0
      · rw [su i hi j (by omega), if_neg (Ne.symm q2)]
        grind
    · simp only [elimT, scaleT, if_neg q1, if_true]
      by_cases q2 : j = n
      · subst q2
        rw [sw, Rat.inv_mul_cancel _ h0, if_neg q1]
        grind
      · rw [su n hn j (by omega), if_neg (by omega : ¬ n = j), su i hi j (by omega)]
        grind
  · intro i hi j hj
    have a1 : Sz (2 * bsz n) ((T l n)⁻¹ * swapT T n l n j) := hcs.mul (ss n hn j hj)
    by_cases q1 : i = n
    · subst q1
      simp only [elimT, scaleT, if_true]
      exact a1.mono (by simp only [bsz]; omega)
    · simp only [elimT, scaleT, if_neg q1, if_true]
      refine ((ss i hi j hj).sub2 ((ss i hi n (by omega)).mul2 a1)).mono ?_
      simp only [bsz]
      omega
def tabL (k : Nat) (T : Nat → Nat → Rat) : D := .lst (tabD k (k + 1) T)
theorem cutD_from {α : Type} (xs : List α) (k : Nat) (h : k ≤ xs.length) : cutD xs (some (k : Int)) none = xs.drop k := by
  unfold cutD
  rw [HT.sIx_nat, HT.sIx_none, Nat.min_eq_left h]
  exact List.take_of_length_le (by simp)
theorem cutD_to {α : Type} (xs : List α) (k : Nat) (h : k ≤ xs.length) : cutD xs none (some (k : Int)) = xs.take k := by
  unfold cutD
  rw [HT.sIx_nat, HT.sIx_none, Nat.min_eq_left h]
  simp
theorem bsz_le {n : Nat} (h : n ≤ 2) : 6 * bsz n + 1 ≤ 8000 := by
  have : n = 0 ∨ n = 1 ∨ n = 2 := by omega
  rcases this with rfl | rfl | rfl <;> decide
theorem bsz_3 {n : Nat} (h : n ≤ 3) : bsz n ≤ 1045 := by
  have : n = 0 ∨ n = 1 ∨ n = 2 ∨ n = 3 := by omega
  rcases this with rfl | rfl | rfl | rfl <;> decide
theorem solved_ok {k : Nat} (hk : k ≤ 3) (L : Nat → Nat → Rat) (hs : ∀ i, i < k → ∀ j, j < k + 1 → Sz 16 (L i j))
    (inj : ∀ v : Nat → Rat, v k = 0 → Sol k (k + 1) L v → ∀ j, j < k → v j = 0) :
    ∃ x : Nat → Rat, F_solved [tabL k L] = some (.lst ((List.range k).map fun i => .lst [fr (x i)])) ∧ (∀ i, i < k → Sz 1045 (x i)) ∧
      ∀ i, i < k → sumN k (fun j => L i j * x j) = L i k := by
  -- the table
  have h1 := rComp_map (src := iLst (xVar 0)) (tg := gNm 3) (e := xFrz (vList 3)) (vs := [3])
    (s := ⟨start 13 [tabL k L], .no⟩) (s1 := ⟨start 13 [tabL k L], .no⟩)
    (List.range k) (fun i => rowD (k + 1) (L i)) (fun i => rowD (k + 1) (L i))
    (by simp [start, tabL, tabD]) (by simp [start]) (by simp [start]) (by
      intro i hi
      refine ⟨_, by simp [start]; rfl, by simp [start], ?_⟩
      simp [rowD])
  have h2 : sPar 1 2 (rComp (iLst (xVar 0)) (gNm 3) (mRet true) (xFrz (vList 3)) [3]) (rD (vLen 0)) ⟨start 13 [tabL k L], .no⟩
      = some (.nx (sv k (tabL k L) L none none none none none none none none none none)) := by
    rw [sPar_ap, h1]
    simp [start, tabL, sv, tabD]
  -- the loop
  have hr : iRange1 (xVar 2) (sv k (tabL k L) L none none none none none none none none none none) = some ((List.range k).map (fun (d : Nat) => D.int (d : Int)), sv k (tabL k L) L none none none none none none none none none none) := by
    have e2 : (k : Int) ≤ 1000 ∧ -1000 ≤ (k : Int) := by omega
    simp [sv, e2, rgD_zero]
  have body := fun s' => forLoop_pre (tg := gNm 4) (b := (sSeq (sAsg (gNm 5) (xBin oIx (xFrz (rComp (iRange2 (xVar 4) (xVar 2)) (gNm 6) (tBin oNe (xBin oIx (vIx 1 (xVar 6)) (xVar 4)) (xC d_ZERO)) (xVar 6) [6])) (xC (.int 0)))) (sSeq (sAsg (gTp [(gIx 1 (xVar 4)), (gIx 1 (xVar 5))]) (xTup [(vIx 1 (xVar 5)), (vIx 1 (xVar 4))])) (sSeq (sAsg (gTp [(gNm 7), (gNm 8)]) (xBin oIx (vIx 1 (xVar 4)) (xVar 4))) (sSeq (sAsg (gNm 9) (xIf (tBin oGt (xVar 7) (xC (.int 0))) (xTup [(xVar 8), (xVar 7)]) (xTup [(xBin oSub (xC (.int 0)) (xVar 8)), (xBin oSub (xC (.int 0)) (xVar 7))]))) (sSeq (sAsg (gIx 1 (xVar 4)) (xFrz (rComp (iLst (vIx 1 (xVar 4))) (gNm 10) (mRet true) (xCall F_times [(xVar 9), (xVar 10)]) [10]))) (sFor (iRange1 (xVar 2)) (gNm 6) (sSeq (sAsg (gNm 10) (xBin oIx (vIx 1 (xVar 6)) (xVar 4))) (sIf (tAnd (tBin oNe (xVar 6) (xVar 4)) (tBin oNe (xVar 10) (xC d_ZERO))) (sAsg (gIx 1 (xVar 6)) (xFrz (rComp (iZip (vIx 1 (xVar 6)) (vIx 1 (xVar 4))) (gTp [(gNm 11), (gNm 12)]) (mRet true) (xCall F_less [(xVar 11), (xCall F_times [(xVar 10), (xVar 12)])]) [11, 12]))) sNx)))))))))
    (fun (d : Nat) => D.int (d : Int)) (fun pre s => ∃ T j4 j5 j6 j7 j8 j9 j10, nj j6 = true ∧ nj j10 = true ∧ Inv k L pre.length T ∧ s = sv k (tabL k L) T none j4 j5 j6 j7 j8 j9 j10 none none) (List.range k) (s := s')
    (by
      rintro pre n post s hx ⟨T, j4, j5, j6, j7, j8, j9, j10, h6, h10, hI, rfl⟩
      obtain ⟨rfl, hx⟩ := range_split hx
      obtain ⟨d, hd, hne⟩ := pivot hx hI.unit fun v h0 hv => inj v h0 (hI.sol v hv)
      obtain ⟨l, hl1, hl2, hl3, e1⟩ := sv_lead (L := tabL k L) (T := T) (j3 := none) (j5 := j5) (j7 := j7) (j8 := j8) (j9 := j9) (j10 := j10) (j11 := none) (j12 := none) hk hx h6 ⟨d, hd, hne⟩
      have e2 := sv_swap (L := tabL k L) (T := T) (j3 := none) (j6 := j6) (j7 := j7) (j8 := j8) (j9 := j9) (j10 := j10) (j11 := none) (j12 := none) hx hl2
      have sw : swapT T pre.length l pre.length pre.length = T l pre.length := by
        unfold swapT
        by_cases q : pre.length = l
        · rw [if_pos q, ← q]
        · rw [if_neg q, if_pos rfl]
      have e3 := sv_top (L := tabL k L) (T := swapT T pre.length l) (j3 := none) (j5 := some (.d (.int l))) (j6 := j6) (j7 := j7) (j8 := j8) (j9 := j9) (j10 := j10) (j11 := none) (j12 := none) hx (l := .non)
      have e4 := sv_factor (k := k) (L := tabL k L) (T := swapT T pre.length l) (n := pre.length) (j3 := none) (j5 := some (.d (.int l))) (j6 := j6) (j9 := j9) (j10 := j10) (j11 := none) (j12 := none) (by rw [sw]; exact hl3)
      have hB := bsz_le (n := pre.length) (by omega)
      have ss : ∀ i, i < k → ∀ j, j < k + 1 → Sz (bsz pre.length) (swapT T pre.length l i j) := by
        intro i hi j hj
        unfold swapT
        by_cases q1 : i = l
        · rw [if_pos q1]; exact hI.sz pre.length hx j hj
        · rw [if_neg q1]
          by_cases q2 : i = pre.length
          · rw [if_pos q2]; exact hI.sz l hl2 j hj
          · rw [if_neg q2]; exact hI.sz i hi j hj
      have hcs : Sz (bsz pre.length) (T l pre.length)⁻¹ := (hI.sz l hl2 pre.length (by omega)).inv hl3
      have e5 := sv_scale (L := tabL k L) (T := swapT T pre.length l) (j3 := none) (j5 := some (.d (.int l))) (j6 := j6) (j7 := some (.d (.int (swapT T pre.length l pre.length pre.length).num))) (j8 := some (.d (.int (swapT T pre.length l pre.length pre.length).den))) (j10 := j10) (j11 := none) (j12 := none) hx (by omega) h10 (fun j hj => ss pre.length hx j hj) hcs
      obtain ⟨i6, i10, g6, g10, e6⟩ := sv_inner (L := tabL k L) (T := scaleT (swapT T pre.length l) pre.length (T l pre.length)⁻¹) (B := bsz pre.length) (j3 := none) (j5 := some (.d (.int l))) (j6 := j6) (j7 := some (.d (.int (swapT T pre.length l pre.length pre.length).num))) (j8 := some (.d (.int (swapT T pre.length l pre.length pre.length).den))) (j9 := some (.d (fr (T l pre.length)⁻¹))) (j10 := j10) (j11 := none) (j12 := none) hk hx hB rfl rfl h6 h10
        (fun j hj => by
          simp only [scaleT, if_true]
          exact hcs.mul (ss pre.length hx j hj))
        (fun m hm hne j hj => by
          simp only [scaleT, if_neg hne]
          exact ss m hm j hj)
      rw [sw] at e4
      refine ⟨sv k (tabL k L) T none (some (.d (.int pre.length))) j5 j6 j7 j8 j9 j10 none none, _, by simp [sv], sSeq_nx e1 (sSeq_nx e2 (sSeq_nx e3 (sSeq_nx ?_ (sSeq_nx e5 e6)))), ?_⟩
      · rw [sw]
        exact e4
      · exact ⟨_, _, _, _, _, _, _, _, g6, g10, by rw [List.length_append]; exact hI.step hx hl2 hl1 hl3, rfl⟩)
  obtain ⟨s', b1, T, j4, j5, j6, j7, j8, j9, j10, h6, h10, hI, rfl⟩ := body _ ⟨L, none, none, none, none, none, none, none, rfl, rfl, ⟨fun v hv => hv, fun i hi j hj => absurd hj (by simp), hs⟩, rfl⟩
  rw [List.length_range] at hI
  refine ⟨fun i => T i k, ?_, fun i hi => (hI.sz i hi k (by omega)).mono (bsz_3 hk), fun i hi => ?_⟩
  · unfold F_solved
    refine run_of rfl (s := ⟨[some (.d (tabL k L)), some (.d (.lst (tabD k (k + 1) T))), some (.d (.int k)), none, j4, j5, j6, j7, j8, j9, j10, none, none], .no⟩) ?_
    unfold psi_solved
    refine sSeq_nx h2 (sSeq_nx (sFor_of hr b1) (sRet_of (xFrz_f (rComp_map (List.range k) (fun i => rowD (k + 1) (T i)) (fun i => .lst [fr (T i k)]) ?_ ?_ ?_ fun i hi => ?_))))
    · simp [sv, tabD]
    · simp
    · simp
    · refine ⟨_, by simp; rfl, by simp, ?_⟩
      have e : cutD ((List.range (k + 1)).map fun j => fr (T i j)) (some (k : Int)) none = [fr (T i k)] := by
        rw [cutD_from _ _ (by simp), List.range_succ]
        simp
      simp [rowD, e]
  · have sT : Sol k (k + 1) T (fun j => if j = k then -1 else T j k) := by
      intro i hi
      unfold dot
      simp only [sumN]
      rw [sumN_one k i _ hi fun j hj hne => by rw [hI.unit i hi j hj, if_neg (Ne.symm hne)]; grind]
      rw [hI.unit i hi i hi, if_neg (by omega : ¬ i = k)]
      simp
      grind
    have := hI.sol _ sT i hi
    unfold dot at this
    simp only [sumN, if_true] at this
    rw [sumN_congr (g := fun j => L i j * T j k) fun j hj => by rw [if_neg (by omega : ¬ j = k)]] at this
    grind
end Dl
end

/-! ## Web -/
section
set_option Elab.async false
set_option linter.all false
set_option maxRecDepth 100000
set_option maxHeartbeats 2000000
/-! Rows of ends and coins. -/
namespace Dl
open PySem L2
def Nine : List Str := ["a", "a1", "b", "coi", "k9z", "m", "x", "y7", "z"]
theorem nine_ok : ∀ p ∈ Nine, sOk p := by
  unfold sOk
  decide +kernel
def slt (x y : Str) : Prop := x.cps.toList < y.cps.toList
instance (x y : Str) : Decidable (slt x y) := inferInstanceAs (Decidable (x.cps.toList < y.cps.toList))
theorem oLt_s (x y : Str) : oLt (.str x) (.str y) = some (decide (slt x y)) := rfl
theorem oAll_f {β : Type} (xs : List β) (p : β → Bool) : oAll (.lst (xs.map fun x => .bl (p x))) = some (.bl (xs.all p)) := by
  have : (xs.map fun x => D.bl (p x)) = (xs.map p).map .bl := by simp
  rw [this, oAll_m]
  simp [List.all_map]
theorem oAny_f {β : Type} (xs : List β) (p : β → Bool) : oAny (.lst (xs.map fun x => .bl (p x))) = some (.bl (xs.any p)) := by
  have : (xs.map fun x => D.bl (p x)) = (xs.map p).map .bl := by simp
  rw [this, oAny_m]
  simp [List.any_map]
theorem oAll_t {β : Type} (xs : List β) : oAll (.lst (xs.map fun _ => .bl true)) = some (.bl true) := by
  rw [oAll_f xs fun _ => true]
  simp
section
variable (kd : Str → Rat ⊕ List Str)
def isE (p : Str) : Bool := match kd p with
  | .inl _ => true
  | .inr _ => false
def kn (p : Str) : Str := if isE kd p = true then "end" else "coin"
def wt (p : Str) : D := match kd p with
  | .inl q => fr q
  | .inr as => .tup (as.map .str)
def ar (p : Str) : List Str := match kd p with
  | .inl _ => []
  | .inr as => as
def vl (p : Str) : Rat := match kd p with
  | .inl q => q
  | .inr _ => 0
def rwD (p : Str) : D := .tup [.str p, .str (kn kd p), wt kd p]
def rowsD (ps : List Str) : D := .tup (ps.map (rwD kd))
end
theorem sOk_end : sOk "end" := by unfold sOk; decide +kernel
theorem sOk_coin : sOk "coin" := by unfold sOk; decide +kernel
theorem sOk_kn {kd p} : sOk (kn kd p) := by
  unfold kn
  split
  · exact sOk_end
  · exact sOk_coin
theorem sOk_lit : sOk "chance" ∧ sOk "first" ∧ sOk "second" := by unfold sOk; decide +kernel
section
variable {kd : Str → Rat ⊕ List Str} {p : Str}
theorem kn_end : oEq (.str (kn kd p)) (.str "end") = some (isE kd p) := by
  rw [oEq_s sOk_kn sOk_end]
  unfold kn
  cases isE kd p <;> decide +kernel
theorem kn_coin : oEq (.str (kn kd p)) (.str "coin") = some (!isE kd p) := by
  rw [oEq_s sOk_kn sOk_coin]
  unfold kn
  cases isE kd p <;> decide +kernel
theorem kn_chance : oEq (.str (kn kd p)) (.str "chance") = some false := by
  rw [oEq_s sOk_kn sOk_lit.1]
  unfold kn
  cases isE kd p <;> decide +kernel
theorem kn_nend : oNe (.str (kn kd p)) (.str "end") = some (!isE kd p) := by
  unfold oNe
  rw [kn_end]
theorem oIn_2 (x a b : Str) : oIn (.str x) (.tup [.str a, .str b]) = some (decide (x ∈ [a, b])) := oIn_t x [a, b]
theorem kn_in1 : oIn (.str (kn kd p)) (.tup [.str "end", .str "coin"]) = some true := by
  rw [oIn_2]
  unfold kn
  cases isE kd p <;> decide +kernel
theorem kn_in2 : oIn (.str (kn kd p)) (.tup [.str "ours", .str "coin"]) = some (!isE kd p) := by
  rw [oIn_2]
  unfold kn
  cases isE kd p <;> decide +kernel
theorem kn_in3 : oIn (.str (kn kd p)) (.tup [.str "theirs", .str "coin"]) = some (!isE kd p) := by
  rw [oIn_2]
  unfold kn
  cases isE kd p <;> decide +kernel
theorem kn_kinds : oIn (.str (kn kd p)) d_KINDS = some true := by
  show oIn (.str (kn kd p)) (.tup (List.map .str (["end", "chance", "ours", "theirs", "coin"] : List Str))) = _
  rw [oIn_t]
  unfold kn
  cases isE kd p <;> decide +kernel
theorem arrows_of_ok : F_arrows_of [.str (kn kd p), wt kd p] = some (.tup ((ar kd p).map .str)) := by
  unfold F_arrows_of
  rw [runP_2]
  unfold wt ar
  have h1 := kn_end (kd := kd) (p := p)
  have h2 := kn_coin (kd := kd) (p := p)
  unfold isE at h1 h2
  cases h : kd p with
  | inl q =>
    rw [h] at h1 h2
    simp [psi_arrows_of, start, h1]
  | inr as =>
    rw [h] at h1 h2
    simp [psi_arrows_of, start, h1, h2]
theorem is_place_ok : ∀ p ∈ Nine, F_is_place [.str p] = some (.bl true) := by
  unfold Nine
  simp only [List.forall_mem_cons, List.not_mem_nil, false_implies, implies_true, and_true]
  exact ⟨rfl, rfl, rfl, rfl, rfl, rfl, rfl, rfl, rfl⟩
theorem kinds_ok : F_is_one_of [.str (kn kd p), d_KINDS] = some (.bl true) := by
  unfold F_is_one_of
  rw [runP_2]
  simp [psi_is_one_of, start, kn_kinds]
theorem srt_step {xs : List Str} (h : xs.Pairwise slt) {i : Nat} (hi : i + 1 < xs.length) : slt (xs[i]'(by omega)) xs[i + 1] :=
  List.pairwise_iff_getElem.mp h i (i + 1) _ _ (by omega)
theorem are_places_T_ok {xs : List Str} (hl : 1 ≤ xs.length) (hl2 : xs.length ≤ 24) (nm : ∀ p ∈ xs, p ∈ Nine) (st : xs.Pairwise slt) : F_are_places_T [.tup (xs.map .str)] = some (.bl true) := by
  unfold F_are_places_T
  have c1 := rComp_map (src := iTup (xVar 0)) (tg := gNm 1) (e := xCall F_is_place [(xVar 1)]) (vs := [1]) (s := ⟨start 3 [.tup (xs.map .str)], .no⟩) (s1 := ⟨start 3 [.tup (xs.map .str)], .no⟩)
    xs D.str (fun _ => .bl true) (by simp [start]) (by simp [start]) (by simp [start]) (by
      intro p hp
      refine ⟨_, by simp [start]; rfl, by simp [start], ?_⟩
      simp [is_place_ok p (nm p hp)])
  have c2 := rComp_map (src := iRange1 (xBin oSub (vLen 0) (xC (.int 1)))) (tg := gNm 2) (e := xB (tBin oLt (vIx 0 (xVar 2)) (vIx 0 (xBin oAdd (xVar 2) (xC (.int 1)))))) (vs := [2]) (s := ⟨start 3 [.tup (xs.map .str)], .no⟩) (s1 := ⟨start 3 [.tup (xs.map .str)], .no⟩)
    (List.range (xs.length - 1)) (fun (d : Nat) => D.int (d : Int)) (fun _ => .bl true) (by
      have e : ((xs.length : Int) - 1) ≤ 1000 ∧ -1000 ≤ ((xs.length : Int) - 1) := by omega
      have e2 : ((xs.length : Int) - 1).toNat = xs.length - 1 := by omega
      simp [start, e, e2, rgD_zero]) (by simp [start]) (by simp [start]) (by
      intro i hi
      have hi := List.mem_range.mp hi
      refine ⟨_, by simp [start]; rfl, by simp [start], ?_⟩
      have e1 : (xs.map D.str)[i]? = some (.str (xs[i]'(by omega))) := by simp
      have e2 : (xs.map D.str)[i + 1]? = some (.str (xs[i + 1]'(by omega))) := by simp
      have e3 : atI (xs.map D.str) ((i : Int) + 1) = some (.str (xs[i + 1]'(by omega))) := by
        rw [← e2, ← atI_nat]
        rfl
      have := srt_step st (i := i) (by omega)
      simp only [xB_ap, tBin_ap, vIx_ap, getA_mk, gx_0, gx_1, xVar_ap, xBin_ap, xC_ap, mLift_some', oIx_t, atI_nat, e1, e3, oAdd_i, oLt_s, this, decide_true, Option.isSome_some, if_true])
  refine run_of rfl (s := ⟨start 3 [.tup (xs.map .str)], .no⟩) ?_
  unfold psi_are_places_T
  refine sSeq_nx (s' := ⟨start 3 [.tup (xs.map .str)], .no⟩) (sIf_f (s' := ⟨start 3 [.tup (xs.map .str)], .no⟩) ?_ rfl) ?_
  · rw [tNot_ap, tVal_ap, xUn_of (xFrz_f c1) (oAll_t xs)]
    rfl
  · exact sRet_of (xUn_of (xFrz_f c2) (oAll_t _))
theorem are_places_L_ok {xs : List Str} (hl : 1 ≤ xs.length) (hl2 : xs.length ≤ 24) (nm : ∀ p ∈ xs, p ∈ Nine) (st : xs.Pairwise slt) : F_are_places_L [.lst (xs.map .str)] = some (.bl true) := by
  unfold F_are_places_L
  have c1 := rComp_map (src := iLst (xVar 0)) (tg := gNm 1) (e := xCall F_is_place [(xVar 1)]) (vs := [1]) (s := ⟨start 3 [.lst (xs.map .str)], .no⟩) (s1 := ⟨start 3 [.lst (xs.map .str)], .no⟩)
    xs D.str (fun _ => .bl true) (by simp [start]) (by simp [start]) (by simp [start]) (by
      intro p hp
      refine ⟨_, by simp [start]; rfl, by simp [start], ?_⟩
      simp [is_place_ok p (nm p hp)])
  have c2 := rComp_map (src := iRange1 (xBin oSub (vLen 0) (xC (.int 1)))) (tg := gNm 2) (e := xB (tBin oLt (vIx 0 (xVar 2)) (vIx 0 (xBin oAdd (xVar 2) (xC (.int 1)))))) (vs := [2]) (s := ⟨start 3 [.lst (xs.map .str)], .no⟩) (s1 := ⟨start 3 [.lst (xs.map .str)], .no⟩)
    (List.range (xs.length - 1)) (fun (d : Nat) => D.int (d : Int)) (fun _ => .bl true) (by
      have e : ((xs.length : Int) - 1) ≤ 1000 ∧ -1000 ≤ ((xs.length : Int) - 1) := by omega
      have e2 : ((xs.length : Int) - 1).toNat = xs.length - 1 := by omega
      simp [start, e, e2, rgD_zero]) (by simp [start]) (by simp [start]) (by
      intro i hi
      have hi := List.mem_range.mp hi
      refine ⟨_, by simp [start]; rfl, by simp [start], ?_⟩
      have e1 : (xs.map D.str)[i]? = some (.str (xs[i]'(by omega))) := by simp
      have e2 : (xs.map D.str)[i + 1]? = some (.str (xs[i + 1]'(by omega))) := by simp
      have e3 : atI (xs.map D.str) ((i : Int) + 1) = some (.str (xs[i + 1]'(by omega))) := by
        rw [← e2, ← atI_nat]
        rfl
      have := srt_step st (i := i) (by omega)
      simp only [xB_ap, tBin_ap, vIx_ap, getA_mk, gx_0, gx_1, xVar_ap, xBin_ap, xC_ap, mLift_some', oIx_l, atI_nat, e1, e3, oAdd_i, oLt_s, this, decide_true, Option.isSome_some, if_true])
  refine run_of rfl (s := ⟨start 3 [.lst (xs.map .str)], .no⟩) ?_
  unfold psi_are_places_L
  refine sSeq_nx (s' := ⟨start 3 [.lst (xs.map .str)], .no⟩) (sIf_f (s' := ⟨start 3 [.lst (xs.map .str)], .no⟩) ?_ rfl) ?_
  · rw [tNot_ap, tVal_ap, xUn_of (xFrz_f c1) (oAll_t xs)]
    rfl
  · exact sRet_of (xUn_of (xFrz_f c2) (oAll_t _))
end
/-- a web of ends and coins, well made -/
structure Wf (kd : Str → Rat ⊕ List Str) (ps : List Str) : Prop where
  nd : ps.Nodup
  srt : ps.Pairwise slt
  nm : ∀ p ∈ ps, p ∈ Nine
  len1 : 1 ≤ ps.length
  len : ps.length ≤ 24
  arr : ∀ p ∈ ps, ∀ as, kd p = .inr as → 1 ≤ as.length ∧ as.length ≤ 8 ∧ as.Pairwise slt ∧ ∀ a ∈ as, a ∈ ps
  rank : ∃ rk : Str → Nat, ∀ p ∈ ps, rk p < ps.length ∧ (isE kd p = true ∨ ∃ a ∈ ar kd p, rk a < rk p)
section
variable {kd : Str → Rat ⊕ List Str} {ps : List Str}
theorem Wf.ar_mem (w : Wf kd ps) {p a : Str} (hp : p ∈ ps) (h : a ∈ ar kd p) : a ∈ ps := by
  unfold ar at h
  cases e : kd p with
  | inl q => rw [e] at h; simp at h
  | inr as => rw [e] at h; exact (w.arr p hp as e).2.2.2 a h
theorem Wf.ar_len (w : Wf kd ps) {p : Str} (hp : p ∈ ps) : (ar kd p).length ≤ 8 := by
  unfold ar
  cases e : kd p with
  | inl q => simp
  | inr as => exact (w.arr p hp as e).2.1
theorem is_what_ok (w : Wf kd ps) {p : Str} (hp : p ∈ ps) : F_is_what [.str (kn kd p), wt kd p] = some (.bl true) := by
  unfold F_is_what
  rw [runP_2]
  unfold wt
  have h1 := kn_end (kd := kd) (p := p)
  have h2 := kn_coin (kd := kd) (p := p)
  unfold isE at h1 h2
  cases h : kd p with
  | inl q =>
    rw [h] at h1 h2
    simp [psi_is_what, start, h1, is_fraction_ok]
  | inr as =>
    rw [h] at h1 h2
    obtain ⟨a1, a2, a3, a4⟩ := w.arr p hp as h
    have t := are_places_T_ok a1 (by omega) (fun a ha => w.nm a (a4 a ha)) a3
    have b1 : (1 : Int) ≤ as.length := by omega
    have b2 : (as.length : Int) ≤ 8 := by omega
    simp [psi_is_what, start, h1, h2, t, d_MOST_ARROWS, b1, b2]
theorem are_triples_ok (w : Wf kd ps) : F_are_triples [rowsD kd ps] = some (.bl true) := by
  unfold F_are_triples
  have c1 := rComp_map (src := iTup (xVar 0)) (tg := gNm 1) (e := xB (tAnd (tUn oIsTup (xVar 1)) (tBin oEq (vLen 1) (xC (.int 3))))) (vs := [1]) (s := ⟨start 2 [rowsD kd ps], .no⟩) (s1 := ⟨start 2 [rowsD kd ps], .no⟩)
    ps (rwD kd) (fun _ => .bl true) (by simp [start, rowsD]) (by simp [start]) (by simp [start]) (by
      intro p hp
      refine ⟨_, by simp [start]; rfl, by simp [start], ?_⟩
      simp [rwD])
  have c2 := rComp_map (src := iTup (xVar 0)) (tg := gNm 1) (e := vIx 1 (xC (.int 0))) (vs := [1]) (s := ⟨start 2 [rowsD kd ps], .no⟩) (s1 := ⟨start 2 [rowsD kd ps], .no⟩)
    ps (rwD kd) D.str (by simp [start, rowsD]) (by simp [start]) (by simp [start]) (by
      intro p hp
      refine ⟨_, by simp [start]; rfl, by simp [start], ?_⟩
      simp [rwD])
  have t := are_places_L_ok w.len1 w.len w.nm w.srt
  have b1 : (1 : Int) ≤ ps.length := by have := w.len1; omega
  have b2 : (ps.length : Int) ≤ 24 := by have := w.len; omega
  refine run_of rfl (s := ⟨start 2 [rowsD kd ps], .no⟩) ?_
  unfold psi_are_triples
  refine sSeq_nx (s' := ⟨start 2 [rowsD kd ps], .no⟩) (sIf_f (s' := ⟨start 2 [rowsD kd ps], .no⟩) ?_ rfl) ?_
  · simp [start, rowsD, d_MOST_PLACES, b1, b2]
  refine sSeq_nx (s' := ⟨start 2 [rowsD kd ps], .no⟩) (sIf_f (s' := ⟨start 2 [rowsD kd ps], .no⟩) ?_ rfl) ?_
  · rw [tNot_ap, tVal_ap, xUn_of (xFrz_f c1) (oAll_t _)]
    rfl
  · refine sRet_of ?_
    rw [xCall_ap, mAll_cons', xFrz_f c2]
    simp [t]
theorem comp2_out {β γ : Type} {tg : T} {src1 : M (List D)} {tg1 : T} {e : M D} {vs vs1 : List Nat} (enc : β → D) (ys : β → List γ) (enc2 : γ → D) (f : D) {s : S} :
    ∀ (xs : List β), (∀ x ∈ xs, ∃ s2, tg (enc x) s = some s2 ∧ src1 s2 = some ((ys x).map enc2, s2) ∧ wipeS (wipeS s2 vs1) vs = s ∧
      ∀ y ∈ ys x, ∃ s3, tg1 (enc2 y) (wipeS s2 vs1) = some s3 ∧ e s3 = some (f, s3) ∧ wipeS s3 vs1 = wipeS s2 vs1) →
    compOut tg src1 tg1 e vs vs1 (xs.map enc) s = some ((xs.flatMap ys).map (fun _ => f), s)
  | [], _ => rfl
  | x :: r, H => by
    obtain ⟨s2, h1, h2, h3, h4⟩ := H x (by simp)
    have ih := comp2_out enc ys enc2 f r (fun z hz => H z (by simp [hz]))
    have inn : ∀ zs : List γ, (∀ y ∈ zs, y ∈ ys x) → compIn tg1 e vs1 (zs.map enc2) (wipeS s2 vs1) = some (zs.map (fun _ => f), wipeS s2 vs1) := by
      intro zs
      induction zs with
      | nil => intro _; rfl
      | cons z q ihq =>
        intro hz
        obtain ⟨s3, k1, k2, k3⟩ := h4 z (hz z (by simp))
        simp [compIn, k1, k2, k3, ihq fun y hy => hz y (by simp [hy])]
    have := inn (ys x) fun _ h => h
    simp only [List.map_cons, compOut, h1, h2, this, h3, ih]
    simp
theorem are_rows_ok (w : Wf kd ps) : F_are_rows [rowsD kd ps] = some (.bl true) := by
  unfold F_are_rows
  have c1 := rComp_map (src := iTup (xVar 0)) (tg := gNm 1) (e := xB (tAnd (tVal (xCall F_is_one_of [(vIx 1 (xC (.int 1))), (xC d_KINDS)])) (tVal (xCall F_is_what [(vIx 1 (xC (.int 1))), (vIx 1 (xC (.int 2)))])))) (vs := [1]) (s := ⟨start 4 [rowsD kd ps], .no⟩) (s1 := ⟨start 4 [rowsD kd ps], .no⟩)
    ps (rwD kd) (fun _ => .bl true) (by simp [start, rowsD]) (by simp [start]) (by simp [start]) (by
      intro p hp
      refine ⟨_, by simp [start]; rfl, by simp [start], ?_⟩
      simp [rwD, kinds_ok, is_what_ok w hp])
  have c2 := rComp_map (src := iTup (xVar 0)) (tg := gNm 1) (e := vIx 1 (xC (.int 0))) (vs := [1]) (s := ⟨start 4 [rowsD kd ps], .no⟩) (s1 := ⟨start 4 [rowsD kd ps], .no⟩)
    ps (rwD kd) D.str (by simp [start, rowsD]) (by simp [start]) (by simp [start]) (by
      intro p hp
      refine ⟨_, by simp [start]; rfl, by simp [start], ?_⟩
      simp [rwD])
  have c3 := comp2_out (tg := gNm 1) (src1 := iTup (xCall F_arrows_of [(vIx 1 (xC (.int 1))), (vIx 1 (xC (.int 2)))])) (tg1 := gNm 3) (e := xB (vIn (xVar 3) 2)) (vs := [1, 3]) (vs1 := [3])
    (rwD kd) (ar kd) D.str (.bl true) (s := ⟨[some (.d (rowsD kd ps)), none, some (.own (ps.map .str)), none], .no⟩) ps (by
      intro p hp
      refine ⟨_, by simp; rfl, ?_, by simp, ?_⟩
      · simp [rwD, arrows_of_ok]
      · intro a ha
        refine ⟨_, by simp; rfl, ?_, by simp⟩
        simp [w.ar_mem hp ha])
  have fl : (ps.flatMap (ar kd)).length ≤ 1000 := by
    have : ∀ l : List Str, (∀ p ∈ l, p ∈ ps) → (l.flatMap (ar kd)).length ≤ 8 * l.length := by
      intro l
      induction l with
      | nil => intro _; simp
      | cons a r ih =>
        intro h
        have h1 := ih fun p hp => h p (by simp [hp])
        have h2 := w.ar_len (h a (by simp))
        simp only [List.flatMap_cons, List.length_append, List.length_cons]
        omega
    have := this ps fun _ h => h
    have := w.len
    omega
  refine run_of rfl (s := ⟨[some (.d (rowsD kd ps)), none, some (.own (ps.map .str)), none], .no⟩) ?_
  unfold psi_are_rows
  refine sSeq_nx (s' := ⟨start 4 [rowsD kd ps], .no⟩) (sIf_f (s' := ⟨start 4 [rowsD kd ps], .no⟩) ?_ rfl) ?_
  · have a := xUn_of (xFrz_f c1) (oAll_t _)
    simp [a, are_triples_ok w, start]
    simp [start] at a
    simp [a]
  refine sSeq_nx (s' := ⟨[some (.d (rowsD kd ps)), none, some (.own (ps.map .str)), none], .no⟩) ?_ ?_
  · rw [sSet_of c2 (by simp [start])]
    simp [start]
  · refine sRet_of (xUn_of (xFrz_f ?_) (oAll_t (ps.flatMap (ar kd))))
    unfold rComp2
    rw [mBind_ap]
    simp [rowsD] at c3 ⊢
    simp [c3]
    simpa using fl
end
end Dl
end

/-! ## Web2 -/
section
set_option Elab.async false
set_option linter.all false
set_option maxRecDepth 100000
set_option maxHeartbeats 2000000
/-! The web's own checks. -/
namespace Dl
open PySem L2
section
variable {kd : Str → Rat ⊕ List Str} {ps : List Str}
/-- a list of texts in a slot, its own or told -/
def isL (a : Option A) (l : List Str) : Prop := a = some (.own (l.map .str)) ∨ a = some (.d (.lst (l.map .str)))
theorem isL.len {a : Option A} {l : List Str} {s : S} {i : Nat} (h : isL a l) (hs : getA s i = a) : vLen i s = some (.int l.length, s) := by
  rcases h with rfl | rfl <;> simp only [vLen_ap, hs] <;> simp
theorem isL.mem {a : Option A} {l : List Str} {s : S} {i : Nat} (h : isL a l) (hs : getA s i = a) (x : Str) {e : M D} {s0 : S} (he : e s0 = some (.str x, s)) : vIn e i s0 = some (decide (x ∈ l), s) := by
  rcases h with rfl | rfl <;> simp only [vIn_ap, he, hs] <;> simp
theorem filter_len_le {α : Type} (p : α → Bool) (l : List α) : (l.filter p).length ≤ l.length := List.length_filter_le p l
theorem isL.memv {e : List (Option A)} {g : G} {i j : Nat} {l : List Str} {x : Str} (h : isL (gx e i) l) (hx : gx e j = some (.d (.str x))) : vIn (xVar j) i ⟨e, g⟩ = some (decide (x ∈ l), ⟨e, g⟩) := by
  rcases h with h | h <;> simp [hx, h]
theorem isL.lenv {e : List (Option A)} {g : G} {i : Nat} {l : List Str} (h : isL (gx e i) l) : vLen i ⟨e, g⟩ = some (.int l.length, ⟨e, g⟩) := by
  rcases h with h | h <;> simp [h]
/-- one round of trap_in -/
def trP (kd : Str → Rat ⊕ List Str) (fd : List Str) (p : Str) : Bool := decide (p ∈ fd) && (ar kd p).any fun a => decide (a ∈ fd)
theorem trap_for (w : Wf kd ps) {a1 j3 j5 j6 j7 j8 : Option A} {fd : List Str} (h1 : isL a1 fd) :
    ∃ i5 i6 i7 i8, sFor (iTup (xVar 0)) (gTp [(gNm 5), (gNm 6), (gNm 7)]) (sSeq (sSet 8 (rComp (iTup (xCall F_arrows_of [(xVar 6), (xVar 7)])) (gNm 9) (mRet true) (xB (vIn (xVar 9) 1)) [9])) (sIf (tAnd (vIn (xVar 5) 1) (tIfB (tBin oEq (xVar 6) (xC (.str "chance"))) (tVal (xUn oAll (xVar 8))) (tVal (xUn oAny (xVar 8))))) (sDrop (vApp 4 (xVar 5))) sNx))
      ⟨[some (.d (rowsD kd ps)), a1, none, j3, some (.own []), j5, j6, j7, j8, none], .no⟩
      = some (.nx ⟨[some (.d (rowsD kd ps)), a1, none, j3, some (.own ((ps.filter (trP kd fd)).map .str)), i5, i6, i7, i8, none], .no⟩) := by
  obtain ⟨s', e1, i5, i6, i7, i8, rfl⟩ := forLoop_pre (tg := gTp [(gNm 5), (gNm 6), (gNm 7)]) (b := (sSeq (sSet 8 (rComp (iTup (xCall F_arrows_of [(xVar 6), (xVar 7)])) (gNm 9) (mRet true) (xB (vIn (xVar 9) 1)) [9])) (sIf (tAnd (vIn (xVar 5) 1) (tIfB (tBin oEq (xVar 6) (xC (.str "chance"))) (tVal (xUn oAll (xVar 8))) (tVal (xUn oAny (xVar 8))))) (sDrop (vApp 4 (xVar 5))) sNx)))
    (rwD kd) (fun pre s => ∃ j5 j6 j7 j8, s = ⟨[some (.d (rowsD kd ps)), a1, none, j3, some (.own ((pre.filter (trP kd fd)).map .str)), j5, j6, j7, j8, none], .no⟩) ps
    (s := ⟨[some (.d (rowsD kd ps)), a1, none, j3, some (.own []), j5, j6, j7, j8, none], .no⟩) (by
      rintro pre p post s hx ⟨j5, j6, j7, j8, rfl⟩
      have hp : p ∈ ps := by rw [hx]; simp
      have c := fun j8 => rComp_map (src := iTup (xCall F_arrows_of [(xVar 6), (xVar 7)])) (tg := gNm 9) (e := xB (vIn (xVar 9) 1)) (vs := [9])
        (s := ⟨[some (.d (rowsD kd ps)), a1, none, j3, some (.own ((pre.filter (trP kd fd)).map .str)), some (.d (.str p)), some (.d (.str (kn kd p))), some (.d (wt kd p)), j8, none], .no⟩)
        (s1 := ⟨[some (.d (rowsD kd ps)), a1, none, j3, some (.own ((pre.filter (trP kd fd)).map .str)), some (.d (.str p)), some (.d (.str (kn kd p))), some (.d (wt kd p)), j8, none], .no⟩)
        (ar kd p) D.str (fun a => .bl (decide (a ∈ fd))) (by simp [arrows_of_ok]) (by simp) (by simp) (by
          intro a ha
          refine ⟨_, by simp; rfl, by simp, ?_⟩
          rw [xB_ap, isL.memv (l := fd) (x := a) (by simpa using h1) (by simp)])
      have hlen : (pre.filter (trP kd fd)).length < 1000 := by
        have h1 := filter_len_le (trP kd fd) pre
        have h2 : pre.length ≤ ps.length := by rw [hx]; simp
        have := w.len
        omega
      have hb := oAny_f (ar kd p) fun a => decide (a ∈ fd)
      have hm := fun j8 => isL.memv (e := [some (.d (rowsD kd ps)), a1, none, j3, some (.own ((pre.filter (trP kd fd)).map .str)), some (.d (.str p)), some (.d (.str (kn kd p))), some (.d (wt kd p)), j8, none]) (g := .no) (i := 1) (j := 5) (l := fd) (x := p) (by simpa using h1) (by simp)
      refine ⟨_, ⟨[some (.d (rowsD kd ps)), a1, none, j3, some (.own (((pre ++ [p]).filter (trP kd fd)).map .str)), some (.d (.str p)), some (.d (.str (kn kd p))), some (.d (wt kd p)), if p ∈ fd then some (.d (.lst ((ar kd p).map fun a => .bl (decide (a ∈ fd))))) else some (.own ((ar kd p).map fun a => .bl (decide (a ∈ fd)))), none], .no⟩, by simp [rwD]; rfl, ?_, _, _, _, _, rfl⟩
      refine sSeq_nx (sSet_of (c _) (by simp)) ?_
      rw [List.filter_append, List.map_append]
      simp only [putR_f, setA_mk, sx_0, sx_1]
      by_cases q : p ∈ fd
      · cases q2 : (ar kd p).any (fun a => decide (a ∈ fd)) with
        | true =>
          have q3 : trP kd fd p = true := by unfold trP; rw [q2]; simp [q]
          rw [q2] at hb
          simp only [sIf_ap, tAnd_ap, hm, q, decide_true, tIfB_ap, tBin_ap, xVar_ap, getA_mk, gx_0, gx_1, xC_ap, kn_chance, mLift_some', tVal_ap, xUn_ap, setA_mk, sx_0, sx_1, hb]
          simp [hlen, q3]
        | false =>
          have q3 : trP kd fd p = false := by unfold trP; rw [q2]; simp
          rw [q2] at hb
          simp only [sIf_ap, tAnd_ap, hm, q, decide_true, tIfB_ap, tBin_ap, xVar_ap, getA_mk, gx_0, gx_1, xC_ap, kn_chance, mLift_some', tVal_ap, xUn_ap, setA_mk, sx_0, sx_1, hb]
          simp [q3]
      · have q3 : trP kd fd p = false := by simp [trP, q]
        simp only [sIf_ap, tAnd_ap, hm, q, decide_false]
        simp [q3])
    ⟨j5, j6, j7, j8, rfl⟩
  exact ⟨i5, i6, i7, i8, sFor_of (by simp [rowsD]) e1⟩
theorem trap_ok (w : Wf kd ps) : ∃ t, F_trap_in [rowsD kd ps] = some (.tup t) := by
  unfold F_trap_in
  have c1 := rComp_flt (src := iTup (xVar 0)) (tg := gNm 2) (t := tBin oNe (vIx 2 (xC (.int 1))) (xC (.str "end"))) (e := vIx 2 (xC (.int 0))) (vs := [2]) (s := ⟨start 10 [rowsD kd ps], .no⟩) (s1 := ⟨start 10 [rowsD kd ps], .no⟩)
    ps (rwD kd) (fun p => !isE kd p) D.str (by simp [start, rowsD]) (by simp [start]) (by simp [start]) (by
      intro p hp
      refine ⟨_, by simp [start]; rfl, by simp [start], ?_, fun _ => ?_⟩
      · simp [rwD, kn_nend]
      · simp [rwD])
  obtain ⟨s', k1, a1, fd, hl, j3, j4, j5, j6, j7, j8, rfl⟩ := sWhile_inv (t := tBin oGt (xVar 3) (vLen 1)) (b := (sSeq (sAsg (gNm 3) (vLen 1)) (sSeq (sSet 4 (rLst [])) (sSeq (sFor (iTup (xVar 0)) (gTp [(gNm 5), (gNm 6), (gNm 7)]) (sSeq (sSet 8 (rComp (iTup (xCall F_arrows_of [(xVar 6), (xVar 7)])) (gNm 9) (mRet true) (xB (vIn (xVar 9) 1)) [9])) (sIf (tAnd (vIn (xVar 5) 1) (tIfB (tBin oEq (xVar 6) (xC (.str "chance"))) (tVal (xUn oAll (xVar 8))) (tVal (xUn oAny (xVar 8))))) (sDrop (vApp 4 (xVar 5))) sNx))) (sAsg (gNm 1) (xVar 4))))))
    (fun (m : Nat) s => ∃ a1 fd, isL a1 fd ∧ ∃ j4 j5 j6 j7 j8, s = ⟨[some (.d (rowsD kd ps)), a1, none, some (.d (.int m)), j4, j5, j6, j7, j8, none], .no⟩) (fun m => m)
    (fun s => ∃ a1 fd, isL a1 fd ∧ ∃ j3 j4 j5 j6 j7 j8, s = ⟨[some (.d (rowsD kd ps)), a1, none, j3, j4, j5, j6, j7, j8, none], .no⟩) (by
      rintro m s ⟨a1, fd, hl, j4, j5, j6, j7, j8, rfl⟩
      have t : tBin oGt (xVar 3) (vLen 1) ⟨[some (.d (rowsD kd ps)), a1, none, some (.d (.int m)), j4, j5, j6, j7, j8, none], .no⟩ = some (decide (fd.length < m), ⟨[some (.d (rowsD kd ps)), a1, none, some (.d (.int m)), j4, j5, j6, j7, j8, none], .no⟩) := by
        have := isL.lenv (e := [some (.d (rowsD kd ps)), a1, none, some (.d (.int m)), j4, j5, j6, j7, j8, none]) (g := .no) (i := 1) (l := fd) (by simpa using hl)
        simp only [tBin_ap, xVar_ap, getA_mk, gx_0, gx_1, this, mLift_some', oGt_i]
        simp
      by_cases q : fd.length < m
      · right
        obtain ⟨i5, i6, i7, i8, e⟩ := trap_for w (j3 := some (.d (.int fd.length))) (j5 := j5) (j6 := j6) (j7 := j7) (j8 := j8) hl
        refine ⟨_, _, fd.length, by rw [t]; simp [q]; rfl, ?_, ⟨some (.d (.lst ((ps.filter (trP kd fd)).map .str))), _, .inr rfl, some (.d (.lst ((ps.filter (trP kd fd)).map .str))), i5, i6, i7, i8, rfl⟩, q⟩
        refine sSeq_nx (s' := ⟨[some (.d (rowsD kd ps)), a1, none, some (.d (.int fd.length)), j4, j5, j6, j7, j8, none], .no⟩) ?_ ?_
        · exact sAsg_of (isL.lenv (l := fd) (by simpa using hl)) (by simp)
        · refine sSeq_nx (s' := ⟨[some (.d (rowsD kd ps)), a1, none, some (.d (.int fd.length)), some (.own []), j5, j6, j7, j8, none], .no⟩) (by simp) (sSeq_nx e ?_)
          simp
      · left
        exact ⟨⟨[some (.d (rowsD kd ps)), a1, none, some (.d (.int m)), j4, j5, j6, j7, j8, none], .no⟩, by rw [t]; simp [q], a1, fd, hl, _, _, _, _, _, _, rfl⟩)
    ((ps.filter fun p => !isE kd p).length + 1) ⟨[some (.d (rowsD kd ps)), some (.own ((ps.filter fun p => !isE kd p).map .str)), none, some (.d (.int ((ps.filter fun p => !isE kd p).length + 1 : Nat))), none, none, none, none, none, none], .no⟩ ⟨_, _, .inl rfl, none, none, none, none, none, rfl⟩
  refine ⟨fd.map .str, run_of rfl (s := ⟨[some (.d (rowsD kd ps)), some (.d (.lst (fd.map .str))), none, j3, j4, j5, j6, j7, j8, none], .no⟩) ?_⟩
  unfold psi_trap_in
  refine sSeq_nx (sSet_of c1 (by simp [start])) (sSeq_nx ?_ (sSeq_nx k1 ?_))
  · simp [start]
  · refine sRet_of ?_
    rcases hl with rfl | rfl <;> simp
/-- the places found after t rounds -/
def fnd (kd : Str → Rat ⊕ List Str) (ps : List Str) : Nat → List Str
  | 0 => ps.filter (isE kd)
  | t + 1 => ps.filter fun p => decide (p ∈ fnd kd ps t) || (ar kd p).any fun a => decide (a ∈ fnd kd ps t)
theorem fnd_rank (w : Wf kd ps) : fnd kd ps ps.length = ps := by
  obtain ⟨rk, h⟩ := w.rank
  have key : ∀ t p, p ∈ ps → rk p ≤ t → p ∈ fnd kd ps t := by
    intro t
    induction t with
    | zero =>
      intro p hp h0
      rcases (h p hp).2 with h1 | ⟨a, h1, h2⟩
      · simp [fnd, hp, h1]
      · omega
    | succ t ih =>
      intro p hp h0
      simp only [fnd, List.mem_filter, hp, true_and]
      by_cases q : rk p ≤ t
      · simp [ih p hp q]
      · rcases (h p hp).2 with h1 | ⟨a, h1, h2⟩
        · have : p ∈ fnd kd ps t := by
            clear ih q h0
            induction t with
            | zero => simp [fnd, hp, h1]
            | succ t ih2 => simp [fnd, hp, ih2]
          simp [this]
        · have : ∃ x, x ∈ ar kd p ∧ x ∈ fnd kd ps t := ⟨a, h1, ih a (w.ar_mem hp h1) (by omega)⟩
          simp [this]
  have hp := w.len1
  obtain ⟨n, hn⟩ : ∃ n, ps.length = n + 1 := ⟨ps.length - 1, by omega⟩
  have : ∀ p ∈ ps, p ∈ fnd kd ps ps.length := fun p hp => key _ p hp (by have := (h p hp).1; omega)
  rw [hn] at this ⊢
  simp only [fnd] at this ⊢
  rw [List.filter_eq_self]
  intro p hp
  have := this p hp
  rw [List.mem_filter] at this
  exact this.2
theorem coin_rows_ok (w : Wf kd ps) : F_are_coin_rows [rowsD kd ps] = some (.bl true) := by
  unfold F_are_coin_rows
  have c1 := rComp_map (src := iTup (xVar 0)) (tg := gTp [(gNm 1), (gNm 2), (gNm 3)]) (e := xB (tBin oIn (xVar 2) (xTup [(xC (.str "end")), (xC (.str "coin"))]))) (vs := [1, 2, 3]) (s := ⟨start 7 [rowsD kd ps], .no⟩) (s1 := ⟨start 7 [rowsD kd ps], .no⟩)
    ps (rwD kd) (fun _ => .bl true) (by simp [start, rowsD]) (by simp [start]) (by simp [start]) (by
      intro p hp
      refine ⟨_, by simp [start, rwD]; rfl, by simp [start], ?_⟩
      simp [kn_in1])
  have c2 := rComp_flt (src := iTup (xVar 0)) (tg := gTp [(gNm 1), (gNm 2), (gNm 3)]) (t := tBin oEq (xVar 2) (xC (.str "end"))) (e := xVar 1) (vs := [1, 2, 3]) (s := ⟨start 7 [rowsD kd ps], .no⟩) (s1 := ⟨start 7 [rowsD kd ps], .no⟩)
    ps (rwD kd) (isE kd) D.str (by simp [start, rowsD]) (by simp [start]) (by simp [start]) (by
      intro p hp
      refine ⟨_, by simp [start, rwD]; rfl, by simp [start], ?_, fun _ => ?_⟩
      · simp [kn_end]
      · simp)
  obtain ⟨s', e1, j5, rfl⟩ := forLoop_pre (tg := gNm 5) (b := (sSet 4 (rComp (iTup (xVar 0)) (gTp [(gNm 1), (gNm 2), (gNm 3)]) (tOr (vIn (xVar 1) 4) (tVal (xUn oAny (xFrz (rComp (iTup (xCall F_arrows_of [(xVar 2), (xVar 3)])) (gNm 6) (mRet true) (xB (vIn (xVar 6) 4)) [6]))))) (xVar 1) [1, 2, 3])))
    (fun (d : Nat) => D.int (d : Int)) (fun pre s => ∃ j5, s = ⟨[some (.d (rowsD kd ps)), none, none, none, some (.own ((fnd kd ps pre.length).map .str)), j5, none], .no⟩) (List.range ps.length)
    (s := ⟨[some (.d (rowsD kd ps)), none, none, none, some (.own ((fnd kd ps 0).map .str)), none, none], .no⟩) (by
      rintro pre n post s hx ⟨j5, rfl⟩
      refine ⟨_, ⟨[some (.d (rowsD kd ps)), none, none, none, some (.own ((fnd kd ps (pre.length + 1)).map .str)), some (.d (.int n)), none], .no⟩, by simp; rfl, ?_, some (.d (.int n)), by simp⟩
      have c3 := rComp_flt (src := iTup (xVar 0)) (tg := gTp [(gNm 1), (gNm 2), (gNm 3)]) (t := (tOr (vIn (xVar 1) 4) (tVal (xUn oAny (xFrz (rComp (iTup (xCall F_arrows_of [(xVar 2), (xVar 3)])) (gNm 6) (mRet true) (xB (vIn (xVar 6) 4)) [6])))))) (e := xVar 1) (vs := [1, 2, 3])
        (s := ⟨[some (.d (rowsD kd ps)), none, none, none, some (.own ((fnd kd ps pre.length).map .str)), some (.d (.int n)), none], .no⟩) (s1 := ⟨[some (.d (rowsD kd ps)), none, none, none, some (.own ((fnd kd ps pre.length).map .str)), some (.d (.int n)), none], .no⟩)
        ps (rwD kd) (fun p => decide (p ∈ fnd kd ps pre.length) || (ar kd p).any fun a => decide (a ∈ fnd kd ps pre.length)) D.str (by simp [rowsD]) (by simp) (by simp) (by
          intro p hp
          refine ⟨_, by simp [rwD]; rfl, by simp, ?_, fun _ => by simp⟩
          have c := rComp_map (src := iTup (xCall F_arrows_of [(xVar 2), (xVar 3)])) (tg := gNm 6) (e := xB (vIn (xVar 6) 4)) (vs := [6])
            (s := ⟨[some (.d (rowsD kd ps)), some (.d (.str p)), some (.d (.str (kn kd p))), some (.d (wt kd p)), some (.own ((fnd kd ps pre.length).map .str)), some (.d (.int n)), none], .no⟩) (s1 := ⟨[some (.d (rowsD kd ps)), some (.d (.str p)), some (.d (.str (kn kd p))), some (.d (wt kd p)), some (.own ((fnd kd ps pre.length).map .str)), some (.d (.int n)), none], .no⟩)
            (ar kd p) D.str (fun a => .bl (decide (a ∈ fnd kd ps pre.length))) (by simp [arrows_of_ok]) (by simp) (by simp) (by
              intro a ha
              refine ⟨_, by simp; rfl, by simp, ?_⟩
              simp)
          by_cases q : p ∈ fnd kd ps pre.length
          · simp [q]
          · have := xUn_of (xFrz_f c) (oAny_f _ _)
            rw [tOr_ap]
            simp only [vIn_ap, xVar_ap, getA_mk, gx_0, gx_1, oIn_l, mLift_some', q, decide_false, tVal_ap, this, Bool.false_or])
      rw [sSet_of c3 (by simp)]
      simp [fnd])
    ⟨none, rfl⟩
  rw [List.length_range, fnd_rank w] at e1
  have hn : (ps.length : Int) ≤ 1000 ∧ -1000 ≤ (ps.length : Int) := by have := w.len; omega
  refine run_of rfl (s := ⟨[some (.d (rowsD kd ps)), none, none, none, some (.own (ps.map .str)), j5, none], .no⟩) ?_
  unfold psi_are_coin_rows
  refine sSeq_nx (s' := ⟨start 7 [rowsD kd ps], .no⟩) (sIf_f (s' := ⟨start 7 [rowsD kd ps], .no⟩) ?_ rfl) ?_
  · rw [tNot_ap, tVal_ap, xUn_of (xFrz_f c1) (oAll_t _)]
    rfl
  refine sSeq_nx (sSet_of c2 (by simp [start])) (sSeq_nx (sFor_of (xs := (List.range ps.length).map (fun (d : Nat) => D.int (d : Int))) (s1 := ⟨[some (.d (rowsD kd ps)), none, none, none, some (.own ((fnd kd ps 0).map .str)), none, none], .no⟩) ?_ e1) ?_)
  · simp [start, rowsD, hn, rgD_zero, fnd]
  · simp [rowsD]
end
end Dl
end

/-! ## Web3 -/
section
set_option Elab.async false
set_option linter.all false
set_option maxRecDepth 100000
set_option maxHeartbeats 2000000
/-! The web itself. -/
namespace Dl
open PySem L2
section
variable {kd : Str → Rat ⊕ List Str} {ps : List Str}
def byD (kd : Str → Rat ⊕ List Str) (p : Str) : D := .tup [.str (kn kd p), wt kd p]
def webF (kd : Str → Rat ⊕ List Str) (ps : List Str) (t : List D) : List (Str × D) := [("lines", rowsD kd ps), ("trap", .tup t), ("by_place", .dic (dicOf ps (byD kd)))]
theorem put3 (a b c : D) : dPut (dPut (dPut [] "lines" a) "trap" b) "by_place" c = [(("lines" : Str), a), (("trap" : Str), b), (("by_place" : Str), c)] := by
  have h1 : ("lines" : Str) ≠ "trap" := by decide +kernel
  have h2 : ("lines" : Str) ≠ "by_place" := by decide +kernel
  have h3 : ("trap" : Str) ≠ "by_place" := by decide +kernel
  simp [dPut, h1, h2, h3]
theorem get_lines (t) : dGet (webF kd ps t) "lines" = some (rowsD kd ps) := by simp [webF, dGet]
theorem get_by (t) : dGet (webF kd ps t) "by_place" = some (.dic (dicOf ps (byD kd))) := by
  have h2 : ("lines" : Str) ≠ "by_place" := by decide +kernel
  have h3 : ("trap" : Str) ≠ "by_place" := by decide +kernel
  simp [webF, dGet, h2, h3]
theorem get_m (t) (m : Str) (h : m = "check_place" ∨ m = "arrows" ∨ m = "number") : dGet (webF kd ps t) m = none := by
  have a1 : ("lines" : Str) ≠ "check_place" ∧ ("lines" : Str) ≠ "arrows" ∧ ("lines" : Str) ≠ "number" := by decide +kernel
  have a2 : ("trap" : Str) ≠ "check_place" ∧ ("trap" : Str) ≠ "arrows" ∧ ("trap" : Str) ≠ "number" := by decide +kernel
  have a3 : ("by_place" : Str) ≠ "check_place" ∧ ("by_place" : Str) ≠ "arrows" ∧ ("by_place" : Str) ≠ "number" := by decide +kernel
  rcases h with rfl | rfl | rfl <;> simp [webF, dGet, a1, a2, a3]
theorem W_init_ok (w : Wf kd ps) : ∃ t, F_W_init (.obj []) [rowsD kd ps] = some (.non, .obj (webF kd ps t)) := by
  obtain ⟨t, ht⟩ := trap_ok w
  refine ⟨t, ?_⟩
  unfold F_W_init
  rw [runG_1]
  have c1 := rComp_map (src := iTup (xVar 1)) (tg := gTp [(gNm 3), (gNm 4), (gNm 5)]) (e := xTup [(xVar 3), (xTup [(xVar 4), (xVar 5)])]) (vs := [3, 4, 5])
    (s := ⟨[some .brw, some (.d (rowsD kd ps)), some (.d (.tup t)), none, none, none], .obj (dPut (dPut [] "lines" (rowsD kd ps)) "trap" (.tup t))⟩)
    (s1 := ⟨[some .brw, some (.d (rowsD kd ps)), some (.d (.tup t)), none, none, none], .obj (dPut (dPut [] "lines" (rowsD kd ps)) "trap" (.tup t))⟩)
    ps (rwD kd) (fun p => .tup [.str p, byD kd p]) (by simp [rowsD]) (by simp) (by simp) (by
      intro p hp
      refine ⟨_, by simp [rwD]; rfl, by simp, ?_⟩
      simp [byD])
  have hp : ps.length ≤ 1000 := by have := w.len; omega
  have hd := dAll_of [] ps (byD kd) (by simpa using w.nd)
  simp [dicOf] at hd
  have c2 : xFrz (rDict (xFrz (rComp (iTup (xVar 1)) (gTp [(gNm 3), (gNm 4), (gNm 5)]) (mRet true) (xTup [(xVar 3), (xTup [(xVar 4), (xVar 5)])]) [3, 4, 5])))
    ⟨[some .brw, some (.d (rowsD kd ps)), some (.d (.tup t)), none, none, none], .obj (dPut (dPut [] "lines" (rowsD kd ps)) "trap" (.tup t))⟩ =
    some (.dic (dicOf ps (byD kd)), ⟨[some .brw, some (.d (rowsD kd ps)), some (.d (.tup t)), none, none, none], .obj (dPut (dPut [] "lines" (rowsD kd ps)) "trap" (.tup t))⟩) := by
    refine xFrz_k ?_
    rw [rDict_ap, xFrz_f c1]
    dsimp only
    rw [pairsOf_of]
    simp [hp]
    exact hd
  have h1 : ("lines" : Str) ≠ "trap" := by decide +kernel
  have l1 : (dPut (dPut [] "lines" (rowsD kd ps)) "trap" (.tup t)).length < 100 := by simp [dPut, h1]
  have l2 : (dPut [] "lines" (rowsD kd ps)).length < 100 := by simp [dPut]
  have c3 := put3 (rowsD kd ps) (.tup t) (.dic (dicOf ps (byD kd)))
  have a1 : (sIf (tNot (tVal (xCall F_are_rows [(xVar 1)]))) sNo sNx) ⟨some .brw :: start 5 [rowsD kd ps], .obj []⟩ = some (.nx ⟨[some .brw, some (.d (rowsD kd ps)), none, none, none, none], .obj []⟩) := by
    simp [start, are_rows_ok w]
  have a2 : sAsg (gNm 2) (xCall F_trap_in [(xVar 1)]) ⟨[some .brw, some (.d (rowsD kd ps)), none, none, none, none], .obj []⟩ = some (.nx ⟨[some .brw, some (.d (rowsD kd ps)), some (.d (.tup t)), none, none, none], .obj []⟩) := by
    simp [ht]
  have a3 : (sIf (tAnd (tBin oGt (vLen 2) (xC (.int 0))) (tNot (tVal (xCall F_are_coin_rows [(xVar 1)])))) sNo sNx) ⟨[some .brw, some (.d (rowsD kd ps)), some (.d (.tup t)), none, none, none], .obj []⟩ = some (.nx ⟨[some .brw, some (.d (rowsD kd ps)), some (.d (.tup t)), none, none, none], .obj []⟩) := by
    have e : ∀ s, getA s 2 = some (.d (.tup t)) → tBin oGt (vLen 2) (xC (.int 0)) s = some (decide ((0 : Int) < t.length), s) := fun s hs => by
      simp only [tBin_ap, vLen_ap, hs, oLen_t, xC_ap, oGt_i, mLift_some']
    rw [sIf_ap, tAnd_ap, e _ (by simp)]
    cases decide ((0 : Int) < t.length) with
    | false => rfl
    | true => simp [coin_rows_ok w]
  have a4 : (sSeq (sFld 0 "lines" (xVar 1)) (sSeq (sFld 0 "trap" (xVar 2)) (sFld 0 "by_place" (xFrz (rDict (xFrz (rComp (iTup (xVar 1)) (gTp [(gNm 3), (gNm 4), (gNm 5)]) (mRet true) (xTup [(xVar 3), (xTup [(xVar 4), (xVar 5)])]) [3, 4, 5]))))))) ⟨[some .brw, some (.d (rowsD kd ps)), some (.d (.tup t)), none, none, none], .obj []⟩
      = some (.nx ⟨[some .brw, some (.d (rowsD kd ps)), some (.d (.tup t)), none, none, none], .obj (webF kd ps t)⟩) := by
    refine sSeq_nx (s' := ⟨[some .brw, some (.d (rowsD kd ps)), some (.d (.tup t)), none, none, none], .obj (dPut [] "lines" (rowsD kd ps))⟩) (by simp) (sSeq_nx (s' := ⟨[some .brw, some (.d (rowsD kd ps)), some (.d (.tup t)), none, none, none], .obj (dPut (dPut [] "lines" (rowsD kd ps)) "trap" (.tup t))⟩) ?_ ?_)
    · simp [l2]
    · rw [sFld_ap, c2]
      simp only [getA_mk, gx_0, l1, if_true, c3]
      rfl
  have e : psi_W_init ⟨some .brw :: start 5 [rowsD kd ps], .obj []⟩ = some (.nx ⟨[some .brw, some (.d (rowsD kd ps)), some (.d (.tup t)), none, none, none], .obj (webF kd ps t)⟩) := by
    unfold psi_W_init
    exact sSeq_nx a1 (sSeq_nx a2 (sSeq_nx a3 a4))
  rw [e]
  rfl
variable {t : List D}
theorem W_rows_ok : F_W_rows [.web (webF kd ps t)] = some (rowsD kd ps) := by
  unfold F_W_rows
  rw [runP_1]
  simp [psi_W_rows, start, get_lines]
theorem W_places_ok : F_W_places [.web (webF kd ps t)] = some (.tup (ps.map .str)) := by
  unfold F_W_places
  have c1 := rComp_map (src := iTup (xUn (oFld "lines") (xVar 0))) (tg := gNm 1) (e := vIx 1 (xC (.int 0))) (vs := [1]) (s := ⟨start 2 [.web (webF kd ps t)], .no⟩) (s1 := ⟨start 2 [.web (webF kd ps t)], .no⟩)
    ps (rwD kd) D.str (by simp [start, get_lines]; simp [rowsD]) (by simp [start]) (by simp [start]) (by
      intro p hp
      refine ⟨_, by simp [start]; rfl, by simp [start], ?_⟩
      simp [rwD])
  exact run_of rfl (sRet_of (xUn_of (xFrz_f c1) (oTuple_l _)))
theorem W_ends_ok : F_W_ends [.web (webF kd ps t)] = some (.tup ((ps.filter (isE kd)).map .str)) := by
  unfold F_W_ends
  have c1 := rComp_flt (src := iTup (xUn (oFld "lines") (xVar 0))) (tg := gNm 1) (t := tBin oEq (vIx 1 (xC (.int 1))) (xC (.str "end"))) (e := vIx 1 (xC (.int 0))) (vs := [1]) (s := ⟨start 2 [.web (webF kd ps t)], .no⟩) (s1 := ⟨start 2 [.web (webF kd ps t)], .no⟩)
    ps (rwD kd) (isE kd) D.str (by simp [start, get_lines]; simp [rowsD]) (by simp [start]) (by simp [start]) (by
      intro p hp
      refine ⟨_, by simp [start]; rfl, by simp [start], ?_, fun _ => ?_⟩
      · simp [rwD, kn_end]
      · simp [rwD])
  exact run_of rfl (sRet_of (xUn_of (xFrz_f c1) (oTuple_l _)))
variable {p : Str}
theorem W_check_ok (hp : p ∈ ps) : F_W_check_place [.web (webF kd ps t), .str p] = some .non := by
  unfold F_W_check_place
  rw [runP_2]
  have e := dGet_of ps (byD kd) p
  rw [if_pos hp] at e
  simp [psi_W_check_place, start, get_by, e]
theorem W_arrows_ok (hp : p ∈ ps) : F_W_arrows [.web (webF kd ps t), .str p] = some (.tup ((ar kd p).map .str)) := by
  unfold F_W_arrows
  rw [runP_2]
  have e := dGet_of ps (byD kd) p
  rw [if_pos hp] at e
  have m := get_m (kd := kd) (ps := ps) t "check_place" (.inl rfl)
  simp [psi_W_arrows, start, m, W_check_ok hp, get_by, e, byD, arrows_of_ok]
theorem W_number_ok (hp : p ∈ ps) (he : isE kd p = true) : F_W_number [.web (webF kd ps t), .str p] = some (fr (vl kd p)) := by
  unfold F_W_number
  rw [runP_2]
  have e := dGet_of ps (byD kd) p
  rw [if_pos hp] at e
  have m := get_m (kd := kd) (ps := ps) t "check_place" (.inl rfl)
  have k : oEq (.str (kn kd p)) (.str "end") = some true := by rw [kn_end, he]
  have w : wt kd p = fr (vl kd p) := by
    unfold wt vl
    unfold isE at he
    cases q : kd p with
    | inl x => rfl
    | inr x => rw [q] at he; simp at he
  simp [psi_W_number, start, m, W_check_ok hp, get_by, e, byD, k, w]
theorem check_web_ok : F_check_web [.web (webF kd ps t)] = some .non := by
  unfold F_check_web
  rw [runP_1]
  simp [psi_check_web, start]
theorem are_parts_ok (h : ∀ p ∈ ps, isE kd p = true → 0 ≤ vl kd p ∧ vl kd p ≤ 1) : F_are_parts [.web (webF kd ps t)] = some (.bl true) := by
  unfold F_are_parts
  have m := get_m (kd := kd) (ps := ps) t "number" (.inr (.inr rfl))
  have c1 := rComp_map (src := iTup (xProp F_W_ends (xVar 0))) (tg := gNm 1) (e := xCall F_is_chance [(xMeth F_W_number "number" (xVar 0) [(xVar 1)])]) (vs := [1]) (s := ⟨start 2 [.web (webF kd ps t)], .no⟩) (s1 := ⟨start 2 [.web (webF kd ps t)], .no⟩)
    (ps.filter (isE kd)) D.str (fun _ => .bl true) (by simp [start, W_ends_ok]) (by simp [start]) (by simp [start]) (by
      intro p hp
      rw [List.mem_filter] at hp
      refine ⟨_, by simp [start]; rfl, by simp [start], ?_⟩
      have h := h p hp.1 hp.2
      simp [m, W_number_ok hp.1 hp.2, is_chance_ok _ h.1 h.2])
  exact run_of rfl (sRet_of (xUn_of (xFrz_f c1) (oAll_t _)))
theorem are_coins_ok : F_are_coins [.web (webF kd ps t)] = some (.bl true) := by
  unfold F_are_coins
  have c1 := rComp_map (src := iTup (xProp F_W_rows (xVar 0))) (tg := gTp [(gNm 1), (gNm 2), (gNm 3)]) (e := xB (tBin oIn (xVar 2) (xTup [(xC (.str "end")), (xC (.str "coin"))]))) (vs := [1, 2, 3]) (s := ⟨start 4 [.web (webF kd ps t)], .no⟩) (s1 := ⟨start 4 [.web (webF kd ps t)], .no⟩)
    ps (rwD kd) (fun _ => .bl true) (by simp [start, W_rows_ok]; simp [rowsD]) (by simp [start]) (by simp [start]) (by
      intro p hp
      refine ⟨_, by simp [start, rwD]; rfl, by simp [start], ?_⟩
      simp [kn_in1])
  exact run_of rfl (sRet_of (xUn_of (xFrz_f c1) (oAll_t _)))
theorem check_coins_ok (h : ∀ p ∈ ps, isE kd p = true → 0 ≤ vl kd p ∧ vl kd p ≤ 1) : F_check_coins [.web (webF kd ps t)] = some .non := by
  unfold F_check_coins
  rw [runP_1]
  simp [psi_check_coins, start, are_coins_ok, are_parts_ok h]
theorem check_share_ok (q : Rat) (h0 : 0 ≤ q) (h1 : q ≤ 1) (h2 : q.den ≤ 1000000) : F_check_share [fr q] = some .non := by
  unfold F_check_share
  rw [runP_1]
  simp [psi_check_share, start, is_share_ok q h0 h1 h2]
theorem check_asked_ok {a side : Str} {q : Rat} (h0 : 0 ≤ q) (h1 : q ≤ 1) (h2 : q.den ≤ 1000000) (hs : side = "first" ∨ side = "second") (hp : p ∈ ps) (ha : a ∈ ar kd p) (hap : a ∈ ps) :
    F_check_asked [.web (webF kd ps t), .str p, fr q, .str side, .str a] = some .non := by
  unfold F_check_asked
  rw [runP_5]
  have m := get_m (kd := kd) (ps := ps) t "check_place" (.inl rfl)
  have m2 := get_m (kd := kd) (ps := ps) t "arrows" (.inr (.inl rfl))
  have o : F_is_one_of [.str side, d_SIDES] = some (.bl true) := by rcases hs with rfl | rfl <;> rfl
  have n : oNotIn (.str a) (.tup ((ar kd p).map .str)) = some false := by
    unfold oNotIn
    rw [oIn_t]
    simp [ha]
  simp [psi_check_asked, start, check_web_ok, m, m2, W_check_ok hp, W_check_ok hap, check_share_ok q h0 h1 h2, o, W_arrows_ok hp, n]
end
end Dl
end

/-! ## Chain -/
section
set_option Elab.async false
set_option linter.all false
set_option maxRecDepth 100000
set_option maxHeartbeats 2000000
/-! The chain's equations. -/
namespace Dl
open PySem L2
def half : Rat := mkRat 1 2
theorem half_eq : half = 1 / 2 := Rat.mkRat_eq_div 1 2
theorem half_D : d_HALF = fr half := rfl
theorem one_D : d_ONE = fr 1 := rfl
theorem zero_D : d_ZERO = fr 0 := rfl
theorem Sz.add2 {B C : Nat} {a b : Rat} (h1 : Sz B a) (h2 : Sz C b) : Sz (B + C + 1) (a + b) := by
  rw [Rat.add_def']
  have e : 2 ^ (B + C + 1) = 2 ^ (B + C) + 2 ^ (B + C) := by rw [Nat.pow_succ]; omega
  have q1 : (a.num * b.den).natAbs < 2 ^ (B + C) := by
    rw [Int.natAbs_mul]
    exact mul_lt_pow h1.num (by simpa using h2.den)
  have q2 : (b.num * a.den).natAbs < 2 ^ (B + C) := by
    rw [Int.natAbs_mul, Nat.add_comm]
    exact mul_lt_pow h2.num (by simpa using h1.den)
  have := mul_lt_pow h1.den h2.den
  exact Sz.mk' (Nat.mul_ne_zero a.den_nz b.den_nz) (by rw [e]; omega) (by rw [e]; omega)
theorem sz_one : Sz 1 1 := ⟨by decide, by decide⟩
theorem sz_zero : Sz 1 0 := ⟨by decide, by decide⟩
theorem sz_half : Sz 2 half := ⟨by decide, by decide⟩
/-- the i-th of the places -/
def at_ (cs : List Str) (i : Nat) : Str := cs.getD i ⟨#[]⟩
theorem map_at {β : Type} (cs : List Str) (f : Str → β) : (List.range cs.length).map (fun i => f (at_ cs i)) = cs.map f := by
  apply List.ext_getElem
  · simp
  · intro i h1 h2
    simp at h2
    simp [at_, h2]
def mvD (h l : Str → Str) (p : Str) : D := .tup [.lst [.tup [.str (h p), d_HALF], .tup [.str (l p), d_HALF]], .lst [d_ZERO]]
section
variable {cs es : List Str} {h l : Str → Str} {u : Str → Rat}
def lstep (cs : List Str) (u : Str → Rat) (x : (Str → Rat) × Rat) (to : Str) : (Str → Rat) × Rat := if to ∈ cs then (fun q => if q = to then x.1 q - half else x.1 q, x.2) else (x.1, x.2 + half * u to)
/-- the state in the inner loop -/
def cv (cs es : List Str) (u : Str → Rat) (h l : Str → Str) (j3 j4 j5 j6 : Option A) (x : (Str → Rat) × Rat) (j10 j11 j12 : Option A) : S :=
  ⟨[some (.d (.dic (dicOf es fun e => .lst [fr (u e)]))), some (.d (.dic (dicOf cs (mvD h l)))), some (.d (.lst (cs.map .str))), j3, j4, j5, j6, some (.own (cs.map fun q => fr (x.1 q))), some (.own [fr x.2]), none, j10, j11, j12, none, none, none, none], .no⟩
theorem part_ok (nd : cs.Nodup) {j3 j4 j5 j6 j10 j11 j12 : Option A} {x : (Str → Rat) × Rat} {to : Str} (ht : to ∈ es ∨ to ∈ cs) {B : Nat} (hB : B ≤ 1000) (s1 : ∀ q, Sz B (x.1 q)) (s2 : Sz B x.2) (su : Sz 3 (u to)) :
    ∃ i10 i11 i12 s, gTp [(gNm 10), (gNm 11)] (.tup [.str to, d_HALF]) (cv cs es u h l j3 j4 j5 j6 x j10 j11 j12) = some s ∧
      (sIf (vInD (xVar 10) 1) (sSeq (sAsg (gNm 12) (vIndex 2 (xVar 10))) (sAsg (gIx 7 (xVar 12)) (xCall F_less [(vIx 7 (xVar 12)), (xVar 11)]))) (sSet 8 (rComp (iZip (xVar 8) (vDix 0 (xVar 10))) (gTp [(gNm 13), (gNm 14)]) (mRet true) (xCall F_add [(xVar 13), (xCall F_times [(xVar 11), (xVar 14)])]) [13, 14])))
      s = some (.nx (cv cs es u h l j3 j4 j5 j6 (lstep cs u x to) i10 i11 i12)) := by
  have g1 := dGet_of cs (mvD h l) to
  have g0 := dGet_of es (fun e => D.lst [fr (u e)]) to
  by_cases q : to ∈ cs
  · rw [if_pos q] at g1
    obtain ⟨n, n1, n2, n3⟩ := ixOf_get cs to q
    refine ⟨some (.d (.str to)), some (.d d_HALF), some (.d (.int n)), _, by simp [cv]; rfl, ?_⟩
    refine sIf_t (s' := cv cs es u h l j3 j4 j5 j6 x (some (.d (.str to))) (some (.d d_HALF)) j12) ?_ ?_
    · simp [cv, g1]
    · have e1 : (cs.map fun q => fr (x.1 q))[n]? = some (fr (x.1 to)) := by rw [List.getElem?_map, n3]; rfl
      have e2 := less_ok (B := B + 2) ((s1 to).mono (by omega)) (sz_half.mono (by omega)) (by omega)
      refine sSeq_nx (s' := cv cs es u h l j3 j4 j5 j6 x (some (.d (.str to))) (some (.d d_HALF)) (some (.d (.int n)))) ?_ ?_
      · simp [cv, strsOf_map, n1]
      · have e3 : (cs.map fun q => fr (x.1 q)).set n (fr (x.1 to - half)) = cs.map fun q => fr ((lstep cs u x to).1 q) := by
          apply List.ext_getElem?
          intro j
          rw [List.getElem?_set]
          by_cases e : n = j
          · subst e
            rw [if_pos rfl, List.getElem?_map, n3]
            simp [n2, lstep, q]
          · rw [if_neg e]
            by_cases hj : j < cs.length
            · have : cs[j] ≠ to := by
                rw [List.getElem?_eq_getElem n2] at n3
                have n3 := Option.some.inj n3
                rw [← n3]
                rcases Nat.lt_or_gt_of_ne e with o | o
                · exact (List.pairwise_iff_getElem.mp nd n j n2 hj o).symm
                · exact List.pairwise_iff_getElem.mp nd j n hj n2 o
              simp [hj, lstep, q, this]
            · rw [List.getElem?_eq_none (by simpa using hj), List.getElem?_eq_none (by simpa using hj)]
        have e4 : (lstep cs u x to).2 = x.2 := by simp [lstep, q]
        simp only [half_D] at *
        simp [cv, e1, e2, ixN_nat (show n < cs.length from n2), e3, e4]
  · rw [if_neg q] at g1
    have hes : to ∈ es := ht.resolve_right q
    rw [if_pos hes] at g0
    have e1 := times_ok (B := 3) (sz_half.mono (by omega)) su (by omega)
    have e2 := add_ok (B := B + 6) (s2.mono (by omega)) ((sz_half.mul2 su).mono (by omega)) (by omega)
    refine ⟨some (.d (.str to)), some (.d d_HALF), j12, _, by simp [cv]; rfl, ?_⟩
    refine sIf_f (s' := cv cs es u h l j3 j4 j5 j6 x (some (.d (.str to))) (some (.d d_HALF)) j12) ?_ ?_
    · simp [cv, g1]
    · have c := rComp_map (src := iZip (xVar 8) (vDix 0 (xVar 10))) (tg := gTp [(gNm 13), (gNm 14)]) (e := xCall F_add [(xVar 13), (xCall F_times [(xVar 11), (xVar 14)])]) (vs := [13, 14])
        (s := cv cs es u h l j3 j4 j5 j6 x (some (.d (.str to))) (some (.d d_HALF)) j12)
        (s1 := ⟨[some (.d (.dic (dicOf es fun e => .lst [fr (u e)]))), some (.d (.dic (dicOf cs (mvD h l)))), some (.d (.lst (cs.map .str))), j3, j4, j5, j6, some (.own (cs.map fun q => fr (x.1 q))), some (.d (.lst [fr x.2])), none, some (.d (.str to)), some (.d d_HALF), j12, none, none, none, none], .no⟩)
        [()] (fun _ => .tup [fr x.2, fr (u to)]) (fun _ => fr (x.2 + half * u to)) (by simp [cv, g0]) (by simp) (by simp) (by
          intro a ha
          refine ⟨_, by simp; rfl, by simp, ?_⟩
          simp [half_D, e1, e2])
      rw [sSet_of c (by simp)]
      simp [cv, lstep, q]
end
end Dl
end

/-! ## Chain2 -/
section
set_option Elab.async false
set_option linter.all false
set_option maxRecDepth 100000
set_option maxHeartbeats 2000000
/-! The chain's numbers. -/
namespace Dl
open PySem L2
section
variable {cs es : List Str} {h l : Str → Str} {u : Str → Rat}
def lineX (cs : List Str) (u : Str → Rat) (h l : Str → Str) (p : Str) : (Str → Rat) × Rat := lstep cs u (lstep cs u (fun q => if q = p then 1 else 0, 0) (h p)) (l p)
def lnD (cs : List Str) (u : Str → Rat) (h l : Str → Str) (p : Str) : D := .lst ((cs.map fun q => fr ((lineX cs u h l p).1 q)) ++ [fr (lineX cs u h l p).2])
theorem lstep_sz {B : Nat} {x : (Str → Rat) × Rat} {to : Str} (s1 : ∀ q, Sz B (x.1 q)) (s2 : Sz B x.2) (su : Sz 3 (u to)) : (∀ q, Sz (B + 6) ((lstep cs u x to).1 q)) ∧ Sz (B + 6) (lstep cs u x to).2 := by
  unfold lstep
  by_cases q : to ∈ cs
  · rw [if_pos q]
    refine ⟨fun q => ?_, s2.mono (by omega)⟩
    dsimp only
    split
    · exact ((s1 q).sub2 sz_half).mono (by omega)
    · exact (s1 q).mono (by omega)
  · rw [if_neg q]
    refine ⟨fun q => (s1 q).mono (by omega), ?_⟩
    exact (s2.add2 (sz_half.mul2 su)).mono (by omega)
theorem line_sz (su : ∀ q, Sz 3 (u q)) (p : Str) : (∀ q, Sz 16 ((lineX cs u h l p).1 q)) ∧ Sz 16 (lineX cs u h l p).2 := by
  have a : (∀ q, Sz 1 ((fun q => if q = p then (1 : Rat) else 0) q)) := fun q => by
    dsimp only
    split
    · exact sz_one
    · exact sz_zero
  have b := lstep_sz (cs := cs) (u := u) (x := (fun q => if q = p then 1 else 0, 0)) (to := h p) a sz_zero (su _)
  have c := lstep_sz (cs := cs) (u := u) (to := l p) b.1 b.2 (su _)
  exact ⟨fun q => (c.1 q).mono (by omega), c.2.mono (by omega)⟩
/-- the state between the places -/
def ov (cs es : List Str) (u : Str → Rat) (h l : Str → Str) (pre : List Str) (j4 j5 j6 j7 j8 j10 j11 j12 : Option A) : S :=
  ⟨[some (.d (.dic (dicOf es fun e => .lst [fr (u e)]))), some (.d (.dic (dicOf cs (mvD h l)))), some (.d (.lst (cs.map .str))), some (.own (pre.map (lnD cs u h l))), j4, j5, j6, j7, j8, none, j10, j11, j12, none, none, none, none], .no⟩
theorem place_ok (nd : cs.Nodup) (hk : cs.length ≤ 3) (hok : ∀ p ∈ cs, sOk p) (hh : ∀ p ∈ cs, h p ∈ es ∨ h p ∈ cs) (hl : ∀ p ∈ cs, l p ∈ es ∨ l p ∈ cs) (su : ∀ q, Sz 3 (u q))
    {pre : List Str} {p : Str} {j5 j6 j7 j8 j10 j11 j12 : Option A} (hp : p ∈ cs) (hpre : pre.length ≤ 3) :
    ∃ j4 i5 i6 i7 i8 i10 i11 i12, (sSeq (sAsg (gTp [(gNm 5), (gNm 6)]) (vDix 1 (xVar 4))) (sSeq (sPar 7 8 (rComp (iLst (xVar 2)) (gNm 9) (mRet true) (xIf (tBin oEq (xVar 9) (xVar 4)) (xC d_ONE) (xC d_ZERO)) [9]) (vList 6)) (sSeq (sFor (iLst (xVar 5)) (gTp [(gNm 10), (gNm 11)]) (sIf (vInD (xVar 10) 1) (sSeq (sAsg (gNm 12) (vIndex 2 (xVar 10))) (sAsg (gIx 7 (xVar 12)) (xCall F_less [(vIx 7 (xVar 12)), (xVar 11)]))) (sSet 8 (rComp (iZip (xVar 8) (vDix 0 (xVar 10))) (gTp [(gNm 13), (gNm 14)]) (mRet true) (xCall F_add [(xVar 13), (xCall F_times [(xVar 11), (xVar 14)])]) [13, 14])))) (sDrop (vApp 3 (xFrz (rCat (xVar 7) (xVar 8))))))))
      (ov cs es u h l pre (some (.d (.str p))) j5 j6 j7 j8 j10 j11 j12) = some (.nx (ov cs es u h l (pre ++ [p]) j4 i5 i6 i7 i8 i10 i11 i12)) := by
  have g1 := dGet_of cs (mvD h l) p
  rw [if_pos hp] at g1
  have c := fun a5 => rComp_map (src := iLst (xVar 2)) (tg := gNm 9) (e := xIf (tBin oEq (xVar 9) (xVar 4)) (xC d_ONE) (xC d_ZERO)) (vs := [9])
    (s := ov cs es u h l pre (some (.d (.str p))) a5 (some (.d (.lst [d_ZERO]))) j7 j8 j10 j11 j12) (s1 := ov cs es u h l pre (some (.d (.str p))) a5 (some (.d (.lst [d_ZERO]))) j7 j8 j10 j11 j12)
    cs D.str (fun q => fr (if q = p then 1 else 0)) (by simp [ov]) (by simp [ov]) (by simp [ov]) (by
      intro q hq
      refine ⟨_, by simp [ov]; rfl, by simp [ov], ?_⟩
      by_cases e : q = p
      · subst e
        simp [oEq_s (hok q hq) (hok q hq), one_D]
      · simp [oEq_s (hok q hq) (hok p hp), e, zero_D])
  have a : (∀ q, Sz 1 ((fun q => if q = p then (1 : Rat) else 0) q)) := fun q => by
    dsimp only
    split
    · exact sz_one
    · exact sz_zero
  have b := lstep_sz (cs := cs) (u := u) (x := (fun q => if q = p then 1 else 0, 0)) (to := h p) a sz_zero (su _)
  obtain ⟨k10, k11, k12, s1, e1, e2⟩ := part_ok (es := es) (h := h) (l := l) (j3 := some (.own (pre.map (lnD cs u h l)))) (j4 := some (.d (.str p))) (j5 := some (.d (.lst [.tup [.str (h p), d_HALF], .tup [.str (l p), d_HALF]]))) (j6 := some (.d (.lst [d_ZERO]))) (j10 := j10) (j11 := j11) (j12 := j12) nd (hh p hp) (B := 1) (by omega) (x := (fun q => if q = p then 1 else 0, 0)) a sz_zero (su (h p))
  obtain ⟨m10, m11, m12, s2, e3, e4⟩ := part_ok (es := es) (h := h) (l := l) (j3 := some (.own (pre.map (lnD cs u h l)))) (j4 := some (.d (.str p))) (j5 := some (.d (.lst [.tup [.str (h p), d_HALF], .tup [.str (l p), d_HALF]]))) (j6 := some (.d (.lst [d_ZERO]))) (j10 := k10) (j11 := k11) (j12 := k12) nd (hl p hp) (B := 7) (by omega) (x := lstep cs u (fun q => if q = p then 1 else 0, 0) (h p)) b.1 b.2 (su (l p))
  refine ⟨some (.d (.str p)), some (.d (.lst [.tup [.str (h p), d_HALF], .tup [.str (l p), d_HALF]])), some (.d (.lst [d_ZERO])), some (.d (.lst (cs.map fun q => fr ((lineX cs u h l p).1 q)))), some (.d (.lst [fr (lineX cs u h l p).2])), m10, m11, m12, ?_⟩
  refine sSeq_nx (s' := ov cs es u h l pre (some (.d (.str p))) (some (.d (.lst [.tup [.str (h p), d_HALF], .tup [.str (l p), d_HALF]]))) (some (.d (.lst [d_ZERO]))) j7 j8 j10 j11 j12) ?_ ?_
  · simp [ov, g1]
    simp [mvD]
  refine sSeq_nx (s' := cv cs es u h l (some (.own (pre.map (lnD cs u h l)))) (some (.d (.str p))) (some (.d (.lst [.tup [.str (h p), d_HALF], .tup [.str (l p), d_HALF]]))) (some (.d (.lst [d_ZERO]))) (fun q => if q = p then 1 else 0, 0) j10 j11 j12) ?_ ?_
  · rw [sPar_ap, c]
    simp [ov, cv, zero_D]
  refine sSeq_nx (s' := cv cs es u h l (some (.own (pre.map (lnD cs u h l)))) (some (.d (.str p))) (some (.d (.lst [.tup [.str (h p), d_HALF], .tup [.str (l p), d_HALF]]))) (some (.d (.lst [d_ZERO]))) (lineX cs u h l p) m10 m11 m12) ?_ ?_
  · refine sFor_of (xs := [.tup [.str (h p), d_HALF], .tup [.str (l p), d_HALF]]) (s1 := cv cs es u h l (some (.own (pre.map (lnD cs u h l)))) (some (.d (.str p))) (some (.d (.lst [.tup [.str (h p), d_HALF], .tup [.str (l p), d_HALF]]))) (some (.d (.lst [d_ZERO]))) (fun q => if q = p then 1 else 0, 0) j10 j11 j12) (by simp [cv]) ?_
    simp only [forLoop, e1, e2, e3, e4]
    rfl
  · have hl : cs.length + 1 ≤ 1000 := by omega
    have hl2 : pre.length < 1000 := by omega
    simp [cv, ov, hl, hl2, lnD]
/-! the sums -/
def pos (cs : List Str) (q : Str) : Nat := (ixOf q cs).getD 0
theorem pos_ok {q : Str} (hq : q ∈ cs) : pos cs q < cs.length ∧ at_ cs (pos cs q) = q := by
  obtain ⟨n, h1, h2, h3⟩ := ixOf_get cs q hq
  unfold pos
  rw [h1]
  refine ⟨h2, ?_⟩
  unfold at_
  simp [List.getD, h3]
theorem at_mem {i : Nat} (hi : i < cs.length) : at_ cs i ∈ cs := by simp [at_, hi]
theorem at_inj (nd : cs.Nodup) {i j : Nat} (hi : i < cs.length) (hj : j < cs.length) (h : at_ cs i = at_ cs j) : i = j := by
  simp [at_, hi, hj] at h
  rcases Nat.lt_trichotomy i j with o | o | o
  · exact absurd h (List.pairwise_iff_getElem.mp nd i j hi hj o)
  · exact o
  · exact absurd h.symm (List.pairwise_iff_getElem.mp nd j i hj hi o)
theorem pos_at (nd : cs.Nodup) {i : Nat} (hi : i < cs.length) : pos cs (at_ cs i) = i := at_inj nd (pos_ok (at_mem hi)).1 hi (pos_ok (at_mem hi)).2
def Phi (cs : List Str) (w : Nat → Rat) (cf : Str → Rat) : Rat := sumN cs.length fun j => cf (at_ cs j) * w j
def Wv (cs : List Str) (w : Nat → Rat) (q : Str) : Rat := if q ∈ cs then w (pos cs q) else 0
theorem phi_one (nd : cs.Nodup) (w : Nat → Rat) {p : Str} (hp : p ∈ cs) : Phi cs w (fun q => if q = p then 1 else 0) = Wv cs w p := by
  unfold Phi Wv
  have a := pos_ok hp
  rw [if_pos hp, sumN_one _ (pos cs p) _ a.1 fun j hj hne => by
    dsimp only
    rw [if_neg (fun e => hne (by rw [← e, pos_at nd hj]))]
    grind]
  rw [a.2]
  simp
theorem sumN_add (n : Nat) (f g : Nat → Rat) : sumN n (fun j => f j + g j) = sumN n f + sumN n g := by
  induction n with
  | zero => simp only [sumN]; grind
  | succ n ih => simp only [sumN]; rw [ih]; grind
theorem phi_step (nd : cs.Nodup) (w : Nat → Rat) (x : (Str → Rat) × Rat) (to : Str) : Phi cs w (lstep cs u x to).1 = Phi cs w x.1 - half * Wv cs w to := by
  unfold lstep
  by_cases q : to ∈ cs
  · rw [if_pos q]
    have e := phi_one nd w q
    rw [← e]
    unfold Phi
    rw [← sumN_sub]
    exact sumN_congr fun j hj => by
      dsimp only
      by_cases z : at_ cs j = to
      · simp only [z, if_true]
        grind
      · simp only [z, if_false]
        grind
  · rw [if_neg q]
    unfold Wv
    rw [if_neg q]
    grind
theorem phi_line (nd : cs.Nodup) (w : Nat → Rat) {p : Str} (hp : p ∈ cs) : Phi cs w (lineX cs u h l p).1 = Wv cs w p - half * Wv cs w (h p) - half * Wv cs w (l p) := by
  unfold lineX
  rw [phi_step nd, phi_step nd, phi_one nd w hp]
def Uv (cs : List Str) (u : Str → Rat) (q : Str) : Rat := if q ∈ cs then 0 else u q
theorem line_2 (p : Str) : (lineX cs u h l p).2 = half * Uv cs u (h p) + half * Uv cs u (l p) := by
  have a : ∀ x to, (lstep cs u x to).2 = x.2 + half * Uv cs u to := fun x to => by
    unfold lstep Uv
    by_cases q : to ∈ cs
    · rw [if_pos q, if_pos q]
      dsimp only
      grind
    · rw [if_neg q, if_neg q]
  unfold lineX
  rw [a, a]
  dsimp only
  grind
end
end Dl
end

/-! ## Chain3 -/
section
set_option Elab.async false
set_option linter.all false
set_option maxRecDepth 100000
set_option maxHeartbeats 2000000
/-! The chain's numbers: found. -/
namespace Dl
open PySem L2
section
variable {cs es : List Str} {h l : Str → Str} {u : Str → Rat}
def Lx (cs : List Str) (u : Str → Rat) (h l : Str → Str) (i j : Nat) : Rat := if j < cs.length then (lineX cs u h l (at_ cs i)).1 (at_ cs j) else (lineX cs u h l (at_ cs i)).2
theorem tabL_eq : tabL cs.length (Lx cs u h l) = .lst (cs.map (lnD cs u h l)) := by
  unfold tabL tabD
  rw [← map_at cs (lnD cs u h l)]
  congr 1
  refine List.map_congr_left fun i hi => ?_
  unfold rowD lnD
  rw [List.range_succ, List.map_append, ← map_at cs]
  congr 2
  · refine List.map_congr_left fun j hj => ?_
    have := List.mem_range.mp hj
    simp [Lx, this]
  · simp [Lx]
theorem chain_ok (nd : (es ++ cs).Nodup) (hk : cs.length ≤ 3) (hn : es.length ≤ 24) (hok : ∀ p ∈ cs, sOk p) (hh : ∀ p ∈ cs, h p ∈ es ∨ h p ∈ cs) (hl : ∀ p ∈ cs, l p ∈ es ∨ l p ∈ cs) (su : ∀ q, Sz 3 (u q))
    (inj : ∀ Y : Str → Rat, (∀ q, q ∉ cs → Y q = 0) → (∀ p ∈ cs, Y p = half * Y (h p) + half * Y (l p)) → ∀ p ∈ cs, Y p = 0) :
    ∃ X : Str → Rat, F_chain_numbers [.dic (dicOf es fun e => .lst [fr (u e)]), .dic (dicOf cs (mvD h l))] = some (.dic (dicOf (es ++ cs) fun p => .lst [fr (X p)])) ∧
      (∀ e, e ∉ cs → X e = u e) ∧ (∀ p ∈ cs, X p = half * X (h p) + half * X (l p)) ∧ ∀ p, Sz 1045 (X p) := by
  have ndc : cs.Nodup := (List.nodup_append.mp nd).2.1
  obtain ⟨x, x1, x2, x3⟩ := solved_ok hk (Lx cs u h l)
    (fun i hi j hj => by
      unfold Lx
      split
      · exact (line_sz su _).1 _
      · exact (line_sz su _).2)
    (fun v h0 hv j hj => by
      have := inj (Wv cs v) (fun q hq => by unfold Wv; rw [if_neg hq]) (fun p hp => by
        have a := hv (pos cs p) (pos_ok hp).1
        unfold dot at a
        simp only [sumN, h0] at a
        rw [sumN_congr (g := fun j => (lineX cs u h l p).1 (at_ cs j) * v j) fun j hj => by
          unfold Lx
          rw [if_pos hj, (pos_ok hp).2]] at a
        have b := phi_line (h := h) (l := l) (u := u) ndc v hp
        unfold Phi at b
        rw [b] at a
        grind) (at_ cs j) (at_mem hj)
      unfold Wv at this
      rw [if_pos (at_mem hj), pos_at ndc hj] at this
      exact this)
  rw [tabL_eq] at x1
  refine ⟨fun q => if q ∈ cs then x (pos cs q) else u q, ?_, fun e he => if_neg he, fun p hp => ?_, fun p => ?_⟩
  · -- the run
    have hm : (List.range cs.length).map (fun i => D.lst [fr (x i)]) = cs.map fun q => .lst [fr (x (pos cs q))] := by
      rw [← map_at cs (fun q => D.lst [fr (x (pos cs q))])]
      exact List.map_congr_left fun i hi => by rw [pos_at ndc (List.mem_range.mp hi)]
    rw [hm] at x1
    obtain ⟨s', e1, j4, j5, j6, j7, j8, j10, j11, j12, rfl⟩ := forLoop_pre (tg := gNm 4) (b := (sSeq (sAsg (gTp [(gNm 5), (gNm 6)]) (vDix 1 (xVar 4))) (sSeq (sPar 7 8 (rComp (iLst (xVar 2)) (gNm 9) (mRet true) (xIf (tBin oEq (xVar 9) (xVar 4)) (xC d_ONE) (xC d_ZERO)) [9]) (vList 6)) (sSeq (sFor (iLst (xVar 5)) (gTp [(gNm 10), (gNm 11)]) (sIf (vInD (xVar 10) 1) (sSeq (sAsg (gNm 12) (vIndex 2 (xVar 10))) (sAsg (gIx 7 (xVar 12)) (xCall F_less [(vIx 7 (xVar 12)), (xVar 11)]))) (sSet 8 (rComp (iZip (xVar 8) (vDix 0 (xVar 10))) (gTp [(gNm 13), (gNm 14)]) (mRet true) (xCall F_add [(xVar 13), (xCall F_times [(xVar 11), (xVar 14)])]) [13, 14])))) (sDrop (vApp 3 (xFrz (rCat (xVar 7) (xVar 8)))))))))
      D.str (fun pre s => ∃ j4 j5 j6 j7 j8 j10 j11 j12, s = ov cs es u h l pre j4 j5 j6 j7 j8 j10 j11 j12) cs (s := ov cs es u h l [] none none none none none none none none) (by
        rintro pre p post s hx ⟨j4, j5, j6, j7, j8, j10, j11, j12, rfl⟩
        have hp : p ∈ cs := by rw [hx]; simp
        have hl3 : pre.length ≤ 3 := by
          have : pre.length ≤ cs.length := by rw [hx]; simp
          omega
        obtain ⟨a4, a5, a6, a7, a8, a10, a11, a12, e⟩ := place_ok (es := es) (j5 := j5) (j6 := j6) (j7 := j7) (j8 := j8) (j10 := j10) (j11 := j11) (j12 := j12) ndc hk hok hh hl su hp hl3
        exact ⟨ov cs es u h l pre (some (.d (.str p))) j5 j6 j7 j8 j10 j11 j12, _, by simp [ov], e, a4, a5, a6, a7, a8, a10, a11, a12, rfl⟩)
      ⟨_, _, _, _, _, _, _, _, rfl⟩
    have e2 : dicOf es (fun e => D.lst [fr (u e)]) = dicOf (es ++ []) (fun p => D.lst [fr (if p ∈ cs then x (pos cs p) else u p)]) := by
      rw [List.append_nil]
      exact dicOf_congr fun e he => by
        have : e ∉ cs := fun z => (List.nodup_append.mp nd).2.2 e he e z rfl
        simp only [this, if_false]
    obtain ⟨s', e3, j4', j16', rfl⟩ := forLoop_pre (tg := gTp [(gNm 4), (gNm 16)]) (b := (sAsg (gDx 15 (xVar 4)) (xVar 16)))
      (fun p => D.tup [.str p, .lst [fr (x (pos cs p))]]) (fun pre s => ∃ j4 j16, s = ⟨[some (.d (.dic (dicOf es fun e => .lst [fr (u e)]))), some (.d (.dic (dicOf cs (mvD h l)))), some (.d (.lst (cs.map .str))), some (.d (.lst (cs.map (lnD cs u h l)))), j4, j5, j6, j7, j8, none, j10, j11, j12, none, none, some (.dct (dicOf (es ++ pre) fun p => .lst [fr (if p ∈ cs then x (pos cs p) else u p)])), j16], .no⟩) cs
      (s := ⟨[some (.d (.dic (dicOf es fun e => .lst [fr (u e)]))), some (.d (.dic (dicOf cs (mvD h l)))), some (.d (.lst (cs.map .str))), some (.d (.lst (cs.map (lnD cs u h l)))), j4, j5, j6, j7, j8, none, j10, j11, j12, none, none, some (.dct (dicOf es fun e => .lst [fr (u e)])), none], .no⟩) (by
        rintro pre p post s hx ⟨j4, j16, rfl⟩
        have hp : p ∈ cs := by rw [hx]; simp
        have hlen : es.length + pre.length < 1000 := by
          have : pre.length ≤ cs.length := by rw [hx]; simp
          omega
        have np : p ∉ es ++ pre := by
          rw [hx, ← List.append_assoc] at nd
          have := (List.nodup_append.mp nd).2.2
          exact fun z => this p z p (by simp) rfl
        have e4 : dPut (dicOf (es ++ pre) fun p => D.lst [fr (if p ∈ cs then x (pos cs p) else u p)]) p (.lst [fr (x (pos cs p))]) = dicOf (es ++ (pre ++ [p])) fun p => D.lst [fr (if p ∈ cs then x (pos cs p) else u p)] := by
          rw [dPut_new _ _ _ _ np, List.append_assoc]
          exact dicOf_congr fun q hq => by
            by_cases z : q = p
            · subst z
              simp [hp]
            · simp [z]
        refine ⟨⟨[some (.d (.dic (dicOf es fun e => .lst [fr (u e)]))), some (.d (.dic (dicOf cs (mvD h l)))), some (.d (.lst (cs.map .str))), some (.d (.lst (cs.map (lnD cs u h l)))), some (.d (.str p)), j5, j6, j7, j8, none, j10, j11, j12, none, none, some (.dct (dicOf (es ++ pre) fun p => .lst [fr (if p ∈ cs then x (pos cs p) else u p)])), some (.d (.lst [fr (x (pos cs p))]))], .no⟩, _, by simp, ?_, some (.d (.str p)), some (.d (.lst [fr (x (pos cs p))])), rfl⟩
        simp [hlen]
        exact e4)
      ⟨j4, none, by rw [← e2]⟩
    unfold F_chain_numbers
    refine run_of rfl (s := ⟨[some (.d (.dic (dicOf es fun e => .lst [fr (u e)]))), some (.d (.dic (dicOf cs (mvD h l)))), some (.d (.lst (cs.map .str))), some (.d (.lst (cs.map (lnD cs u h l)))), j4', j5, j6, j7, j8, none, j10, j11, j12, none, none, some (.d (.dic (dicOf (es ++ cs) fun p => .lst [fr (if p ∈ cs then x (pos cs p) else u p)]))), j16'], .no⟩) ?_
    unfold psi_chain_numbers
    refine sSeq_nx (s' := ⟨[some (.d (.dic (dicOf es fun e => .lst [fr (u e)]))), some (.d (.dic (dicOf cs (mvD h l)))), some (.own (cs.map .str)), none, none, none, none, none, none, none, none, none, none, none, none, none, none], .no⟩) ?_ ?_
    · simp [start, dicOf_map_str]
    refine sSeq_nx (s' := ⟨[some (.d (.dic (dicOf es fun e => .lst [fr (u e)]))), some (.d (.dic (dicOf cs (mvD h l)))), some (.own (cs.map .str)), some (.own []), none, none, none, none, none, none, none, none, none, none, none, none, none], .no⟩) (by simp) ?_
    refine sSeq_nx (sFor_of (xs := cs.map .str) (s1 := ov cs es u h l [] none none none none none none none none) (by simp [ov]) e1) ?_
    refine sSeq_nx (s' := ⟨[some (.d (.dic (dicOf es fun e => .lst [fr (u e)]))), some (.d (.dic (dicOf cs (mvD h l)))), some (.d (.lst (cs.map .str))), some (.own (cs.map (lnD cs u h l))), j4, j5, j6, j7, j8, none, j10, j11, j12, none, none, some (.dct (dicOf es fun e => .lst [fr (u e)])), none], .no⟩) (by simp [ov]) ?_
    refine sSeq_nx (sFor_of (xs := cs.map fun p => D.tup [.str p, .lst [fr (x (pos cs p))]]) ?_ e3) ?_
    · simp [x1, List.zip_map', List.map_map, Function.comp_def]
    · simp
  · -- the equation
    have a := x3 (pos cs p) (pos_ok hp).1
    rw [sumN_congr (g := fun j => (lineX cs u h l p).1 (at_ cs j) * x j) fun j hj => by
      unfold Lx
      rw [if_pos hj, (pos_ok hp).2]] at a
    have b := phi_line (h := h) (l := l) (u := u) ndc x hp
    unfold Phi at b
    have c : Lx cs u h l (pos cs p) cs.length = (lineX cs u h l p).2 := by
      unfold Lx
      rw [if_neg (by omega), (pos_ok hp).2]
    rw [b, c, line_2] at a
    have d : ∀ q, (if q ∈ cs then x (pos cs q) else u q) = Wv cs x q + Uv cs u q := fun q => by
      unfold Wv Uv
      by_cases z : q ∈ cs
      · simp only [z, if_true]
        grind
      · simp only [z, if_false]
        grind
    dsimp only
    rw [d, d, d]
    have z : Uv cs u p = 0 := by unfold Uv; rw [if_pos hp]
    rw [z]
    grind
  · dsimp only
    split
    · rename_i hp
      exact x2 _ (pos_ok hp).1
    · exact (su p).mono (by omega)
end
end Dl
end

/-! ## Plan -/
section
set_option Elab.async false
set_option linter.all false
set_option maxRecDepth 100000
set_option maxHeartbeats 2000000
/-! Plans. -/
namespace Dl
open PySem L2
theorem dGet_put (kvs : List (Str × D)) (k j : Str) (v : D) : dGet (dPut kvs k v) j = if j = k then some v else dGet kvs j := by
  induction kvs with
  | nil =>
    by_cases h : j = k
    · subst h; simp [dPut, dGet]
    · simp [dPut, dGet, h, Ne.symm h]
  | cons a r ih =>
    obtain ⟨x, y⟩ := a
    by_cases q : x = k
    · subst q
      by_cases h : j = x
      · subst h; simp [dPut, dGet]
      · simp [dPut, dGet, h, Ne.symm h]
    · by_cases h : x = j
      · subst h
        simp [dPut, dGet, q]
      · simp [dPut, dGet, q, h, ih]
theorem dPut_len (kvs : List (Str × D)) (k : Str) (v : D) (h : (dGet kvs k).isSome = true) : (dPut kvs k v).length = kvs.length := by
  induction kvs with
  | nil => simp [dGet] at h
  | cons a r ih =>
    obtain ⟨x, y⟩ := a
    by_cases q : x = k
    · simp [dPut, q]
    · simp [dPut, q]
      exact ih (by simpa [dGet, q] using h)
theorem dPut_len_le (kvs : List (Str × D)) (k : Str) (v : D) : (dPut kvs k v).length ≤ kvs.length + 1 := by
  induction kvs with
  | nil => simp [dPut]
  | cons a r ih =>
    obtain ⟨x, y⟩ := a
    by_cases q : x = k
    · simp [dPut, q]
    · simp [dPut, q]
      exact ih
/-- a plan: a dict that has a place for each of the places -/
structure Pl (kvs : List (Str × D)) (cs : List Str) (f : Str → Str) : Prop where
  get : ∀ p, dGet kvs p = if p ∈ cs then some (.str (f p)) else none
  len : kvs.length ≤ 100
theorem Pl.at {kvs cs f p} (h : Pl kvs cs f) (hp : p ∈ cs) : dGet kvs p = some (.str (f p)) := by rw [h.get, if_pos hp]
theorem Pl.put {kvs cs f p q} (h : Pl kvs cs f) (hp : p ∈ cs) : Pl (dPut kvs p (.str q)) cs (fun x => if x = p then q else f x) := by
  refine ⟨fun j => ?_, ?_⟩
  · rw [dGet_put, h.get]
    by_cases z : j = p
    · subst z; simp [hp]
    · simp [z]
  · rw [dPut_len _ _ _ (by rw [h.at hp]; rfl)]
    exact h.len
theorem Pl.congr {kvs cs f g} (h : Pl kvs cs f) (e : ∀ p ∈ cs, f p = g p) : Pl kvs cs g := ⟨fun p => by
  rw [h.get]
  by_cases hp : p ∈ cs
  · rw [if_pos hp, if_pos hp, e p hp]
  · rw [if_neg hp, if_neg hp], h.len⟩
/-- well made, with at most three coins, and what the ends pay -/
structure Wg (kd : Str → Rat ⊕ List Str) (ps : List Str) : Prop extends Wf kd ps where
  few : (ps.filter fun p => !isE kd p).length ≤ 3
  pay : ∀ p, 0 ≤ vl kd p ∧ vl kd p ≤ 1
  sz : ∀ p, Sz 3 (vl kd p)
def coins (kd : Str → Rat ⊕ List Str) (ps : List Str) : List Str := ps.filter fun p => !isE kd p
def ends (kd : Str → Rat ⊕ List Str) (ps : List Str) : List Str := ps.filter (isE kd)
section
variable {kd : Str → Rat ⊕ List Str} {ps : List Str} {h l : Str → Str}
theorem mem_coins {p : Str} : p ∈ coins kd ps ↔ p ∈ ps ∧ isE kd p = false := by simp [coins]
theorem mem_ends {p : Str} : p ∈ ends kd ps ↔ p ∈ ps ∧ isE kd p = true := by simp [ends]
theorem Wg.nd2 (w : Wg kd ps) : (ends kd ps ++ coins kd ps).Nodup := by
  rw [List.nodup_append]
  refine ⟨w.nd.filter _, w.nd.filter _, fun a ha b hb e => ?_⟩
  subst e
  rw [mem_ends] at ha
  rw [mem_coins] at hb
  rw [ha.2] at hb
  exact absurd hb.2 (by decide)
theorem mem_both {p : Str} : p ∈ ends kd ps ++ coins kd ps ↔ p ∈ ps := by
  rw [List.mem_append, mem_ends, mem_coins]
  cases isE kd p <;> simp
theorem wt_end {p : Str} (he : isE kd p = true) : wt kd p = fr (vl kd p) := by
  unfold wt vl
  unfold isE at he
  cases q : kd p with
  | inl x => rfl
  | inr x => rw [q] at he; simp at he
theorem wt_coin {p : Str} (he : isE kd p = false) : wt kd p = .tup ((ar kd p).map .str) := by
  unfold wt ar
  unfold isE at he
  cases q : kd p with
  | inl x => rw [q] at he; simp at he
  | inr x => rfl
theorem moves_by_ok (w : Wg kd ps) {hk lk : List (Str × D)} (Ph : Pl hk (coins kd ps) h) (Pl_ : Pl lk (coins kd ps) l) :
    F_moves_by [rowsD kd ps, .dic hk, .dic lk] = some (.dic (dicOf (coins kd ps) (mvD h l))) := by
  unfold F_moves_by
  obtain ⟨s', e1, j4, j5, j6, rfl⟩ := forLoop_pre (tg := gTp [(gNm 4), (gNm 5), (gNm 6)]) (b := (sIf (tBin oEq (xVar 5) (xC (.str "chance"))) sNo (sIf (tBin oEq (xVar 5) (xC (.str "coin"))) (sAsg (gDx 3 (xVar 4)) (xTup [(xFrz (rLst [(xTup [(vDix 1 (xVar 4)), (xC d_HALF)]), (xTup [(vDix 2 (xVar 4)), (xC d_HALF)])])), (xFrz (rLst [(xC d_ZERO)]))])) (sIf (tBin oNe (xVar 5) (xC (.str "end"))) sNo sNx))))
    (rwD kd) (fun pre s => ∃ j4 j5 j6, s = ⟨[some (.d (rowsD kd ps)), some (.d (.dic hk)), some (.d (.dic lk)), some (.dct (dicOf (coins kd pre) (mvD h l))), j4, j5, j6, none], .no⟩) ps
    (s := ⟨[some (.d (rowsD kd ps)), some (.d (.dic hk)), some (.d (.dic lk)), some (.dct []), none, none, none, none], .no⟩) (by
      rintro pre p post s hx ⟨j4, j5, j6, rfl⟩
      have hp : p ∈ ps := by rw [hx]; simp
      refine ⟨_, ⟨[some (.d (rowsD kd ps)), some (.d (.dic hk)), some (.d (.dic lk)), some (.dct (dicOf (coins kd (pre ++ [p])) (mvD h l))), some (.d (.str p)), some (.d (.str (kn kd p))), some (.d (wt kd p)), none], .no⟩, by simp [rwD]; rfl, ?_, _, _, _, rfl⟩
      cases q : isE kd p with
      | true =>
        have c : coins kd (pre ++ [p]) = coins kd pre := by simp [coins, q]
        simp [kn_chance, kn_coin, kn_nend, q, c]
      | false =>
        have c : coins kd (pre ++ [p]) = coins kd pre ++ [p] := by simp [coins, q]
        have hc : p ∈ coins kd ps := mem_coins.mpr ⟨hp, q⟩
        have np : p ∉ coins kd pre := fun z => by
          have nd := w.nd
          rw [hx] at nd
          exact (List.nodup_append.mp nd).2.2 p (mem_coins.mp z).1 p (by simp) rfl
        have hl : (coins kd pre).length < 1000 := by
          have h1 : (coins kd pre).length ≤ pre.length := List.length_filter_le _ _
          have h2 : pre.length ≤ ps.length := by rw [hx]; simp
          have := w.len
          omega
        have e : dPut (dicOf (coins kd pre) (mvD h l)) p (mvD h l p) = dicOf (coins kd (pre ++ [p])) (mvD h l) := by
          rw [c, dPut_new _ _ _ _ np]
          exact dicOf_congr fun x _ => by by_cases z : x = p <;> simp [z]
        unfold mvD at e
        simp [kn_chance, kn_coin, q, Ph.at hc, Pl_.at hc, hl]
        exact e)
    ⟨none, none, none, rfl⟩
  refine run_of rfl (s := ⟨[some (.d (rowsD kd ps)), some (.d (.dic hk)), some (.d (.dic lk)), some (.d (.dic (dicOf (coins kd ps) (mvD h l)))), j4, j5, j6, none], .no⟩) ?_
  unfold psi_moves_by
  refine sSeq_nx (s' := ⟨[some (.d (rowsD kd ps)), some (.d (.dic hk)), some (.d (.dic lk)), some (.dct []), none, none, none, none], .no⟩) (by simp [start]) (sSeq_nx (sFor_of (by simp [rowsD]) e1) ?_)
  simp
theorem numbers_by_ok (w : Wg kd ps) (hh : ∀ p ∈ coins kd ps, h p ∈ ar kd p) (hl : ∀ p ∈ coins kd ps, l p ∈ ar kd p)
    (inj : ∀ Y : Str → Rat, (∀ q, q ∉ coins kd ps → Y q = 0) → (∀ p ∈ coins kd ps, Y p = half * Y (h p) + half * Y (l p)) → ∀ p ∈ coins kd ps, Y p = 0) :
    ∃ X : Str → Rat, F_numbers_by [rowsD kd ps, .dic (dicOf (coins kd ps) (mvD h l))] = some (.dic (dicOf (ends kd ps ++ coins kd ps) fun p => fr (X p))) ∧
      (∀ e, e ∉ coins kd ps → X e = vl kd e) ∧ (∀ p ∈ coins kd ps, X p = half * X (h p) + half * X (l p)) ∧ ∀ p, Sz 1045 (X p) := by
  have le : (ends kd ps).length ≤ 24 := by
    have h1 : (ends kd ps).length ≤ ps.length := List.length_filter_le _ _
    have := w.len
    omega
  have lc : (coins kd ps).length ≤ 3 := w.few
  obtain ⟨X, x1, x2, x3, x4⟩ := chain_ok (es := ends kd ps) (u := vl kd) w.nd2 lc le (fun p hp => nine_ok p (w.nm p (mem_coins.mp hp).1))
    (fun p hp => List.mem_append.mp (mem_both.mpr (w.ar_mem (mem_coins.mp hp).1 (hh p hp)))) (fun p hp => List.mem_append.mp (mem_both.mpr (w.ar_mem (mem_coins.mp hp).1 (hl p hp)))) w.sz inj
  refine ⟨X, ?_, x2, x3, x4⟩
  unfold F_numbers_by
  have c1 := rComp_flt (src := iTup (xVar 0)) (tg := gTp [(gNm 3), (gNm 4), (gNm 5)]) (t := tBin oEq (xVar 4) (xC (.str "end"))) (e := xTup [(xVar 3), (xFrz (rLst [(xVar 5)]))]) (vs := [3, 4, 5])
    (s := ⟨start 7 [rowsD kd ps, .dic (dicOf (coins kd ps) (mvD h l))], .no⟩) (s1 := ⟨start 7 [rowsD kd ps, .dic (dicOf (coins kd ps) (mvD h l))], .no⟩)
    ps (rwD kd) (isE kd) (fun p => .tup [.str p, .lst [fr (vl kd p)]]) (by simp [start, rowsD]) (by simp [start]) (by simp [start]) (by
      intro p hp
      refine ⟨_, by simp [start, rwD]; rfl, by simp [start], ?_, fun he => ?_⟩
      · simp [kn_end]
      · simp [wt_end he])
  have c2 : sSet 2 (rDict (xFrz (rComp (iTup (xVar 0)) (gTp [(gNm 3), (gNm 4), (gNm 5)]) (tBin oEq (xVar 4) (xC (.str "end"))) (xTup [(xVar 3), (xFrz (rLst [(xVar 5)]))]) [3, 4, 5])))
      ⟨start 7 [rowsD kd ps, .dic (dicOf (coins kd ps) (mvD h l))], .no⟩ = some (.nx ⟨[some (.d (rowsD kd ps)), some (.d (.dic (dicOf (coins kd ps) (mvD h l)))), some (.dct (dicOf (ends kd ps) fun e => .lst [fr (vl kd e)])), none, none, none, none], .no⟩) := by
    have e := dAll_of [] (ends kd ps) (fun e => D.lst [fr (vl kd e)]) (by rw [List.nil_append]; exact w.nd.filter _)
    have p := pairsOf_of (ends kd ps) (fun e => D.lst [fr (vl kd e)])
    unfold ends at p
    refine (sSet_of (i := 2) (r := .fd (dAll [] (dicOf (ends kd ps) (fun e => D.lst [fr (vl kd e)])))) (s1 := ⟨start 7 [rowsD kd ps, .dic (dicOf (coins kd ps) (mvD h l))], .no⟩) ?_ (by simp [start])).trans ?_
    · rw [rDict_ap, xFrz_f c1]
      dsimp only
      rw [p]
      have : (ends kd ps).length ≤ 1000 := by omega
      unfold ends at this
      simp [this]
      rfl
    · have e' : dAll [] (dicOf (ends kd ps) (fun e => D.lst [fr (vl kd e)])) = dicOf (ends kd ps) (fun e => D.lst [fr (vl kd e)]) := by simpa [dicOf] using e
      rw [e']
      simp [start]
  have hs : iItems (xCall F_chain_numbers [(xVar 2), (xVar 1)]) ⟨[some (.d (rowsD kd ps)), some (.d (.dic (dicOf (coins kd ps) (mvD h l)))), some (.dct (dicOf (ends kd ps) fun e => .lst [fr (vl kd e)])), none, none, none, none], .no⟩
      = some ((ends kd ps ++ coins kd ps).map (fun p => D.tup [.str p, .lst [fr (X p)]]), ⟨[some (.d (rowsD kd ps)), some (.d (.dic (dicOf (coins kd ps) (mvD h l)))), some (.d (.dic (dicOf (ends kd ps) fun e => .lst [fr (vl kd e)]))), none, none, none, none], .no⟩) := by
    simp [x1]
    simp [dicOf, Function.comp_def]
  have c3 := rComp_map (src := iItems (xCall F_chain_numbers [(xVar 2), (xVar 1)])) (tg := gTp [(gNm 3), (gNm 6)]) (e := xTup [(xVar 3), (vIx 6 (xC (.int 0)))]) (vs := [3, 6])
    (ends kd ps ++ coins kd ps) (fun p => D.tup [.str p, .lst [fr (X p)]]) (fun p => D.tup [.str p, fr (X p)]) hs (by simp) (by simp) (by
      intro p hp
      refine ⟨_, by simp; rfl, by simp, ?_⟩
      simp)
  unfold psi_numbers_by
  refine run_of rfl (s := ⟨[some (.d (rowsD kd ps)), some (.d (.dic (dicOf (coins kd ps) (mvD h l)))), some (.d (.dic (dicOf (ends kd ps) fun e => .lst [fr (vl kd e)]))), none, none, none, none], .no⟩) (sSeq_nx c2 (sRet_of (xFrz_k ?_)))
  rw [rDict_ap, xFrz_f c3]
  dsimp only
  rw [pairsOf_of]
  have e := dAll_of [] (ends kd ps ++ coins kd ps) (fun p => fr (X p)) (by simpa using w.nd2)
  have e' : dAll [] (dicOf (ends kd ps ++ coins kd ps) (fun p => fr (X p))) = dicOf (ends kd ps ++ coins kd ps) (fun p => fr (X p)) := by simpa [dicOf] using e
  have : (dicOf (ends kd ps ++ coins kd ps) (fun p => fr (X p))).length ≤ 1000 := by
    rw [dicOf_length, List.length_append]
    omega
  simp only [this, if_true, e']
end
end Dl
end

/-! ## Plan2 -/
section
set_option Elab.async false
set_option linter.all false
set_option maxRecDepth 100000
set_option maxHeartbeats 2000000
/-! A better plan. -/
namespace Dl
open PySem L2
section
variable {kd : Str → Rat ⊕ List Str} {ps : List Str} {f : Str → Str} {X : Str → Rat}
theorem options_of_ok {p : Str} (hc : isE kd p = false) : F_options_of [.str (kn kd p), wt kd p] = some (.lst ((ar kd p).map fun a => .tup [.str a, d_ZERO])) := by
  unfold F_options_of
  rw [wt_coin hc]
  have c1 := rComp_map (src := iTup (xVar 1)) (tg := gNm 2) (e := xTup [(xVar 2), (xC d_ZERO)]) (vs := [2]) (s := ⟨start 3 [.str (kn kd p), .tup ((ar kd p).map .str)], .no⟩) (s1 := ⟨start 3 [.str (kn kd p), .tup ((ar kd p).map .str)], .no⟩)
    (ar kd p) D.str (fun a => .tup [.str a, d_ZERO]) (by simp [start]) (by simp [start]) (by simp [start]) (by
      intro a ha
      refine ⟨_, by simp [start]; rfl, by simp [start], ?_⟩
      simp)
  refine run_of rfl (sRet_of (s1 := ⟨start 3 [.str (kn kd p), .tup ((ar kd p).map .str)], .no⟩) ?_)
  have t : tBin oEq (xVar 0) (xC (.str "coin")) ⟨start 3 [.str (kn kd p), .tup ((ar kd p).map .str)], .no⟩ = some (true, ⟨start 3 [.str (kn kd p), .tup ((ar kd p).map .str)], .no⟩) := by
    simp [start, kn_coin, hc]
  rw [xIf_ap, t]
  exact xFrz_f c1
/-- the numbers as a dict -/
def numD (kd : Str → Rat ⊕ List Str) (ps : List Str) (X : Str → Rat) : D := .dic (dicOf (ends kd ps ++ coins kd ps) fun p => fr (X p))
theorem num_get {p : Str} (hp : p ∈ ps) : dGet (dicOf (ends kd ps ++ coins kd ps) fun p => fr (X p)) p = some (fr (X p)) := by
  rw [dGet_of, if_pos (mem_both.mpr hp)]
theorem sub_zero' (a : Rat) : a - 0 = a := by grind
theorem gains_of_ok (w : Wf kd ps) (sx : ∀ p, Sz 1045 (X p)) {p : Str} (hp : p ∈ ps) (hc : isE kd p = false) :
    F_gains_of [.str (kn kd p), wt kd p, numD kd ps X] = some (.lst ((ar kd p).map fun a => .tup [.str a, fr (X a)])) := by
  unfold F_gains_of
  have c1 := rComp_map (src := iLst (xCall F_options_of [(xVar 0), (xVar 1)])) (tg := gTp [(gNm 3), (gNm 4)]) (e := xTup [(xVar 3), (xCall F_less [(vDix 2 (xVar 3)), (xVar 4)])]) (vs := [3, 4])
    (s := ⟨start 5 [.str (kn kd p), wt kd p, numD kd ps X], .no⟩) (s1 := ⟨start 5 [.str (kn kd p), wt kd p, numD kd ps X], .no⟩)
    (ar kd p) (fun a => .tup [.str a, d_ZERO]) (fun a => .tup [.str a, fr (X a)]) (by simp [start, options_of_ok hc]) (by simp [start]) (by simp [start]) (by
      intro a ha
      refine ⟨_, by simp [start]; rfl, by simp [start], ?_⟩
      have g := num_get (kd := kd) (X := X) (w.ar_mem hp ha)
      have e := less_ok (sx a) (sz_zero.mono (by omega : 1 ≤ 1045)) (by omega)
      rw [sub_zero'] at e
      simp [numD, g, zero_D, e])
  exact run_of rfl (sRet_of (xFrz_f c1))
/-- the better of two -/
def bst (hi : Bool) (X : Str → Rat) (c a : Str) : Str := if (if hi = true then X c < X a else X a < X c) then a else c
def cst (kd : Str → Rat ⊕ List Str) (hi : Bool) (X : Str → Rat) (f : Str → Str) (p : Str) : Str := (ar kd p).foldl (bst hi X) (f p)
/-- a is better than c -/
def btr (hi : Bool) (X : Str → Rat) (c a : Str) : Prop := if hi = true then X c < X a else X a < X c
instance (hi X c a) : Decidable (btr hi X c a) := by unfold btr; infer_instance
theorem bst_eq (hi X c a) : bst hi X c a = if btr hi X c a then a else c := rfl
theorem btr_trans {hi : Bool} {X : Str → Rat} {a b c : Str} (h1 : btr hi X a b) (h2 : btr hi X b c) : btr hi X a c := by
  unfold btr at *
  cases hi <;> simp at * <;> grind
theorem btr_irr {hi : Bool} {X : Str → Rat} {a : Str} : ¬ btr hi X a a := by
  unfold btr
  cases hi <;> simp <;> grind
theorem nbtr {hi : Bool} {X : Str → Rat} {a b c : Str} (h1 : btr hi X a b) (h2 : ¬ btr hi X a c) : ¬ btr hi X b c := by
  unfold btr at *
  cases hi <;> simp at * <;> grind
theorem fold_bst (hi : Bool) (X : Str → Rat) : ∀ (as : List Str) (c : Str), (as.foldl (bst hi X) c = c ∨ (as.foldl (bst hi X) c ∈ as ∧ btr hi X c (as.foldl (bst hi X) c))) ∧ ∀ a ∈ as, ¬ btr hi X (as.foldl (bst hi X) c) a
  | [], c => ⟨.inl rfl, fun a ha => by simp at ha⟩
  | b :: r, c => by
    obtain ⟨h1, h2⟩ := fold_bst hi X r (bst hi X c b)
    rw [List.foldl_cons]
    by_cases q : btr hi X c b
    · have e : bst hi X c b = b := by rw [bst_eq, if_pos q]
      rw [e] at h1 h2 ⊢
      refine ⟨.inr ?_, fun a ha => ?_⟩
      · rcases h1 with h1 | h1
        · rw [h1]
          exact ⟨by simp, q⟩
        · exact ⟨by simp [h1.1], btr_trans q h1.2⟩
      · rcases List.mem_cons.mp ha with rfl | ha
        · rcases h1 with h1 | h1
          · rw [h1]; exact btr_irr
          · exact fun z => btr_irr (btr_trans h1.2 z)
        · exact h2 a ha
    · have e : bst hi X c b = c := by rw [bst_eq, if_neg q]
      rw [e] at h1 h2 ⊢
      refine ⟨?_, fun a ha => ?_⟩
      · rcases h1 with h1 | h1
        · exact .inl h1
        · exact .inr ⟨by simp [h1.1], h1.2⟩
      · rcases List.mem_cons.mp ha with rfl | ha
        · rcases h1 with h1 | h1
          · rw [h1]; exact q
          · exact nbtr h1.2 q
        · exact h2 a ha
theorem cst_cases (hi : Bool) (X : Str → Rat) (f : Str → Str) (p : Str) : cst kd hi X f p = f p ∨ (cst kd hi X f p ∈ ar kd p ∧ btr hi X (f p) (cst kd hi X f p)) := (fold_bst hi X _ _).1
theorem cst_best (hi : Bool) (X : Str → Rat) (f : Str → Str) (p : Str) : ∀ a ∈ ar kd p, ¬ btr hi X (cst kd hi X f p) a := (fold_bst hi X _ _).2
theorem below_btr (sx : ∀ p, Sz 1045 (X p)) (hi : Bool) (c a : Str) {s : S} {i j k : Nat} (h1 : getA s i = some (.d (fr (X c)))) (h2 : getA s j = some (.d (fr (X a)))) (h3 : getA s k = some (.d (.bl hi))) :
    (tIfB (tVal (xVar k)) (tVal (xCall F_is_below [(xVar i), (xVar j)])) (tVal (xCall F_is_below [(xVar j), (xVar i)]))) s = some (decide (btr hi X c a), s) := by
  have e1 := is_below_ok (sx c) (sx a) (by omega)
  have e2 := is_below_ok (sx a) (sx c) (by omega)
  rw [tIfB_ap, tVal_ap, xVar_ap, h3]
  unfold btr
  cases hi with
  | true => simp [h1, h2, e1]
  | false => simp [h1, h2, e2]
/-- the state of better_plan -/
def bv (R P N : D) (hi : Bool) (found : List (Str × D)) (new : Bool) (j6 j7 j8 j9 j10 j11 j12 : Option A) : S := ⟨[some (.d R), some (.d P), some (.d N), some (.d (.bl hi)), some (.dct found), some (.d (.bl new)), j6, j7, j8, j9, j10, j11, j12], .no⟩
theorem better_in (sx : ∀ p, Sz 1045 (X p)) {R P N : D} {hi : Bool} {cs : List Str} {p : Str} (hp : p ∈ cs) {j7 j8 j9 : Option A} : ∀ (as : List Str) (c : Str) (found : List (Str × D)) (g : Str → Str) (new : Bool) (j11 j12 : Option A), Pl found cs g → g p = c → nj j11 = true → nj j12 = true →
    ∃ found' i11 i12, nj i11 = true ∧ nj i12 = true ∧ Pl found' cs (fun q => if q = p then as.foldl (bst hi X) c else g q) ∧
      forLoop (gTp [(gNm 11), (gNm 12)]) (sIf (tIfB (tVal (xVar 3)) (tVal (xCall F_is_below [(xVar 10), (xVar 12)])) (tVal (xCall F_is_below [(xVar 12), (xVar 10)]))) (sAsg (gTp [(gDx 4 (xVar 6)), (gNm 10), (gNm 5)]) (xTup [(xVar 11), (xVar 12), (xC (.bl true))])) sNx)
        (as.map fun a => .tup [.str a, fr (X a)]) (bv R P N hi found new (some (.d (.str p))) j7 j8 j9 (some (.d (fr (X c)))) j11 j12)
      = some (.nx (bv R P N hi found' (new || decide (as.foldl (bst hi X) c ≠ c)) (some (.d (.str p))) j7 j8 j9 (some (.d (fr (X (as.foldl (bst hi X) c))))) i11 i12))
  | [], c, found, g, new, j11, j12, h, hg, h11, h12 => ⟨found, j11, j12, h11, h12, h.congr fun q _ => by
      by_cases z : q = p
      · subst z; simp [hg]
      · simp [z], by simp [forLoop]⟩
  | a :: r, c, found, g, new, j11, j12, h, hg, h11, h12 => by
    have t := below_btr sx hi c a (s := bv R P N hi found new (some (.d (.str p))) j7 j8 j9 (some (.d (fr (X c)))) (some (.d (.str a))) (some (.d (fr (X a))))) (i := 10) (j := 12) (k := 3) (by simp [bv]) (by simp [bv]) (by simp [bv])
    have e1 : gTp [(gNm 11), (gNm 12)] (.tup [.str a, fr (X a)]) (bv R P N hi found new (some (.d (.str p))) j7 j8 j9 (some (.d (fr (X c)))) j11 j12) = some (bv R P N hi found new (some (.d (.str p))) j7 j8 j9 (some (.d (fr (X c)))) (some (.d (.str a))) (some (.d (fr (X a))))) := by simp [bv]
    by_cases q : btr hi X c a
    · obtain ⟨found', i11, i12, n1, n2, k1, k2⟩ := better_in sx (R := R) (P := P) (N := N) (hi := hi) hp (j7 := j7) (j8 := j8) (j9 := j9) r a (dPut found p (.str a)) (fun x => if x = p then a else g x) true (some (.d (.str a))) (some (.d (fr (X a)))) (h.put hp) (by simp) rfl rfl
      have e2 : (sIf (tIfB (tVal (xVar 3)) (tVal (xCall F_is_below [(xVar 10), (xVar 12)])) (tVal (xCall F_is_below [(xVar 12), (xVar 10)]))) (sAsg (gTp [(gDx 4 (xVar 6)), (gNm 10), (gNm 5)]) (xTup [(xVar 11), (xVar 12), (xC (.bl true))])) sNx)
          (bv R P N hi found new (some (.d (.str p))) j7 j8 j9 (some (.d (fr (X c)))) (some (.d (.str a))) (some (.d (fr (X a))))) = some (.nx (bv R P N hi (dPut found p (.str a)) true (some (.d (.str p))) j7 j8 j9 (some (.d (fr (X a)))) (some (.d (.str a))) (some (.d (fr (X a)))))) := by
        refine sIf_t (by rw [t, decide_eq_true q]) ?_
        have := h.len
        have : found.length < 1000 := by omega
        simp [bv, this]
      have b : bst hi X c a = a := by rw [bst_eq, if_pos q]
      refine ⟨found', i11, i12, n1, n2, ?_, ?_⟩
      · rw [List.foldl_cons, b]
        exact k1.congr fun x _ => by by_cases z : x = p <;> simp [z]
      · rw [List.foldl_cons, b]
        simp only [List.map_cons, forLoop, e1, e2, k2]
        have ne : r.foldl (bst hi X) a ≠ c := by
          rcases (fold_bst hi X r a).1 with z | z
          · rw [z]
            intro y
            subst y
            exact btr_irr q
          · intro y
            have := btr_trans q z.2
            rw [y] at this
            exact btr_irr this
        simp [ne]
    · obtain ⟨found', i11, i12, n1, n2, k1, k2⟩ := better_in sx (R := R) (P := P) (N := N) (hi := hi) hp (j7 := j7) (j8 := j8) (j9 := j9) r c found g new (some (.d (.str a))) (some (.d (fr (X a)))) h hg rfl rfl
      have b : bst hi X c a = c := by rw [bst_eq, if_neg q]
      refine ⟨found', i11, i12, n1, n2, ?_, ?_⟩
      · rw [List.foldl_cons, b]
        exact k1
      · rw [List.foldl_cons, b]
        have e2 : (sIf (tIfB (tVal (xVar 3)) (tVal (xCall F_is_below [(xVar 10), (xVar 12)])) (tVal (xCall F_is_below [(xVar 12), (xVar 10)]))) (sAsg (gTp [(gDx 4 (xVar 6)), (gNm 10), (gNm 5)]) (xTup [(xVar 11), (xVar 12), (xC (.bl true))])) sNx)
            (bv R P N hi found new (some (.d (.str p))) j7 j8 j9 (some (.d (fr (X c)))) (some (.d (.str a))) (some (.d (fr (X a))))) = some (.nx (bv R P N hi found new (some (.d (.str p))) j7 j8 j9 (some (.d (fr (X c)))) (some (.d (.str a))) (some (.d (fr (X a)))))) :=
          sIf_f (by rw [t, decide_eq_false q]) rfl
        simp only [List.map_cons, forLoop, e1, e2, k2]
/-- what better_plan finds -/
theorem better_ok (w : Wf kd ps) (sx : ∀ p, Sz 1045 (X p)) {kvs : List (Str × D)} {hi : Bool} (hP : Pl kvs (coins kd ps) f) (hf : ∀ p ∈ coins kd ps, f p ∈ ar kd p) :
    ∃ kvs', Pl kvs' (coins kd ps) (cst kd hi X f) ∧ F_better_plan [rowsD kd ps, .dic kvs, numD kd ps X, .bl hi] = some (if (coins kd ps).any (fun p => decide (cst kd hi X f p ≠ f p)) = true then .dic kvs' else .non) := by
  obtain ⟨s', e1, j6, j7, j8, j9, j10, j11, j12, found, k1, _, _, rfl⟩ := forLoop_pre (tg := gTp [(gNm 6), (gNm 7), (gNm 8)]) (b := (sIf (vInD (xVar 6) 1) (sSeq (sAsg (gNm 9) (xCall F_gains_of [(xVar 7), (xVar 8), (xVar 2)])) (sSeq (sAsg (gNm 10) (xBin oIx (xFrz (rComp (iLst (xVar 9)) (gTp [(gNm 11), (gNm 12)]) (tBin oEq (xVar 11) (vDix 1 (xVar 6))) (xVar 12) [11, 12])) (xC (.int 0)))) (sFor (iLst (xVar 9)) (gTp [(gNm 11), (gNm 12)]) (sIf (tIfB (tVal (xVar 3)) (tVal (xCall F_is_below [(xVar 10), (xVar 12)])) (tVal (xCall F_is_below [(xVar 12), (xVar 10)]))) (sAsg (gTp [(gDx 4 (xVar 6)), (gNm 10), (gNm 5)]) (xTup [(xVar 11), (xVar 12), (xC (.bl true))])) sNx)))) sNx))
    (rwD kd) (fun pre s => ∃ j6 j7 j8 j9 j10 j11 j12 found, Pl found (coins kd ps) (fun q => if q ∈ pre then cst kd hi X f q else f q) ∧ nj j11 = true ∧ nj j12 = true ∧ s = bv (rowsD kd ps) (.dic kvs) (numD kd ps X) hi found ((coins kd pre).any fun p => decide (cst kd hi X f p ≠ f p)) j6 j7 j8 j9 j10 j11 j12) ps
    (s := bv (rowsD kd ps) (.dic kvs) (numD kd ps X) hi kvs false none none none none none none none) (by
      rintro pre p post s hx ⟨j6, j7, j8, j9, j10, j11, j12, found, hF, h11, h12, rfl⟩
      have hp : p ∈ ps := by rw [hx]; simp
      cases q : isE kd p with
      | true =>
        have c : coins kd (pre ++ [p]) = coins kd pre := by simp [coins, q]
        have hn : p ∉ coins kd ps := fun z => by rw [mem_coins, q] at z; exact absurd z.2 (by decide)
        have g : dGet kvs p = none := by rw [hP.get, if_neg hn]
        refine ⟨_, bv (rowsD kd ps) (.dic kvs) (numD kd ps X) hi found ((coins kd (pre ++ [p])).any fun p => decide (cst kd hi X f p ≠ f p)) (some (.d (.str p))) (some (.d (.str (kn kd p)))) (some (.d (wt kd p))) j9 j10 j11 j12, by simp [rwD, bv]; rfl, ?_, _, _, _, _, _, _, _, found, hF.congr fun x hxc => ?_, h11, h12, rfl⟩
        · rw [c]
          refine sIf_f (s' := bv (rowsD kd ps) (.dic kvs) (numD kd ps X) hi found ((coins kd pre).any fun p => decide (cst kd hi X f p ≠ f p)) (some (.d (.str p))) (some (.d (.str (kn kd p)))) (some (.d (wt kd p))) j9 j10 j11 j12) ?_ rfl
          simp [bv, g]
        · have : x ≠ p := fun z => by subst z; exact hn hxc
          simp [this]
      | false =>
        have hc : p ∈ coins kd ps := mem_coins.mpr ⟨hp, q⟩
        have c : coins kd (pre ++ [p]) = coins kd pre ++ [p] := by simp [coins, q]
        have np : p ∉ pre := fun z => by
          have nd := w.nd
          rw [hx] at nd
          exact (List.nodup_append.mp nd).2.2 p z p (by simp) rfl
        have g := hP.at hc
        have cc := rComp_flt (src := iLst (xVar 9)) (tg := gTp [(gNm 11), (gNm 12)]) (t := tBin oEq (xVar 11) (vDix 1 (xVar 6))) (e := xVar 12) (vs := [11, 12])
          (s := bv (rowsD kd ps) (.dic kvs) (numD kd ps X) hi found ((coins kd pre).any fun p => decide (cst kd hi X f p ≠ f p)) (some (.d (.str p))) (some (.d (.str (kn kd p)))) (some (.d (wt kd p))) (some (.d (.lst ((ar kd p).map fun a => .tup [.str a, fr (X a)])))) j10 j11 j12)
          (s1 := bv (rowsD kd ps) (.dic kvs) (numD kd ps X) hi found ((coins kd pre).any fun p => decide (cst kd hi X f p ≠ f p)) (some (.d (.str p))) (some (.d (.str (kn kd p)))) (some (.d (wt kd p))) (some (.d (.lst ((ar kd p).map fun a => .tup [.str a, fr (X a)])))) j10 j11 j12)
          (ar kd p) (fun a => .tup [.str a, fr (X a)]) (fun a => decide (a = f p)) (fun a => fr (X a)) (by simp [bv]) (by simp [bv, h11, h12]) (by simp [bv]) (by
            intro a ha
            refine ⟨_, by simp [bv]; rfl, by simp [bv], ?_, fun _ => by simp⟩
            have o1 := nine_ok a (w.nm a (w.ar_mem hp ha))
            have o2 := nine_ok (f p) (w.nm _ (w.ar_mem hp (hf p hc)))
            simp [g, oEq_s o1 o2])
        have now : ((((ar kd p).filter fun a => decide (a = f p)).map fun a => fr (X a)))[0]? = some (fr (X (f p))) := by
          have hm : f p ∈ (ar kd p).filter fun a => decide (a = f p) := by simp [hf p hc]
          cases e : (ar kd p).filter fun a => decide (a = f p) with
          | nil => rw [e] at hm; simp at hm
          | cons x r =>
            have : x ∈ (ar kd p).filter fun a => decide (a = f p) := by rw [e]; simp
            have := (List.mem_filter.mp this).2
            simp at this
            simp [this]
        obtain ⟨found', i11, i12, nn1, nn2, m1, m2⟩ := better_in sx (R := rowsD kd ps) (P := .dic kvs) (N := numD kd ps X) (hi := hi) hc (j7 := some (.d (.str (kn kd p)))) (j8 := some (.d (wt kd p))) (j9 := some (.d (.lst ((ar kd p).map fun a => .tup [.str a, fr (X a)])))) (ar kd p) (f p) found _ ((coins kd pre).any fun p => decide (cst kd hi X f p ≠ f p)) j11 j12 hF (by simp [np]) h11 h12
        refine ⟨bv (rowsD kd ps) (.dic kvs) (numD kd ps X) hi found ((coins kd pre).any fun p => decide (cst kd hi X f p ≠ f p)) (some (.d (.str p))) (some (.d (.str (kn kd p)))) (some (.d (wt kd p))) j9 j10 j11 j12, bv (rowsD kd ps) (.dic kvs) (numD kd ps X) hi found' ((coins kd (pre ++ [p])).any fun p => decide (cst kd hi X f p ≠ f p)) (some (.d (.str p))) (some (.d (.str (kn kd p)))) (some (.d (wt kd p))) (some (.d (.lst ((ar kd p).map fun a => .tup [.str a, fr (X a)])))) (some (.d (fr (X ((ar kd p).foldl (bst hi X) (f p)))))) i11 i12, by simp [rwD, bv], ?_, _, _, _, _, _, _, _, found', m1.congr fun x hx => ?_, nn1, nn2, rfl⟩
        · rw [c, List.any_append]
          simp only [List.any_cons, List.any_nil, Bool.or_false]
          refine sIf_t (s' := bv (rowsD kd ps) (.dic kvs) (numD kd ps X) hi found ((coins kd pre).any fun p => decide (cst kd hi X f p ≠ f p)) (some (.d (.str p))) (some (.d (.str (kn kd p)))) (some (.d (wt kd p))) j9 j10 j11 j12) ?_ ?_
          · simp [bv, g]
          refine sSeq_nx (s' := bv (rowsD kd ps) (.dic kvs) (numD kd ps X) hi found ((coins kd pre).any fun p => decide (cst kd hi X f p ≠ f p)) (some (.d (.str p))) (some (.d (.str (kn kd p)))) (some (.d (wt kd p))) (some (.d (.lst ((ar kd p).map fun a => .tup [.str a, fr (X a)])))) j10 j11 j12) ?_ ?_
          · have := gains_of_ok w sx hp q
            simp [bv, this]
          refine sSeq_nx (s' := bv (rowsD kd ps) (.dic kvs) (numD kd ps X) hi found ((coins kd pre).any fun p => decide (cst kd hi X f p ≠ f p)) (some (.d (.str p))) (some (.d (.str (kn kd p)))) (some (.d (wt kd p))) (some (.d (.lst ((ar kd p).map fun a => .tup [.str a, fr (X a)])))) (some (.d (fr (X (f p))))) j11 j12) ?_ ?_
          · refine sAsg_of (d := fr (X (f p))) (s1 := bv (rowsD kd ps) (.dic kvs) (numD kd ps X) hi found ((coins kd pre).any fun p => decide (cst kd hi X f p ≠ f p)) (some (.d (.str p))) (some (.d (.str (kn kd p)))) (some (.d (wt kd p))) (some (.d (.lst ((ar kd p).map fun a => .tup [.str a, fr (X a)])))) j10 j11 j12) ?_ (by simp [bv])
            rw [xBin_ap, xFrz_f cc]
            simp only [xC_ap, oIx_l, atI_0, now, mLift_some']
          · exact sFor_of (by simp [bv]) m2
        · by_cases z : x = p
          · subst z; simp [cst]
          · simp [z])
    ⟨none, none, none, none, none, none, none, kvs, hP.congr fun x _ => by simp, rfl, rfl, rfl⟩
  refine ⟨found, k1.congr fun p hp => by simp [(mem_coins.mp hp).1], ?_⟩
  unfold F_better_plan psi_better_plan
  have e0 : sPar 4 5 (vDict 1) (rD (xC (.bl false))) ⟨start 13 [rowsD kd ps, .dic kvs, numD kd ps X, .bl hi], .no⟩ = some (.nx (bv (rowsD kd ps) (.dic kvs) (numD kd ps X) hi kvs false none none none none none none none)) := by
    simp [start, bv]
  cases q : (coins kd ps).any (fun p => decide (cst kd hi X f p ≠ f p)) with
  | true =>
    rw [q] at e1
    refine run_of rfl (sSeq_nx e0 (sSeq_nx (sFor_of (by simp [bv, rowsD]) e1) (sRet_of (s1 := ⟨[some (.d (rowsD kd ps)), some (.d (.dic kvs)), some (.d (numD kd ps X)), some (.d (.bl hi)), some (.d (.dic found)), some (.d (.bl true)), j6, j7, j8, j9, j10, j11, j12], .no⟩) ?_)))
    simp [bv]
  | false =>
    rw [q] at e1
    refine run_of rfl (sSeq_nx e0 (sSeq_nx (sFor_of (by simp [bv, rowsD]) e1) (sRet_of (s1 := bv (rowsD kd ps) (.dic kvs) (numD kd ps X) hi found false j6 j7 j8 j9 j10 j11 j12) ?_)))
    simp [bv]
end
end Dl
end

/-! ## Iter -/
section
set_option Elab.async false
set_option linter.all false
set_option maxRecDepth 100000
set_option maxHeartbeats 2000000
/-! The two sides' plans: what they come to. -/
namespace Dl
open PySem L2
theorem ar1 {x a b c M : Rat} (e : x = half * a + half * b) (h1 : a ≤ c) (h2 : b ≤ c) (h3 : c ≤ M) (h4 : x = M) : c = a ∧ a = M := by
  rw [half_eq] at e
  constructor <;> grind
theorem ar2 {x a b M : Rat} (e : x ≤ half * a + half * b) (h1 : a ≤ M) (h2 : b ≤ M) (h4 : x = M) : a = M := by
  rw [half_eq] at e
  grind
theorem ar3 {X Y xh yh xl yl xm : Rat} (e1 : X = half * xh + half * xl) (e2 : Y = half * yh + half * yl) (h : xm ≤ xl) : Y - X ≤ half * (yh - xh) + half * (yl - xm) := by
  rw [half_eq] at *
  grind
theorem ar4 {X Y xh yh xl yl xm : Rat} (e1 : X = half * xh + half * xl) (e2 : Y = half * yh + half * yl) (h : xm < xl) (h1 : yh - xh ≤ 0) (h2 : yl - xm ≤ 0) : Y < X := by
  rw [half_eq] at *
  grind
theorem ar5 {X Y xh yh xg xl ym xm : Rat} (e1 : X = half * xh + half * xl) (e2 : Y = half * yh + half * ym) (h : xh ≤ xg) (h2 : xl ≤ xm) : X - Y ≤ half * (xg - yh) + half * (xm - ym) := by
  rw [half_eq] at *
  grind
theorem ar6 {X Y xh yh xg xl ym xm : Rat} (e1 : X = half * xh + half * xl) (e2 : Y = half * yh + half * ym) (h : xh < xg) (h2 : xl ≤ xm) (h3 : xg - yh ≤ 0) (h4 : xm - ym ≤ 0) : X < Y := by
  rw [half_eq] at *
  grind
theorem ar7 {a b : Rat} (h : a - b ≤ 0) : a ≤ b := by grind
inductive Rch (kd : Str → Rat ⊕ List Str) (h : Str → Str) : Str → Prop
  | e {p : Str} (q : isE kd p = true) : Rch kd h p
  | s {p : Str} (r : Rch kd h (h p)) : Rch kd h p
theorem max_pr (d : Str → Rat) : ∀ (ps : List Str), ps ≠ [] → ∃ m ∈ ps, ∀ x ∈ ps, d x ≤ d m
  | [], h => absurd rfl h
  | [a], _ => ⟨a, by simp, fun x hx => by simp at hx; subst hx; grind⟩
  | a :: b :: r, _ => by
    obtain ⟨m, h1, h2⟩ := max_pr d (b :: r) (by simp)
    by_cases q : d a ≤ d m
    · exact ⟨m, by simp at h1 ⊢; grind, fun x hx => by
        rcases List.mem_cons.mp hx with rfl | hx
        · exact q
        · exact h2 x hx⟩
    · exact ⟨a, by simp, fun x hx => by
        rcases List.mem_cons.mp hx with rfl | hx
        · grind
        · have := h2 x hx
          grind⟩
section
variable {kd : Str → Rat ⊕ List Str} {ps : List Str} {h l : Str → Str}
/-- each coin's place in the plan is one of its arrows -/
def Op (kd : Str → Rat ⊕ List Str) (ps : List Str) (h : Str → Str) : Prop := ∀ p ∈ coins kd ps, h p ∈ ar kd p
theorem Op.mem (w : Wf kd ps) (hh : Op kd ps h) {p : Str} (hp : p ∈ coins kd ps) : h p ∈ ps := w.ar_mem (mem_coins.mp hp).1 (hh p hp)
theorem sub_harm (w : Wf kd ps) (hh : Op kd ps h) (hl : Op kd ps l) (pr : ∀ p ∈ coins kd ps, Rch kd h p) (d : Str → Rat) (d0 : ∀ e, e ∉ coins kd ps → d e ≤ 0)
    (d1 : ∀ p ∈ coins kd ps, d p ≤ half * d (h p) + half * d (l p)) : ∀ p ∈ ps, d p ≤ 0 := by
  have hhalf := half_eq
  obtain ⟨m, hm, hx⟩ := max_pr d ps (by have := w.len1; intro z; subst z; simp at this)
  by_cases q : d m ≤ 0
  · exact fun p hp => by
      have := hx p hp
      grind (ematch := 0)
  · exfalso
    have key : ∀ p, Rch kd h p → p ∈ ps → d p = d m → False := by
      intro p r
      induction r with
      | e q2 =>
        intro hp e
        have := d0 _ (fun z => by rw [mem_coins, q2] at z; exact absurd z.2 (by decide))
        grind (ematch := 0)
      | @s p r ih =>
        intro hp e
        by_cases hc : p ∈ coins kd ps
        · have a1 := d1 p hc
          have a2 := hx _ (hh.mem w hc)
          have a3 := hx _ (hl.mem w hc)
          exact ih (hh.mem w hc) (ar2 a1 a2 a3 e)
        · have := d0 p hc
          grind (ematch := 0)
    by_cases hc : m ∈ coins kd ps
    · exact key m (pr m hc) hm rfl
    · exact q (d0 m hc)
theorem inj_of (w : Wf kd ps) (hh : Op kd ps h) (hl : Op kd ps l) (pr : ∀ p ∈ coins kd ps, Rch kd h p) (Y : Str → Rat) (y0 : ∀ q, q ∉ coins kd ps → Y q = 0) (y1 : ∀ p ∈ coins kd ps, Y p = half * Y (h p) + half * Y (l p)) : ∀ p ∈ coins kd ps, Y p = 0 := by
  intro p hp
  have a := sub_harm w hh hl pr Y (fun e he => by rw [y0 e he]; grind (ematch := 0)) (fun q hq => by rw [← y1 q hq]; grind (ematch := 0)) p (mem_coins.mp hp).1
  have b := sub_harm w hh hl pr (fun q => - Y q) (fun e he => by have := y0 e he; grind (ematch := 0)) (fun q hq => by have := y1 q hq; grind (ematch := 0)) p (mem_coins.mp hp).1
  grind (ematch := 0)
/-- the numbers by two plans -/
structure Sl (kd : Str → Rat ⊕ List Str) (ps : List Str) (h l : Str → Str) (X : Str → Rat) : Prop where
  out : ∀ e, e ∉ coins kd ps → X e = vl kd e
  eq : ∀ p ∈ coins kd ps, X p = half * X (h p) + half * X (l p)
theorem Sl.uniq (w : Wf kd ps) (hh : Op kd ps h) (hl : Op kd ps l) (pr : ∀ p ∈ coins kd ps, Rch kd h p) {X Y : Str → Rat} (a : Sl kd ps h l X) (b : Sl kd ps h l Y) : ∀ p, X p = Y p := by
  have key := inj_of w hh hl pr (fun q => X q - Y q) (fun q hq => by rw [a.out q hq, b.out q hq]; grind (ematch := 0)) (fun p hp => by
    have := a.eq p hp
    have := b.eq p hp
    grind (ematch := 0))
  intro p
  by_cases hc : p ∈ coins kd ps
  · have := key p hc
    grind (ematch := 0)
  · rw [a.out p hc, b.out p hc]
theorem Sl.congr {h' l' : Str → Str} {X : Str → Rat} (a : Sl kd ps h l X) (e1 : ∀ p ∈ coins kd ps, h p = h' p) (e2 : ∀ p ∈ coins kd ps, l p = l' p) : Sl kd ps h' l' X := ⟨a.out, fun p hp => by rw [← e1 p hp, ← e2 p hp]; exact a.eq p hp⟩
def sumL : List Rat → Rat
  | [] => 0
  | a :: r => a + sumL r
theorem sum_le {X Y : Str → Rat} : ∀ {ps : List Str}, (∀ p ∈ ps, X p ≤ Y p) → sumL (ps.map X) ≤ sumL (ps.map Y)
  | [], _ => by simp [sumL]
  | a :: r, h => by
    have := sum_le (ps := r) fun p hp => h p (by simp [hp])
    have := h a (by simp)
    simp only [List.map_cons, sumL]
    grind (ematch := 0)
theorem sum_lt {X Y : Str → Rat} : ∀ {ps : List Str}, (∀ p ∈ ps, X p ≤ Y p) → (∃ p ∈ ps, X p < Y p) → sumL (ps.map X) < sumL (ps.map Y)
  | [], _, ⟨p, hp, _⟩ => by simp at hp
  | a :: r, h, ⟨p, hp, hlt⟩ => by
    have h1 := h a (by simp)
    simp only [List.map_cons, sumL]
    rcases List.mem_cons.mp hp with rfl | hp
    · have := sum_le (ps := r) fun p hp => h p (by simp [hp])
      grind (ematch := 0)
    · have := sum_lt (ps := r) (fun p hp => h p (by simp [hp])) ⟨p, hp, hlt⟩
      grind (ematch := 0)
/-- all plans -/
def plans (kd : Str → Rat ⊕ List Str) : List Str → List (Str → Str)
  | [] => [id]
  | c :: r => (ar kd c).flatMap fun a => (plans kd r).map fun f => fun q => if q = c then a else f q
theorem plans_mem : ∀ (cs : List Str) (f : Str → Str), (∀ p ∈ cs, f p ∈ ar kd p) → ∃ g ∈ plans kd cs, ∀ p ∈ cs, g p = f p
  | [], f, _ => ⟨id, by simp [plans], by simp⟩
  | c :: r, f, h => by
    obtain ⟨g, h1, h2⟩ := plans_mem r f fun p hp => h p (by simp [hp])
    refine ⟨fun q => if q = c then f c else g q, ?_, fun p hp => ?_⟩
    · simp only [plans, List.mem_flatMap, List.mem_map]
      exact ⟨f c, h c (by simp), g, h1, rfl⟩
    · by_cases q : p = c
      · subst q; simp
      · simp [q, h2 p (by simpa [q] using hp)]
/-- how many of the plans are worth less -/
def meas {β : Type} (P : List β) (v : β → Rat) (x : Rat) : Nat := (P.filter fun g => decide (v g < x)).length
theorem meas_lt {β : Type} (v : β → Rat) {x y : Rat} (hxy : x < y) : ∀ (P : List β), (∃ g ∈ P, v g = x) → meas P v x < meas P v y
  | [], ⟨g, hg, _⟩ => by simp at hg
  | a :: r, ⟨g, hg, e⟩ => by
    have mono : ∀ r : List β, meas r v x ≤ meas r v y := by
      intro r
      induction r with
      | nil => simp [meas]
      | cons b q ih =>
        unfold meas at *
        by_cases z : v b < x
        · have z2 : v b < y := by grind (ematch := 0)
          simp [z, z2, ih]
        · by_cases z2 : v b < y
          · simp [z, z2]; omega
          · simp [z, z2, ih]
    rcases List.mem_cons.mp hg with rfl | hg
    · have m := mono r
      unfold meas at *
      have z : ¬ v g < x := by rw [e]; grind (ematch := 0)
      have z2 : v g < y := by rw [e]; exact hxy
      simp [z, z2]
      omega
    · have m := meas_lt v hxy r ⟨g, hg, e⟩
      unfold meas at *
      by_cases z : v a < x
      · have z2 : v a < y := by grind (ematch := 0)
        simp [z, z2, m]
      · by_cases z2 : v a < y
        · simp [z, z2]; omega
        · simp [z, z2, m]
open Classical in
/-- the sum of what fulfils a demand -/
noncomputable def valOf (ps : List Str) (Pr : (Str → Rat) → Prop) : Rat := if h : ∃ X, Pr X then sumL (ps.map (Classical.choose h)) else 0
theorem valOf_eq {ps : List Str} {Pr : (Str → Rat) → Prop} {X : Str → Rat} (hX : Pr X) (u : ∀ Y, Pr Y → ∀ p, Y p = X p) : valOf ps Pr = sumL (ps.map X) := by
  unfold valOf
  rw [dif_pos ⟨X, hX⟩]
  have := Classical.choose_spec (⟨X, hX⟩ : ∃ X, Pr X)
  congr 1
  exact List.map_congr_left fun p _ => u _ this p
/-! a step of the low side -/
theorem low_step (w : Wf kd ps) (hh : Op kd ps h) (hl : Op kd ps l) (pr : ∀ p ∈ coins kd ps, Rch kd h p) {X Y : Str → Rat} (a : Sl kd ps h l X) {l' : Str → Str} (hl' : Op kd ps l') (b : Sl kd ps h l' Y)
    (le : ∀ p ∈ coins kd ps, X (l' p) ≤ X (l p)) : (∀ p ∈ ps, Y p ≤ X p) ∧ ∀ p ∈ coins kd ps, X (l' p) < X (l p) → Y p < X p := by
  have key := sub_harm w hh hl' pr (fun q => Y q - X q) (fun e he => by
    have e1 := a.out e he
    have e2 := b.out e he
    clear pr a b le hh hl hl'
    rw [e1, e2]
    grind) (fun p hp => ar3 (a.eq p hp) (b.eq p hp) (le p hp))
  exact ⟨fun p hp => ar7 (key p hp), fun p hp hlt => ar4 (a.eq p hp) (b.eq p hp) hlt (key _ (hh.mem w hp)) (key _ (hl'.mem w hp))⟩
/-- the low side's answer -/
structure Lw (kd : Str → Rat ⊕ List Str) (ps : List Str) (h : Str → Str) (X : Str → Rat) : Prop where
  out : ∀ e, e ∉ coins kd ps → X e = vl kd e
  low : ∃ l, Op kd ps l ∧ (∀ p ∈ coins kd ps, X p = half * X (h p) + half * X (l p)) ∧ ∀ p ∈ coins kd ps, ∀ a ∈ ar kd p, X (l p) ≤ X a
theorem Lw.le (w : Wf kd ps) {h' : Str → Str} (hh : Op kd ps h) (hh' : Op kd ps h') (pr : ∀ p ∈ coins kd ps, Rch kd h' p) {X Y : Str → Rat} (a : Lw kd ps h X) (b : Lw kd ps h' Y)
    (le : ∀ p ∈ coins kd ps, X (h p) ≤ X (h' p)) : (∀ p ∈ ps, X p ≤ Y p) ∧ ∀ p ∈ coins kd ps, X (h p) < X (h' p) → X p < Y p := by
  obtain ⟨l, l1, l2, l3⟩ := a.low
  obtain ⟨m, m1, m2, m3⟩ := b.low
  have key := sub_harm w hh' m1 pr (fun q => X q - Y q) (fun e he => by
    have e1 := a.out e he
    have e2 := b.out e he
    clear pr a b le hh hh' l3 m3 l2 m2 l1 m1
    rw [e1, e2]
    grind) (fun p hp => ar5 (l2 p hp) (m2 p hp) (le p hp) (l3 p hp (m p) (m1 p hp)))
  exact ⟨fun p hp => ar7 (key p hp), fun p hp hlt => ar6 (l2 p hp) (m2 p hp) hlt (l3 p hp (m p) (m1 p hp)) (key _ (hh'.mem w hp)) (key _ (m1.mem w hp))⟩
theorem Lw.uniq (w : Wf kd ps) (hh : Op kd ps h) (pr : ∀ p ∈ coins kd ps, Rch kd h p) {X Y : Str → Rat} (a : Lw kd ps h X) (b : Lw kd ps h Y) : ∀ p, X p = Y p := by
  intro p
  by_cases hc : p ∈ coins kd ps
  · have h1 := (Lw.le w hh hh pr a b fun p _ => by grind (ematch := 0)).1 p (mem_coins.mp hc).1
    have h2 := (Lw.le w hh hh pr b a fun p _ => by grind (ematch := 0)).1 p (mem_coins.mp hc).1
    grind (ematch := 0)
  · rw [a.out p hc, b.out p hc]
theorem Lw.congr {h' : Str → Str} {X : Str → Rat} (a : Lw kd ps h X) (e : ∀ p ∈ coins kd ps, h p = h' p) : Lw kd ps h' X := ⟨a.out, by
  obtain ⟨l, l1, l2, l3⟩ := a.low
  exact ⟨l, l1, fun p hp => by rw [← e p hp]; exact l2 p hp, l3⟩⟩
theorem Rch.congr (w : Wf kd ps) {h' : Str → Str} (hh : Op kd ps h) (e : ∀ p ∈ coins kd ps, h p = h' p) {p : Str} (r : Rch kd h p) (hp : p ∈ ps) : Rch kd h' p := by
  induction r with
  | e q => exact .e q
  | @s p r ih =>
    cases q : isE kd p with
    | true => exact .e q
    | false =>
      have hc : p ∈ coins kd ps := mem_coins.mpr ⟨hp, q⟩
      have := ih (hh.mem w hc)
      rw [e p hc] at this
      exact .s this
/-- a better plan still leads to an end -/
theorem still (w : Wf kd ps) (hh : Op kd ps h) (pr : ∀ p ∈ coins kd ps, Rch kd h p) {X : Str → Rat} (a : Lw kd ps h X) {h' : Str → Str} (hh' : Op kd ps h') (best : ∀ p ∈ coins kd ps, ∀ b ∈ ar kd p, X b ≤ X (h' p))
    (keep : ∀ p ∈ coins kd ps, X (h' p) = X (h p) → h' p = h p) : ∀ p ∈ coins kd ps, Rch kd h' p := by
  have hhalf := half_eq
  obtain ⟨l, l1, l2, l3⟩ := a.low
  by_cases hz : ∃ p ∈ coins kd ps, ¬ Rch kd h' p
  · exfalso
    obtain ⟨p0, hp0, hn0⟩ := hz
    let Z := (coins kd ps).filter fun p => @decide (¬ Rch kd h' p) (Classical.propDecidable _)
    have hZ : ∀ p, p ∈ Z ↔ p ∈ coins kd ps ∧ ¬ Rch kd h' p := fun p => by simp [Z]
    obtain ⟨m, hm, hx⟩ := max_pr X Z (fun z => by have := (hZ p0).mpr ⟨hp0, hn0⟩; rw [z] at this; simp at this)
    have step : ∀ p, p ∈ Z → h' p ∈ Z := fun p hp => by
      obtain ⟨h1, h2⟩ := (hZ p).mp hp
      have h3 : ¬ Rch kd h' (h' p) := fun r => h2 (.s r)
      refine (hZ _).mpr ⟨mem_coins.mpr ⟨hh'.mem w h1, ?_⟩, h3⟩
      cases q : isE kd (h' p) with
      | true => exact absurd (.e q) h3
      | false => rfl
    have key : ∀ p, Rch kd h p → p ∈ Z → X p = X m → False := by
      intro p r
      induction r with
      | e q =>
        intro hp _
        exact ((hZ _).mp hp).2 (.e q)
      | @s p r ih =>
        intro hp e
        have hc := ((hZ p).mp hp).1
        have a1 := l2 p hc
        have a2 := best p hc (h p) (hh p hc)
        have a3 := best p hc (l p) (l1 p hc)
        have a4 := hx _ (step p hp)
        have a5 := ar1 a1 a2 a3 a4 e
        have a6 := keep p hc a5.1
        refine ih ?_ a5.2
        rw [← a6]
        exact step p hp
    exact key m (pr m ((hZ m).mp hm).1) hm rfl
  · intro p hp
    by_cases q : Rch kd h' p
    · exact q
    · exact absurd ⟨p, hp, q⟩ hz
end
end Dl
end

/-! ## Iter2 -/
section
set_option Elab.async false
set_option linter.all false
set_option maxRecDepth 100000
set_option maxHeartbeats 2000000
/-! The two sides' loops. -/
namespace Dl
open PySem L2
section
variable {kd : Str → Rat ⊕ List Str} {ps : List Str} {h l : Str → Str}
theorem numbers_ok (w : Wg kd ps) {hk lk : List (Str × D)} (Ph : Pl hk (coins kd ps) h) (Pll : Pl lk (coins kd ps) l) (hh : Op kd ps h) (hl : Op kd ps l) (pr : ∀ p ∈ coins kd ps, Rch kd h p) :
    ∃ X, F_moves_by [rowsD kd ps, .dic hk, .dic lk] = some (.dic (dicOf (coins kd ps) (mvD h l))) ∧ F_numbers_by [rowsD kd ps, .dic (dicOf (coins kd ps) (mvD h l))] = some (numD kd ps X) ∧ Sl kd ps h l X ∧ ∀ p, Sz 1045 (X p) := by
  obtain ⟨X, x1, x2, x3, x4⟩ := numbers_by_ok w hh hl fun Y y0 y1 => inj_of w.toWf hh hl pr Y y0 y1
  exact ⟨X, moves_by_ok w Ph Pll, x1, ⟨x2, x3⟩, x4⟩
theorem cst_op (w : Wf kd ps) {hi : Bool} {X : Str → Rat} {f : Str → Str} (hf : Op kd ps f) : Op kd ps (cst kd hi X f) := fun p hp => by
  rcases cst_cases (kd := kd) hi X f p with e | e
  · rw [e]; exact hf p hp
  · exact e.1
def fst_ (kd : Str → Rat ⊕ List Str) (p : Str) : Str := (ar kd p).getD 0 ⟨#[]⟩
theorem fst_ok (w : Wf kd ps) {p : Str} (hp : p ∈ coins kd ps) : (ar kd p)[0]? = some (fst_ kd p) ∧ fst_ kd p ∈ ar kd p := by
  have hm := mem_coins.mp hp
  unfold fst_
  have : 1 ≤ (ar kd p).length := by
    unfold ar
    unfold isE at hm
    cases e : kd p with
    | inl q => rw [e] at hm; simp at hm
    | inr as => exact (w.arr p hm.1 as e).1
  have h0 : 0 < (ar kd p).length := by omega
  simp [List.getD, h0]
theorem low_ok (w : Wg kd ps) {hk : List (Str × D)} (Ph : Pl hk (coins kd ps) h) (hh : Op kd ps h) (pr : ∀ p ∈ coins kd ps, Rch kd h p) :
    ∃ X, F_low_answer [rowsD kd ps, .dic hk] = some (numD kd ps X) ∧ Lw kd ps h X ∧ ∀ p, Sz 1045 (X p) := by
  have c1 := rComp_flt (src := iTup (xVar 0)) (tg := gTp [(gNm 3), (gNm 4), (gNm 5)]) (t := tBin oIn (xVar 4) (xTup [(xC (.str "theirs")), (xC (.str "coin"))])) (e := xTup [(xVar 3), (xBin oIx (xCall F_arrows_of [(xVar 4), (xVar 5)]) (xC (.int 0)))]) (vs := [3, 4, 5])
    (s := ⟨start 7 [rowsD kd ps, .dic hk], .no⟩) (s1 := ⟨start 7 [rowsD kd ps, .dic hk], .no⟩)
    ps (rwD kd) (fun p => !isE kd p) (fun p => .tup [.str p, .str (fst_ kd p)]) (by simp [start, rowsD]) (by simp [start]) (by simp [start]) (by
      intro p hp
      refine ⟨_, by simp [start, rwD]; rfl, by simp [start], ?_, fun he => ?_⟩
      · simp [kn_in3]
      · have hc : p ∈ coins kd ps := mem_coins.mpr ⟨hp, by simpa using he⟩
        have f := (fst_ok w.toWf hc).1
        simp [arrows_of_ok, f])
  have c2 : sSet 2 (rDict (xFrz (rComp (iTup (xVar 0)) (gTp [(gNm 3), (gNm 4), (gNm 5)]) (tBin oIn (xVar 4) (xTup [(xC (.str "theirs")), (xC (.str "coin"))])) (xTup [(xVar 3), (xBin oIx (xCall F_arrows_of [(xVar 4), (xVar 5)]) (xC (.int 0)))]) [3, 4, 5])))
      ⟨start 7 [rowsD kd ps, .dic hk], .no⟩ = some (.nx ⟨[some (.d (rowsD kd ps)), some (.d (.dic hk)), some (.dct (dicOf (coins kd ps) fun p => .str (fst_ kd p))), none, none, none, none], .no⟩) := by
    have e := dAll_of [] (coins kd ps) (fun p => D.str (fst_ kd p)) (by rw [List.nil_append]; exact w.nd.filter _)
    have e' : dAll [] (dicOf (coins kd ps) (fun p => D.str (fst_ kd p))) = dicOf (coins kd ps) (fun p => D.str (fst_ kd p)) := by simpa [dicOf] using e
    have p := pairsOf_of (coins kd ps) (fun p => D.str (fst_ kd p))
    have : (dicOf (coins kd ps) (fun p => D.str (fst_ kd p))).length ≤ 1000 := by
      rw [dicOf_length]
      have : (coins kd ps).length ≤ 3 := w.few
      omega
    refine (sSet_of (i := 2) (r := .fd (dAll [] (dicOf (coins kd ps) (fun p => D.str (fst_ kd p))))) (s1 := ⟨start 7 [rowsD kd ps, .dic hk], .no⟩) ?_ (by simp [start])).trans ?_
    · rw [rDict_ap, xFrz_f c1]
      dsimp only
      unfold coins at p this ⊢
      rw [p]
      dsimp only
      rw [if_pos this]
    · rw [e']
      simp [start]
  let val : (Str → Str) → Rat := fun l => valOf ps (Sl kd ps h l)
  let P := plans kd (coins kd ps)
  obtain ⟨s', e1, X, l, hl, hX, sx, best, j3, j4, j5, rfl⟩ := sWhile_inv (t := tUn oNotN (xVar 2)) (b := (sSeq (sAsg (gNm 6) (xCall F_numbers_by [(xVar 0), (xCall F_moves_by [(xVar 0), (xVar 1), (xVar 2)])])) (sAsg (gNm 2) (xCall F_better_plan [(xVar 0), (xVar 2), (xVar 6), (xC (.bl false))]))))
    (fun (a : Option (Str → Str)) s => match a with
      | some l => Op kd ps l ∧ ∃ kvs a2 j6, Pl kvs (coins kd ps) l ∧ (a2 = some (.d (.dic kvs)) ∨ a2 = some (.dct kvs)) ∧ s = ⟨[some (.d (rowsD kd ps)), some (.d (.dic hk)), a2, none, none, none, j6], .no⟩
      | none => ∃ X l, Op kd ps l ∧ Sl kd ps h l X ∧ (∀ p, Sz 1045 (X p)) ∧ (∀ p ∈ coins kd ps, ∀ a ∈ ar kd p, X (l p) ≤ X a) ∧ s = ⟨[some (.d (rowsD kd ps)), some (.d (.dic hk)), some (.d .non), none, none, none, some (.d (numD kd ps X))], .no⟩)
    (fun a => match a with
      | some l => meas P val (val l) + 1
      | none => 0)
    (fun s => ∃ X l, Op kd ps l ∧ Sl kd ps h l X ∧ (∀ p, Sz 1045 (X p)) ∧ (∀ p ∈ coins kd ps, ∀ a ∈ ar kd p, X (l p) ≤ X a) ∧ ∃ j3 j4 j5, s = ⟨[some (.d (rowsD kd ps)), some (.d (.dic hk)), some (.d .non), j3, j4, j5, some (.d (numD kd ps X))], .no⟩) (by
      rintro (_ | l) s I
      · obtain ⟨X, l, hl, hX, sx, best, rfl⟩ := I
        exact .inl ⟨_, by simp, X, l, hl, hX, sx, best, none, none, none, rfl⟩
      · obtain ⟨hl, kvs, a2, j6, hP, ha2, rfl⟩ := I
        right
        obtain ⟨X, m1, m2, hX, sx⟩ := numbers_ok w Ph hP hh hl pr
        obtain ⟨kvs', hP', hb⟩ := better_ok (hi := false) w.toWf sx hP hl
        have tt : tUn oNotN (xVar 2) ⟨[some (.d (rowsD kd ps)), some (.d (.dic hk)), a2, none, none, none, j6], .no⟩ = some (true, ⟨[some (.d (rowsD kd ps)), some (.d (.dic hk)), some (.d (.dic kvs)), none, none, none, j6], .no⟩) := by
          rcases ha2 with rfl | rfl <;> simp
        have n1 : sAsg (gNm 6) (xCall F_numbers_by [(xVar 0), (xCall F_moves_by [(xVar 0), (xVar 1), (xVar 2)])]) ⟨[some (.d (rowsD kd ps)), some (.d (.dic hk)), some (.d (.dic kvs)), none, none, none, j6], .no⟩ = some (.nx ⟨[some (.d (rowsD kd ps)), some (.d (.dic hk)), some (.d (.dic kvs)), none, none, none, some (.d (numD kd ps X))], .no⟩) := by
          simp [m1, m2]
        have hl' := cst_op (X := X) (hi := false) w.toWf hl
        have le : ∀ p ∈ coins kd ps, X (cst kd false X l p) ≤ X (l p) := fun p hp => by
          rcases cst_cases (kd := kd) false X l p with e | e
          · rw [e]; grind
          · have := e.2
            unfold btr at this
            simp at this
            grind
        cases q : (coins kd ps).any (fun p => decide (cst kd false X l p ≠ l p)) with
        | false =>
          rw [q] at hb
          have ke : ∀ p ∈ coins kd ps, cst kd false X l p = l p := fun p hp => by
            have := List.any_eq_false.mp q p hp
            simpa using this
          refine ⟨_, ⟨[some (.d (rowsD kd ps)), some (.d (.dic hk)), some (.d .non), none, none, none, some (.d (numD kd ps X))], .no⟩, none, tt, sSeq_nx n1 ?_, ⟨X, l, hl, hX, sx, fun p hp a ha => ?_, rfl⟩, by simp⟩
          · simp [hb]
          · have := cst_best (kd := kd) false X l p a ha
            rw [ke p hp] at this
            unfold btr at this
            exact Rat.not_lt.mp (by simpa using this)
        | true =>
          rw [q] at hb
          refine ⟨_, ⟨[some (.d (rowsD kd ps)), some (.d (.dic hk)), some (.d (.dic kvs')), none, none, none, some (.d (numD kd ps X))], .no⟩, some (cst kd false X l), tt, sSeq_nx n1 ?_, ⟨hl', kvs', _, _, hP', .inl rfl, rfl⟩, ?_⟩
          · simp [hb]
          · obtain ⟨Y, _, _, hY, _⟩ := numbers_ok w Ph hP' hh hl' pr
            obtain ⟨p0, hp0, hne⟩ := List.any_eq_true.mp q
            have hne : cst kd false X l p0 ≠ l p0 := by simpa using hne
            have st : X (cst kd false X l p0) < X (l p0) := by
              rcases cst_cases (kd := kd) false X l p0 with e | e
              · exact absurd e hne
              · have := e.2
                unfold btr at this
                simpa using this
            obtain ⟨s1, s2⟩ := low_step w.toWf hh hl pr hX hl' hY le
            have v1 : val l = sumL (ps.map X) := valOf_eq hX fun Z hZ p => Sl.uniq w.toWf hh hl pr hZ hX p
            have v2 : val (cst kd false X l) = sumL (ps.map Y) := valOf_eq hY fun Z hZ p => Sl.uniq w.toWf hh hl' pr hZ hY p
            have lt : val (cst kd false X l) < val l := by
              rw [v1, v2]
              exact sum_lt s1 ⟨p0, (mem_coins.mp hp0).1, s2 p0 hp0 st⟩
            have := meas_lt val lt P (by
              obtain ⟨g, g1, g2⟩ := plans_mem (coins kd ps) (cst kd false X l) hl'
              have hg : Op kd ps g := fun p hp => by rw [g2 p hp]; exact hl' p hp
              refine ⟨g, g1, ?_⟩
              rw [v2]
              have hY' : Sl kd ps h g Y := hY.congr (fun _ _ => rfl) fun p hp => (g2 p hp).symm
              exact valOf_eq hY' fun Z hZ p => Sl.uniq w.toWf hh hg pr hZ hY' p)
            dsimp only
            omega)
    (some (fst_ kd)) ⟨[some (.d (rowsD kd ps)), some (.d (.dic hk)), some (.dct (dicOf (coins kd ps) fun p => .str (fst_ kd p))), none, none, none, none], .no⟩
    ⟨fun p hp => (fst_ok w.toWf hp).2, dicOf (coins kd ps) fun p => .str (fst_ kd p), _, none, ⟨fun p => dGet_of _ _ p, by
      rw [dicOf_length]
      have : (coins kd ps).length ≤ 3 := w.few
      omega⟩, .inr rfl, rfl⟩
  refine ⟨X, ?_, ⟨hX.out, l, hl, hX.eq, best⟩, sx⟩
  unfold F_low_answer psi_low_answer
  refine run_of rfl (s := ⟨[some (.d (rowsD kd ps)), some (.d (.dic hk)), some (.d .non), j3, j4, j5, some (.d (numD kd ps X))], .no⟩) (sSeq_nx c2 (sSeq_nx e1 ?_))
  simp
/-- the numbers of the chain's game -/
structure Nm (kd : Str → Rat ⊕ List Str) (ps : List Str) (X : Str → Rat) : Prop where
  out : ∀ e, e ∉ coins kd ps → X e = vl kd e
  mid : ∃ h l, Op kd ps h ∧ Op kd ps l ∧ ∀ p ∈ coins kd ps, X p = half * X (h p) + half * X (l p) ∧ ∀ a ∈ ar kd p, X (l p) ≤ X a ∧ X a ≤ X (h p)
  sz : ∀ p, Sz 1045 (X p)
theorem worths_ok (w : Wg kd ps) (near : ∃ hk h, F_nearest_plan [rowsD kd ps] = some (.dic hk) ∧ Pl hk (coins kd ps) h ∧ Op kd ps h ∧ ∀ p ∈ coins kd ps, Rch kd h p) :
    ∃ X, F_worths_of [rowsD kd ps] = some (numD kd ps X) ∧ Nm kd ps X := by
  obtain ⟨hk, h, n1, n2, n3, n4⟩ := near
  let val : (Str → Str) → Rat := fun h => - valOf ps (Lw kd ps h)
  let P := plans kd (coins kd ps)
  obtain ⟨s', e1, X, hX, rfl⟩ := sWhile_inv (t := tUn oNotN (xVar 1)) (b := (sSeq (sAsg (gNm 2) (xCall F_low_answer [(xVar 0), (xVar 1)])) (sAsg (gNm 1) (xCall F_better_plan [(xVar 0), (xVar 1), (xVar 2), (xC (.bl true))]))))
    (fun (a : Option (Str → Str)) s => match a with
      | some h => Op kd ps h ∧ (∀ p ∈ coins kd ps, Rch kd h p) ∧ ∃ kvs j2, Pl kvs (coins kd ps) h ∧ s = ⟨[some (.d (rowsD kd ps)), some (.d (.dic kvs)), j2], .no⟩
      | none => ∃ X, Nm kd ps X ∧ s = ⟨[some (.d (rowsD kd ps)), some (.d .non), some (.d (numD kd ps X))], .no⟩)
    (fun a => match a with
      | some l => meas P val (val l) + 1
      | none => 0)
    (fun s => ∃ X, Nm kd ps X ∧ s = ⟨[some (.d (rowsD kd ps)), some (.d .non), some (.d (numD kd ps X))], .no⟩) (by
      rintro (_ | h) s I
      · obtain ⟨X, hX, rfl⟩ := I
        exact .inl ⟨_, by simp, X, hX, rfl⟩
      · obtain ⟨hh, pr, kvs, j2, hP, rfl⟩ := I
        right
        obtain ⟨X, m1, hX, sx⟩ := low_ok w hP hh pr
        obtain ⟨kvs', hP', hb⟩ := better_ok (hi := true) w.toWf sx hP hh
        have tt : tUn oNotN (xVar 1) ⟨[some (.d (rowsD kd ps)), some (.d (.dic kvs)), j2], .no⟩ = some (true, ⟨[some (.d (rowsD kd ps)), some (.d (.dic kvs)), j2], .no⟩) := by
          simp
        have n1 : sAsg (gNm 2) (xCall F_low_answer [(xVar 0), (xVar 1)]) ⟨[some (.d (rowsD kd ps)), some (.d (.dic kvs)), j2], .no⟩ = some (.nx ⟨[some (.d (rowsD kd ps)), some (.d (.dic kvs)), some (.d (numD kd ps X))], .no⟩) := by
          simp [m1]
        have hh' := cst_op (X := X) (hi := true) w.toWf hh
        have best : ∀ p ∈ coins kd ps, ∀ b ∈ ar kd p, X b ≤ X (cst kd true X h p) := fun p hp b hb => by
          have := cst_best (kd := kd) true X h p b hb
          unfold btr at this
          exact Rat.not_lt.mp (by simpa using this)
        have le : ∀ p ∈ coins kd ps, X (h p) ≤ X (cst kd true X h p) := fun p hp => best p hp _ (hh p hp)
        cases q : (coins kd ps).any (fun p => decide (cst kd true X h p ≠ h p)) with
        | false =>
          rw [q] at hb
          have ke : ∀ p ∈ coins kd ps, cst kd true X h p = h p := fun p hp => by
            have := List.any_eq_false.mp q p hp
            simpa using this
          obtain ⟨l, l1, l2, l3⟩ := hX.low
          refine ⟨_, ⟨[some (.d (rowsD kd ps)), some (.d .non), some (.d (numD kd ps X))], .no⟩, none, tt, sSeq_nx n1 ?_, ⟨X, ⟨hX.out, ⟨h, l, hh, l1, fun p hp => ⟨l2 p hp, fun a ha => ⟨l3 p hp a ha, ?_⟩⟩⟩, sx⟩, rfl⟩, by simp⟩
          · simp [hb]
          · have := best p hp a ha
            rw [ke p hp] at this
            exact this
        | true =>
          rw [q] at hb
          have pr' := still w.toWf hh pr hX hh' best fun p hp e => by
            rcases cst_cases (kd := kd) true X h p with z | z
            · exact z
            · have := z.2
              unfold btr at this
              simp at this
              grind
          refine ⟨_, ⟨[some (.d (rowsD kd ps)), some (.d (.dic kvs')), some (.d (numD kd ps X))], .no⟩, some (cst kd true X h), tt, sSeq_nx n1 ?_, ⟨hh', pr', kvs', _, hP', rfl⟩, ?_⟩
          · simp [hb]
          · obtain ⟨Y, _, hY, _⟩ := low_ok w hP' hh' pr'
            obtain ⟨p0, hp0, hne⟩ := List.any_eq_true.mp q
            have hne : cst kd true X h p0 ≠ h p0 := by simpa using hne
            have st : X (h p0) < X (cst kd true X h p0) := by
              rcases cst_cases (kd := kd) true X h p0 with e | e
              · exact absurd e hne
              · have := e.2
                unfold btr at this
                simpa using this
            obtain ⟨s1, s2⟩ := Lw.le w.toWf hh hh' pr' hX hY le
            have v1 : valOf ps (Lw kd ps h) = sumL (ps.map X) := valOf_eq hX fun Z hZ p => Lw.uniq w.toWf hh pr hZ hX p
            have v2 : valOf ps (Lw kd ps (cst kd true X h)) = sumL (ps.map Y) := valOf_eq hY fun Z hZ p => Lw.uniq w.toWf hh' pr' hZ hY p
            have lt0 : sumL (ps.map X) < sumL (ps.map Y) := sum_lt s1 ⟨p0, (mem_coins.mp hp0).1, s2 p0 hp0 st⟩
            have lt : val (cst kd true X h) < val h := by
              show - valOf ps (Lw kd ps (cst kd true X h)) < - valOf ps (Lw kd ps h)
              rw [v1, v2]
              grind
            have := meas_lt val lt P (by
              obtain ⟨g, g1, g2⟩ := plans_mem (coins kd ps) (cst kd true X h) hh'
              have hg : Op kd ps g := fun p hp => by rw [g2 p hp]; exact hh' p hp
              refine ⟨g, g1, ?_⟩
              show - valOf ps (Lw kd ps g) = - valOf ps (Lw kd ps (cst kd true X h))
              rw [v2]
              have hY' : Lw kd ps g Y := hY.congr fun p hp => (g2 p hp).symm
              have prg : ∀ p ∈ coins kd ps, Rch kd g p := fun p hp => (pr' p hp).congr w.toWf hh' (fun p hp => (g2 p hp).symm) (mem_coins.mp hp).1
              rw [valOf_eq hY' fun Z hZ p => Lw.uniq w.toWf hg prg hZ hY' p])
            dsimp only
            omega)
    (some h) ⟨[some (.d (rowsD kd ps)), some (.d (.dic hk)), none], .no⟩ ⟨n3, n4, hk, none, n2, rfl⟩
  refine ⟨X, ?_, hX⟩
  unfold F_worths_of psi_worths_of
  refine run_of rfl (s := ⟨[some (.d (rowsD kd ps)), some (.d .non), some (.d (numD kd ps X))], .no⟩) (sSeq_nx (s' := ⟨[some (.d (rowsD kd ps)), some (.d (.dic hk)), none], .no⟩) ?_ (sSeq_nx e1 ?_))
  · simp [start, n1]
  · simp
end
end Dl
end

/-! ## Near -/
section
set_option Elab.async false
set_option linter.all false
set_option maxRecDepth 100000
set_option maxHeartbeats 2000000
/-! The nearest plan. -/
namespace Dl
open PySem L2
section
variable {kd : Str → Rat ⊕ List Str} {ps : List Str}
/-- what is near so far, and the plan that leads there -/
structure Nr (kd : Str → Rat ⊕ List Str) (ps nl : List Str) (kvs : List (Str × D)) (f : Str → Str) : Prop where
  sub : ∀ p ∈ nl, p ∈ ps
  nd : nl.Nodup
  ends : ∀ p ∈ ps, isE kd p = true → p ∈ nl
  get : ∀ p, dGet kvs p = if p ∈ nl ∧ isE kd p = false then some (.str (f p)) else none
  back : ∀ pre p post, nl = pre ++ p :: post → isE kd p = false → f p ∈ pre ∧ f p ∈ ar kd p
  len : kvs.length ≤ nl.length
theorem Nr.size (w : Wf kd ps) {nl kvs f} (n : Nr kd ps nl kvs f) : nl.length ≤ ps.length := List.Nodup.length_le_of_subset n.nd fun p hp => n.sub p hp
theorem Nr.rch {nl kvs f} (n : Nr kd ps nl kvs f) : ∀ p ∈ nl, Rch kd f p := by
  have key : ∀ k pre p post, pre.length ≤ k → nl = pre ++ p :: post → Rch kd f p := by
    intro k
    induction k with
    | zero =>
      intro pre p post hk e
      have : pre = [] := List.eq_nil_of_length_eq_zero (by omega)
      subst this
      cases q : isE kd p with
      | true => exact .e q
      | false =>
        have := (n.back [] p post e q).1
        simp at this
    | succ k ih =>
      intro pre p post hk e
      cases q : isE kd p with
      | true => exact .e q
      | false =>
        have h1 := (n.back pre p post e q).1
        obtain ⟨a, b, hab⟩ := List.append_of_mem h1
        refine .s (ih a (f p) (b ++ p :: post) ?_ ?_)
        · have : pre.length = a.length + (b.length + 1) := by rw [hab]; simp
          omega
        · rw [e, hab]; simp
  intro p hp
  obtain ⟨a, b, hab⟩ := List.append_of_mem hp
  exact key a.length a p b (Nat.le_refl _) hab
theorem Nr.add {nl kvs f} (n : Nr kd ps nl kvs f) {x y : Str} (hx : x ∈ ps) (hn : x ∉ nl) (hy : y ∈ nl) (ha : y ∈ ar kd x) (hc : isE kd x = false) : Nr kd ps (nl ++ [x]) (dPut kvs x (.str y)) (fun p => if p = x then y else f p) := by
  constructor
  · intro p hp
    rcases List.mem_append.mp hp with h | h
    · exact n.sub p h
    · simp at h; subst h; exact hx
  · rw [List.nodup_append]
    exact ⟨n.nd, by simp, fun a h b hb e => by simp at hb; subst hb; subst e; exact hn h⟩
  · intro p hp he
    exact List.mem_append_left _ (n.ends p hp he)
  · intro p
    rw [dGet_put]
    by_cases z : p = x
    · subst z; simp [hc]
    · simp [z, n.get p]
  · intro pre p post e q
    rcases List.eq_nil_or_concat post with rfl | ⟨post', z, rfl⟩
    · have := List.append_inj' e rfl
      obtain ⟨rfl, h⟩ := this
      simp at h
      subst h
      simp [hy, ha]
    · have e2 : nl ++ [x] = (pre ++ p :: post') ++ [z] := by rw [e]; simp
      have := List.append_inj' e2 rfl
      obtain ⟨h, h2⟩ := this
      have ne : p ≠ x := fun w => by
        subst w
        apply hn
        rw [h]
        simp
      rw [if_neg ne]
      exact n.back pre p post' h q
  · have := dPut_len_le kvs x (.str y)
    have := n.len
    rw [List.length_append]
    simp
    omega
/-- the state of nearest_plan -/
def nv (R : D) (nl : List Str) (many : D) (kvs : List (Str × D)) (j2 j3 j4 j7 j8 : Option A) : S := ⟨[some (.d R), some (.own (nl.map .str)), j2, j3, j4, some (.dct kvs), some (.d many), j7, j8], .no⟩
theorem near_for (w : Wf kd ps) {nl0 : List Str} {kvs0 : List (Str × D)} {f0 : Str → Str} (n0 : Nr kd ps nl0 kvs0 f0) {many : D} {j2 j3 j4 j7 : Option A} :
    ∃ i2 i3 i4 i7 nl kvs f, Nr kd ps nl kvs f ∧ nl0.length ≤ nl.length ∧ (nl.length ≤ nl0.length → ∀ p ∈ ps, p ∈ nl ∨ ∀ a ∈ ar kd p, a ∉ nl) ∧
      sFor (iTup (xVar 0)) (gTp [(gNm 2), (gNm 3), (gNm 4)]) (sSeq (sSet 7 (rComp (iTup (xCall F_arrows_of [(xVar 3), (xVar 4)])) (gNm 8) (vIn (xVar 8) 1) (xVar 8) [8])) (sIf (tAnd (tNot (vIn (xVar 2) 1)) (tBin oNe (xVar 7) (xFrz (rLst [])))) (sSeq (sDrop (vApp 1 (xVar 2))) (sIf (tBin oIn (xVar 3) (xTup [(xC (.str "ours")), (xC (.str "coin"))])) (sAsg (gDx 5 (xVar 2)) (vIx 7 (xC (.int 0)))) sNx)) sNx))
        (nv (rowsD kd ps) nl0 many kvs0 j2 j3 j4 j7 none) = some (.nx (nv (rowsD kd ps) nl many kvs i2 i3 i4 i7 none)) := by
  obtain ⟨s', e1, nl, kvs, f, n, g1, g2, i2, i3, i4, i7, rfl⟩ := forLoop_pre (tg := gTp [(gNm 2), (gNm 3), (gNm 4)]) (b := (sSeq (sSet 7 (rComp (iTup (xCall F_arrows_of [(xVar 3), (xVar 4)])) (gNm 8) (vIn (xVar 8) 1) (xVar 8) [8])) (sIf (tAnd (tNot (vIn (xVar 2) 1)) (tBin oNe (xVar 7) (xFrz (rLst [])))) (sSeq (sDrop (vApp 1 (xVar 2))) (sIf (tBin oIn (xVar 3) (xTup [(xC (.str "ours")), (xC (.str "coin"))])) (sAsg (gDx 5 (xVar 2)) (vIx 7 (xC (.int 0)))) sNx)) sNx)))
    (rwD kd) (fun pre s => ∃ nl kvs f, Nr kd ps nl kvs f ∧ nl0.length ≤ nl.length ∧ (nl.length ≤ nl0.length → nl = nl0 ∧ ∀ p ∈ pre, p ∈ nl0 ∨ ∀ a ∈ ar kd p, a ∉ nl0) ∧ ∃ j2 j3 j4 j7, s = nv (rowsD kd ps) nl many kvs j2 j3 j4 j7 none) ps
    (s := nv (rowsD kd ps) nl0 many kvs0 j2 j3 j4 j7 none) (by
      rintro pre p post s hx ⟨nl, kvs, f, n, g1, g2, j2, j3, j4, j7, rfl⟩
      have hp : p ∈ ps := by rw [hx]; simp
      have c := rComp_flt (src := iTup (xCall F_arrows_of [(xVar 3), (xVar 4)])) (tg := gNm 8) (t := vIn (xVar 8) 1) (e := xVar 8) (vs := [8])
        (s := nv (rowsD kd ps) nl many kvs (some (.d (.str p))) (some (.d (.str (kn kd p)))) (some (.d (wt kd p))) j7 none) (s1 := nv (rowsD kd ps) nl many kvs (some (.d (.str p))) (some (.d (.str (kn kd p)))) (some (.d (wt kd p))) j7 none)
        (ar kd p) D.str (fun a => decide (a ∈ nl)) D.str (by simp [nv, arrows_of_ok]) (by simp [nv]) (by simp [nv]) (by
          intro a ha
          refine ⟨_, by simp [nv]; rfl, by simp [nv], by simp, fun _ => by simp⟩)
      have hsz := n.size w
      have hl2 := w.len
      have hl3 : nl.length < 1000 := by omega
      have hl4 : kvs.length < 1000 := by have := n.len; omega
      have e0 : gTp [(gNm 2), (gNm 3), (gNm 4)] (rwD kd p) (nv (rowsD kd ps) nl many kvs j2 j3 j4 j7 none) = some (nv (rowsD kd ps) nl many kvs (some (.d (.str p))) (some (.d (.str (kn kd p)))) (some (.d (wt kd p))) j7 none) := by simp [rwD, nv]
      have e2 : sSet 7 (rComp (iTup (xCall F_arrows_of [(xVar 3), (xVar 4)])) (gNm 8) (vIn (xVar 8) 1) (xVar 8) [8]) (nv (rowsD kd ps) nl many kvs (some (.d (.str p))) (some (.d (.str (kn kd p)))) (some (.d (wt kd p))) j7 none)
          = some (.nx (nv (rowsD kd ps) nl many kvs (some (.d (.str p))) (some (.d (.str (kn kd p)))) (some (.d (wt kd p))) (some (.own (((ar kd p).filter fun a => decide (a ∈ nl)).map .str))) none)) := by
        rw [sSet_of c (by simp [nv])]
        simp [nv]
      by_cases q : p ∈ nl
      · refine ⟨_, nv (rowsD kd ps) nl many kvs (some (.d (.str p))) (some (.d (.str (kn kd p)))) (some (.d (wt kd p))) (some (.own (((ar kd p).filter fun a => decide (a ∈ nl)).map .str))) none, e0, sSeq_nx e2 (sIf_f (s' := nv (rowsD kd ps) nl many kvs (some (.d (.str p))) (some (.d (.str (kn kd p)))) (some (.d (wt kd p))) (some (.own (((ar kd p).filter fun a => decide (a ∈ nl)).map .str))) none) ?_ rfl), nl, kvs, f, n, g1, fun hle => ?_, _, _, _, _, rfl⟩
        · simp [nv, q]
        · obtain ⟨h1, h2⟩ := g2 hle
          refine ⟨h1, fun x hx => ?_⟩
          rcases List.mem_append.mp hx with h | h
          · exact h2 x h
          · simp at h
            subst h
            rw [← h1]
            exact .inl q
      · cases hw : (ar kd p).filter fun a => decide (a ∈ nl) with
        | nil =>
          rw [hw] at e2
          have o : oNe (.lst (([] : List Str).map .str)) (.lst []) = some false := by rfl
          refine ⟨_, nv (rowsD kd ps) nl many kvs (some (.d (.str p))) (some (.d (.str (kn kd p)))) (some (.d (wt kd p))) (some (.d (.lst (([] : List Str).map .str)))) none, e0, sSeq_nx e2 (sIf_f (s' := nv (rowsD kd ps) nl many kvs (some (.d (.str p))) (some (.d (.str (kn kd p)))) (some (.d (wt kd p))) (some (.d (.lst (([] : List Str).map .str)))) none) ?_ rfl), nl, kvs, f, n, g1, fun hle => ?_, _, _, _, _, rfl⟩
          · simp at o
            simp [nv, q, o]
          · obtain ⟨h1, h2⟩ := g2 hle
            refine ⟨h1, fun x hx => ?_⟩
            rcases List.mem_append.mp hx with h | h
            · exact h2 x h
            · simp at h
              subst h
              refine .inr fun a ha hb => ?_
              have := List.filter_eq_nil_iff.mp hw a ha
              rw [← h1] at hb
              simp [hb] at this
        | cons y r =>
          have hy : y ∈ (ar kd p).filter fun a => decide (a ∈ nl) := by rw [hw]; simp
          rw [List.mem_filter] at hy
          have hc : isE kd p = false := by
            cases z : isE kd p with
            | true => exact absurd (n.ends p hp z) q
            | false => rfl
          rw [hw] at e2
          have o : oNe (.lst ((y :: r).map .str)) (.lst []) = some true := by
            have sh : ∀ l : List Str, (∀ a ∈ l, sOk a) → ∃ ds, D.pys (l.map .str) = some ds ∧ PyData.canLayAll0 ds = true ∧ PyData.depthAll ds = 0 := by
              intro l
              induction l with
              | nil => intro _; exact ⟨[], rfl, rfl, rfl⟩
              | cons a r ih =>
                intro h
                obtain ⟨ds, d1, d2, d3⟩ := ih fun x hx => h x (by simp [hx])
                refine ⟨.str a :: ds, by simp [D.pys, D.py, d1], ?_, ?_⟩
                · have := h a (by simp)
                  unfold sOk at this
                  simp [PyData.canLayAll0, this, d2]
                · simp [PyData.depthAll, PyData.depth, d3]
            obtain ⟨ds, d1, d2, d3⟩ := sh (y :: r) (by
              intro a ha
              have : a ∈ (ar kd p).filter fun a => decide (a ∈ nl) := by rw [hw]; exact ha
              exact nine_ok a (w.nm a (w.ar_mem hp (List.mem_filter.mp this).1)))
            have d4 : ds ≠ [] := by
              intro z
              subst z
              simp [D.pys, D.py] at d1
              split at d1 <;> simp at d1
            unfold oNe oEq
            simp only [D.py, d1, D.pys]
            have s1 : SeqAt.shaped (.list ds) = true := by simp [SeqAt.shaped, PyData.canLay0, PyData.depth, d2, d3]
            have s2 : SeqAt.shaped (.list []) = true := by simp [SeqAt.shaped, PyData.canLay0, PyData.depth, PyData.canLayAll0, PyData.depthAll]
            rw [if_pos ⟨s1, s2⟩]
            cases ds with
            | nil => exact absurd rfl d4
            | cons a b => simp [PyData.eqv, PyData.eqvAll]
          have n' := n.add hp q (by simpa using hy.2) hy.1 hc
          refine ⟨_, nv (rowsD kd ps) (nl ++ [p]) many (dPut kvs p (.str y)) (some (.d (.str p))) (some (.d (.str (kn kd p)))) (some (.d (wt kd p))) (some (.d (.lst ((y :: r).map .str)))) none, e0, sSeq_nx e2 (sIf_t (s' := nv (rowsD kd ps) nl many kvs (some (.d (.str p))) (some (.d (.str (kn kd p)))) (some (.d (wt kd p))) (some (.d (.lst ((y :: r).map .str)))) none) ?_ ?_), nl ++ [p], dPut kvs p (.str y), _, n', ?_, fun hle => ?_, _, _, _, _, rfl⟩
          · simp at o
            simp [nv, q, o]
          · simp [nv, hl3, hl4, kn_in2, hc]
          · rw [List.length_append]; omega
          · rw [List.length_append] at hle
            simp at hle
            omega)
    ⟨nl0, kvs0, f0, n0, Nat.le_refl _, fun _ => ⟨rfl, fun p hp => by simp at hp⟩, j2, j3, j4, j7, rfl⟩
  refine ⟨i2, i3, i4, i7, nl, kvs, f, n, g1, fun hle => ?_, sFor_of (by simp [nv, rowsD]) e1⟩
  obtain ⟨h1, h2⟩ := g2 hle
  rw [h1]
  exact h2
theorem near_ok (w : Wg kd ps) : ∃ hk h, F_nearest_plan [rowsD kd ps] = some (.dic hk) ∧ Pl hk (coins kd ps) h ∧ Op kd ps h ∧ ∀ p ∈ coins kd ps, Rch kd h p := by
  have c1 := rComp_flt (src := iTup (xVar 0)) (tg := gTp [(gNm 2), (gNm 3), (gNm 4)]) (t := tBin oEq (xVar 3) (xC (.str "end"))) (e := xVar 2) (vs := [2, 3, 4]) (s := ⟨start 9 [rowsD kd ps], .no⟩) (s1 := ⟨start 9 [rowsD kd ps], .no⟩)
    ps (rwD kd) (isE kd) D.str (by simp [start, rowsD]) (by simp [start]) (by simp [start]) (by
      intro p hp
      refine ⟨_, by simp [start, rwD]; rfl, by simp [start], ?_, fun _ => ?_⟩
      · simp [kn_end]
      · simp)
  have n0 : Nr kd ps (ends kd ps) [] (fun p => p) := by
    refine ⟨fun p hp => (mem_ends.mp hp).1, w.nd.filter _, fun p hp he => mem_ends.mpr ⟨hp, he⟩, fun p => ?_, fun pre p post e q => ?_, by simp⟩
    · by_cases z : p ∈ ends kd ps ∧ isE kd p = false
      · have := (mem_ends.mp z.1).2
        rw [z.2] at this
        exact absurd this (by decide)
      · rw [if_neg z]; rfl
    · have : p ∈ ends kd ps := by rw [e]; simp
      have := (mem_ends.mp this).2
      rw [q] at this
      exact absurd this (by decide)
  obtain ⟨s', e1, nl, kvs, f, n, hall, many, i2, i3, i4, i7, rfl⟩ := sWhile_inv (t := tBin oLt (xVar 6) (vLen 1)) (b := (sSeq (sAsg (gNm 6) (vLen 1)) (sFor (iTup (xVar 0)) (gTp [(gNm 2), (gNm 3), (gNm 4)]) (sSeq (sSet 7 (rComp (iTup (xCall F_arrows_of [(xVar 3), (xVar 4)])) (gNm 8) (vIn (xVar 8) 1) (xVar 8) [8])) (sIf (tAnd (tNot (vIn (xVar 2) 1)) (tBin oNe (xVar 7) (xFrz (rLst [])))) (sSeq (sDrop (vApp 1 (xVar 2))) (sIf (tBin oIn (xVar 3) (xTup [(xC (.str "ours")), (xC (.str "coin"))])) (sAsg (gDx 5 (xVar 2)) (vIx 7 (xC (.int 0)))) sNx)) sNx)))))
    (fun (m : Int) s => ∃ nl kvs f, Nr kd ps nl kvs f ∧ (m < nl.length ∨ ∀ p ∈ ps, p ∈ nl ∨ ∀ a ∈ ar kd p, a ∉ nl) ∧ ∃ j2 j3 j4 j7, s = nv (rowsD kd ps) nl (.int m) kvs j2 j3 j4 j7 none)
    (fun m => (ps.length - m).toNat)
    (fun s => ∃ nl kvs f, Nr kd ps nl kvs f ∧ (∀ p ∈ ps, p ∈ nl ∨ ∀ a ∈ ar kd p, a ∉ nl) ∧ ∃ m j2 j3 j4 j7, s = nv (rowsD kd ps) nl m kvs j2 j3 j4 j7 none) (by
      rintro m s ⟨nl, kvs, f, n, hc, j2, j3, j4, j7, rfl⟩
      have hsz := n.size w.toWf
      by_cases q : m < (nl.length : Int)
      · right
        obtain ⟨i2, i3, i4, i7, nl', kvs', f', n', g1, g2, e⟩ := near_for w.toWf n (many := .int nl.length) (j2 := j2) (j3 := j3) (j4 := j4) (j7 := j7)
        refine ⟨nv (rowsD kd ps) nl (.int m) kvs j2 j3 j4 j7 none, _, (nl.length : Int), by simp [nv, q], sSeq_nx (s' := nv (rowsD kd ps) nl (.int nl.length) kvs j2 j3 j4 j7 none) (by simp [nv]) e, ⟨nl', kvs', f', n', ?_, _, _, _, _, rfl⟩, by omega⟩
        by_cases z : nl'.length ≤ nl.length
        · exact .inr (g2 z)
        · exact .inl (by omega)
      · left
        exact ⟨nv (rowsD kd ps) nl (.int m) kvs j2 j3 j4 j7 none, by simp [nv, q], nl, kvs, f, n, hc.resolve_left q, _, _, _, _, _, rfl⟩)
    (-1) (nv (rowsD kd ps) (ends kd ps) (.int (-1)) [] none none none none none) ⟨_, _, _, n0, .inl (by omega), _, _, _, _, rfl⟩
  obtain ⟨rk, hrk⟩ := w.rank
  have all : ∀ k p, p ∈ ps → rk p ≤ k → p ∈ nl := by
    intro k
    induction k with
    | zero =>
      intro p hp h0
      rcases (hrk p hp).2 with h | ⟨a, h1, h2⟩
      · exact n.ends p hp h
      · omega
    | succ k ih =>
      intro p hp h0
      rcases (hrk p hp).2 with h | ⟨a, h1, h2⟩
      · exact n.ends p hp h
      · rcases hall p hp with z | z
        · exact z
        · exact absurd (ih a (w.ar_mem hp h1) (by omega)) (z a h1)
  have all : ∀ p ∈ ps, p ∈ nl := fun p hp => all _ p hp (Nat.le_refl _)
  have hsz := n.size w.toWf
  have P : Pl kvs (coins kd ps) f := by
    refine ⟨fun p => ?_, by have := n.len; have := w.len; omega⟩
    rw [n.get]
    by_cases hc : p ∈ coins kd ps
    · rw [if_pos hc, if_pos ⟨all p (mem_coins.mp hc).1, (mem_coins.mp hc).2⟩]
    · rw [if_neg hc, if_neg fun z => hc (mem_coins.mpr ⟨n.sub p z.1, z.2⟩)]
  refine ⟨kvs, f, ?_, P, fun p hp => ?_, fun p hp => n.rch p (all p (mem_coins.mp hp).1)⟩
  · obtain ⟨s', e2, k2, k3, k4, rfl⟩ := forLoop_pre (tg := gTp [(gNm 2), (gNm 3), (gNm 4)]) (b := (sIf (tAnd (tBin oIn (xVar 3) (xTup [(xC (.str "ours")), (xC (.str "coin"))])) (tNot (vInD (xVar 2) 5))) (sAsg (gDx 5 (xVar 2)) (xBin oIx (xCall F_arrows_of [(xVar 3), (xVar 4)]) (xC (.int 0)))) sNx))
      (rwD kd) (fun pre s => ∃ j2 j3 j4, s = nv (rowsD kd ps) nl many kvs j2 j3 j4 i7 none) ps (s := nv (rowsD kd ps) nl many kvs i2 i3 i4 i7 none) (by
        rintro pre p post s hx ⟨j2, j3, j4, rfl⟩
        have hp : p ∈ ps := by rw [hx]; simp
        refine ⟨_, nv (rowsD kd ps) nl many kvs (some (.d (.str p))) (some (.d (.str (kn kd p)))) (some (.d (wt kd p))) i7 none, by simp [rwD, nv]; rfl, ?_, _, _, _, rfl⟩
        cases q : isE kd p with
        | true => simp [nv, kn_in2, q]
        | false =>
          have := P.at (mem_coins.mpr ⟨hp, q⟩)
          simp [nv, kn_in2, q, this])
      ⟨i2, i3, i4, rfl⟩
    unfold F_nearest_plan psi_nearest_plan
    refine run_of rfl (s := ⟨[some (.d (rowsD kd ps)), some (.own (nl.map .str)), k2, k3, k4, some (.d (.dic kvs)), some (.d many), i7, none], .no⟩) (sSeq_nx (sSet_of c1 (by simp [start])) (sSeq_nx (s' := nv (rowsD kd ps) (ends kd ps) (.int (-1)) [] none none none none none) ?_ (sSeq_nx e1 (sSeq_nx (sFor_of (by simp [nv, rowsD]) e2) ?_))))
    · simp [start, nv, ends]
    · simp [nv]
  · obtain ⟨a, b, hab⟩ := List.append_of_mem (all p (mem_coins.mp hp).1)
    exact (n.back a p b hab (mem_coins.mp hp).2).2
theorem worths (w : Wg kd ps) : ∃ X, F_worths_of [rowsD kd ps] = some (numD kd ps X) ∧ Nm kd ps X := worths_ok w (near_ok w)
end
end Dl
end

/-! ## Law1 -/
section
set_option Elab.async false
set_option linter.all false
set_option maxRecDepth 100000
set_option maxHeartbeats 2000000
set_option exponentiation.threshold 5000
/-! Needs, ranges. -/
namespace Dl
open PySem L2
/-! repr of what is due -/
theorem okS_of (s : String) : sOk (Str.ofString s) := by
  unfold sOk
  show PyData.strOk _ = true
  unfold PyData.strOk
  rw [Array.all_eq_true_iff_forall_mem]
  intro c hc
  have hc : c ∈ (Str.ofString s).cps.toList := by simpa using hc
  rw [PyProof.Rows.signs_ofString] at hc
  obtain ⟨ch, _, rfl⟩ := List.mem_map.mp hc
  have := ch.valid
  simp only [decide_eq_true_eq]
  have : ch.val.toNat < 0x110000 := by
    rcases this with h | h
    · have : ch.val.toNat < 55296 := h
      omega
    · exact h.2
  exact this
theorem okS_mem {x : Str} : sOk x ↔ ∀ c ∈ x.cps.toList, c < 0x110000 := by
  unfold sOk
  show PyData.strOk _ = true ↔ _
  unfold PyData.strOk
  rw [Array.all_eq_true_iff_forall_mem]
  simp
theorem okS_app {x y : Str} (h1 : sOk x) (h2 : sOk y) : sOk (x ++ y) := by
  rw [okS_mem] at *
  intro c hc
  rcases PyProof.Rows.mem_cps_append.mp hc with h | h
  · exact h1 c h
  · exact h2 c h
theorem okS_tup {ts : List Str} (h : ∀ t ∈ ts, sOk t) : sOk (tupleText ts) := by
  unfold tupleText
  refine okS_app (okS_app (okS_of _) ?_) (okS_of _)
  rw [okS_mem]
  intro c hc
  rcases (PyProof.Rows.mem_join _ _ _).mp hc with ⟨t, h1, h2⟩ | ⟨_, h2⟩
  · exact okS_mem.mp (h t h1) c h2
  · exact okS_mem.mp (okS_of _) c h2
theorem len_int {i : Int} (h : i.natAbs < 2 ^ 1100) : (PyData.shown (.int i)).length ≤ 1101 := by
  have h2 : i.natAbs < 10 ^ 1100 := Nat.lt_of_lt_of_le h (Nat.pow_le_pow_left (by decide) _)
  have e := int_text_length_le10 (k := 1100) (by decide) h2
  show (Str.ofString (toString i)).length ≤ 1101
  rw [ofString_length]
  exact e
theorem log_int {i : Int} (h : i.natAbs < 2 ^ 1100) : i.natAbs.log2 < 1920 := by
  by_cases q : i.natAbs = 0
  · rw [q]; decide
  · rw [Nat.log2_lt q]
    exact Nat.lt_of_lt_of_le h (Nat.pow_le_pow_right (by decide) (by decide))
theorem repr_pair {a b : Rat} (ha : Sz 1100 a) (hb : Sz 1100 b) : ∃ x, oRepr (.tup [fr a, fr b]) = some (.str x) ∧ sOk x := by
  have d1 : (a.den : Int).natAbs < 2 ^ 1100 := by simpa using ha.den
  have d2 : (b.den : Int).natAbs < 2 ^ 1100 := by simpa using hb.den
  have py : D.py (.tup [fr a, fr b]) = some (.tuple [.tuple [.int a.num, .int a.den], .tuple [.int b.num, .int b.den]]) := by simp [fr, D.py, D.pys]
  refine ⟨PyData.shown (.tuple [.tuple [.int a.num, .int a.den], .tuple [.int b.num, .int b.den]]), ?_, ?_⟩
  · unfold oRepr
    rw [py]
    dsimp only
    have s1 : PyData.showable (.tuple [.tuple [.int a.num, .int a.den], .tuple [.int b.num, .int b.den]]) = true := by
      simp only [PyData.showable, PyData.showableAll, log_int ha.num, log_int d1, log_int hb.num, log_int d2, decide_true, Bool.and_self]
    have s4 : (PyData.shown (.tuple [.tuple [.int a.num, .int a.den], .tuple [.int b.num, .int b.den]])).length ≤ sizeLine := by
      have := PyData.shown_le_bulk 1101 (by decide) (.tuple [.tuple [.int a.num, .int a.den], .tuple [.int b.num, .int b.den]]) (by
        simp only [PyData.leavesShort, PyData.leavesShortAll, len_int ha.num, len_int d1, len_int hb.num, len_int d2, decide_true, Bool.and_self])
      refine Nat.le_trans this ?_
      simp only [PyData.bulk, PyData.bulkAll]
      decide
    rw [if_pos ⟨s1, by simp [PyData.hasDict, PyData.hasDictAll], by simp [PyData.depth, PyData.depthAll], s4⟩]
  · have i1 : ∀ i : Int, sOk (PyData.shown (.int i)) := fun i => okS_of _
    have i2 : ∀ i j : Int, sOk (PyData.shown (.tuple [.int i, .int j])) := fun i j => by
      simp only [PyData.shown, PyData.shownAll]
      exact okS_tup (by simp only [List.forall_mem_cons, List.not_mem_nil, false_implies, implies_true, and_true]; exact ⟨okS_of _, okS_of _⟩)
    have := okS_tup (ts := [PyData.shown (.tuple [.int a.num, .int a.den]), PyData.shown (.tuple [.int b.num, .int b.den])]) (by
      simp only [List.forall_mem_cons, List.not_mem_nil, false_implies, implies_true, and_true]
      exact ⟨i2 _ _, i2 _ _⟩)
    exact this
/-- what is due -/
def due (lo hi yp q ya : Rat) (first : Bool) : D :=
  if first = true then (if yp < q ∧ hi - q < q - ya then .tup [fr (hi - q), fr (q - ya)] else .non)
  else (if q < yp ∧ q - lo < ya - q then .tup [fr (q - lo), fr (ya - q)] else .non)
theorem repr_due {lo hi yp q ya : Rat} (first : Bool) (h1 : Sz 1050 lo) (h2 : Sz 1050 hi) (h3 : Sz 20 q) (h4 : Sz 1050 ya) : ∃ x, oRepr (due lo hi yp q ya first) = some (.str x) ∧ sOk x := by
  have n : ∃ x, oRepr .non = some (.str x) ∧ sOk x := ⟨_, rfl, okS_of _⟩
  unfold due
  split
  · split
    · exact repr_pair ((h2.sub2 h3).mono (by omega)) ((h3.sub2 h4).mono (by omega))
    · exact n
  · split
    · exact repr_pair ((h3.sub2 h1).mono (by omega)) ((h4.sub2 h3).mono (by omega))
    · exact n
/-! least, greatest -/
section
variable {Y : Str → Rat}
theorem greatest_ok (sy : ∀ p, Sz 1050 (Y p)) (x : Str) (r : List Str) : F_greatest_of_numbers [.lst ((x :: r).map fun a => fr (Y a))] = some (fr (Y ((x :: r).foldl (bst true Y) x))) := by
  unfold F_greatest_of_numbers psi_greatest_of_numbers
  obtain ⟨s', e1, j2, rfl⟩ := forLoop_fold (tg := gNm 2) (b := sAsg (gNm 1) (xCall F_greater [(xVar 1), (xVar 2)])) (fun a => fr (Y a)) (bst true Y)
    (fun c s => ∃ j2, s = ⟨[some (.d (.lst ((x :: r).map fun a => fr (Y a)))), some (.d (fr (Y c))), j2], .no⟩) r (by
      rintro a ha c s ⟨j2, rfl⟩
      refine ⟨_, ⟨[some (.d (.lst ((x :: r).map fun a => fr (Y a)))), some (.d (fr (Y (bst true Y c a)))), some (.d (fr (Y a)))], .no⟩, by simp; rfl, ?_, _, rfl⟩
      have e := greater_ok (sy c) (sy a) (by omega)
      have e2 : (if Y c < Y a then Y a else Y c) = Y (bst true Y c a) := by
        unfold bst
        by_cases q : Y c < Y a <;> simp [q]
      rw [e2] at e
      simp [e])
    x ⟨[some (.d (.lst ((x :: r).map fun a => fr (Y a)))), some (.d (fr (Y x))), none], .no⟩ ⟨none, rfl⟩
  have b : bst true Y x x = x := by rw [bst_eq, if_neg btr_irr]
  refine run_of rfl (s := ⟨[some (.d (.lst ((x :: r).map fun a => fr (Y a)))), some (.d (fr (Y (r.foldl (bst true Y) x)))), j2], .no⟩) (sSeq_nx (s' := ⟨[some (.d (.lst ((x :: r).map fun a => fr (Y a)))), some (.d (fr (Y x))), none], .no⟩) ?_ (sSeq_nx (sFor_of ?_ e1) ?_))
  · simp [start]
  · have := cutD_from ((x :: r).map fun a => fr (Y a)) 1 (by simp)
    have t : cutD (fr (Y x) :: r.map fun a => fr (Y a)) (some 1) none = r.map fun a => fr (Y a) := by simpa using this
    simp [t]
  · simp [b]
theorem least_ok (sy : ∀ p, Sz 1050 (Y p)) (x : Str) (r : List Str) : F_least_of [.lst ((x :: r).map fun a => fr (Y a))] = some (fr (Y ((x :: r).foldl (bst false Y) x))) := by
  unfold F_least_of psi_least_of
  obtain ⟨s', e1, j2, rfl⟩ := forLoop_fold (tg := gNm 2) (b := sAsg (gNm 1) (xCall F_lesser [(xVar 1), (xVar 2)])) (fun a => fr (Y a)) (bst false Y)
    (fun c s => ∃ j2, s = ⟨[some (.d (.lst ((x :: r).map fun a => fr (Y a)))), some (.d (fr (Y c))), j2], .no⟩) r (by
      rintro a ha c s ⟨j2, rfl⟩
      refine ⟨_, ⟨[some (.d (.lst ((x :: r).map fun a => fr (Y a)))), some (.d (fr (Y (bst false Y c a)))), some (.d (fr (Y a)))], .no⟩, by simp; rfl, ?_, _, rfl⟩
      have e := lesser_ok (sy c) (sy a) (by omega)
      have e2 : (if Y a < Y c then Y a else Y c) = Y (bst false Y c a) := by
        unfold bst
        by_cases q : Y a < Y c <;> simp [q]
      rw [e2] at e
      simp [e])
    x ⟨[some (.d (.lst ((x :: r).map fun a => fr (Y a)))), some (.d (fr (Y x))), none], .no⟩ ⟨none, rfl⟩
  have b : bst false Y x x = x := by rw [bst_eq, if_neg btr_irr]
  refine run_of rfl (s := ⟨[some (.d (.lst ((x :: r).map fun a => fr (Y a)))), some (.d (fr (Y (r.foldl (bst false Y) x)))), j2], .no⟩) (sSeq_nx (s' := ⟨[some (.d (.lst ((x :: r).map fun a => fr (Y a)))), some (.d (fr (Y x))), none], .no⟩) ?_ (sSeq_nx (sFor_of ?_ e1) ?_))
  · simp [start]
  · have := cutD_from ((x :: r).map fun a => fr (Y a)) 1 (by simp)
    have t : cutD (fr (Y x) :: r.map fun a => fr (Y a)) (some 1) none = r.map fun a => fr (Y a) := by simpa using this
    simp [t]
  · simp [b]
theorem ends_of_ok (sy : ∀ p, Sz 1050 (Y p)) (x : Str) (r : List Str) : F__law_ends_of [.lst ((x :: r).map fun a => fr (Y a))] = some (.lst [fr (Y ((x :: r).foldl (bst false Y) x)), fr (Y ((x :: r).foldl (bst true Y) x))]) := by
  unfold F__law_ends_of psi__law_ends_of
  obtain ⟨s', e1, c, d, j2, rfl, rfl, rfl⟩ := forLoop_fold (tg := gNm 3) (b := (sSeq (sAsg (gNm 1) (xIf (tVal (xCall F__law_under [(xVar 3), (xVar 1)])) (xVar 3) (xVar 1))) (sAsg (gNm 2) (xIf (tVal (xCall F__law_under [(xVar 2), (xVar 3)])) (xVar 3) (xVar 2))))) (fun a => fr (Y a)) (fun (c : Str × Str) a => (bst false Y c.1 a, bst true Y c.2 a))
    (fun cd s => ∃ c d j2, cd.1 = c ∧ cd.2 = d ∧ s = ⟨[some (.d (.lst ((x :: r).map fun a => fr (Y a)))), some (.d (fr (Y c))), some (.d (fr (Y d))), j2], .no⟩) (x :: r) (by
      rintro a ha ⟨c0, d0⟩ s ⟨c, d, j2, rfl, rfl, rfl⟩
      refine ⟨_, ⟨[some (.d (.lst ((x :: r).map fun a => fr (Y a)))), some (.d (fr (Y (bst false Y c0 a)))), some (.d (fr (Y (bst true Y d0 a)))), some (.d (fr (Y a)))], .no⟩, by simp; rfl, ?_, _, _, _, rfl, rfl, rfl⟩
      have e1 := law_under_ok (sy a) (sy c0) (by omega)
      have e2 := law_under_ok (sy d0) (sy a) (by omega)
      unfold bst
      by_cases q : Y a < Y c0 <;> by_cases q2 : Y d0 < Y a <;> simp [e1, e2, q, q2])
    (x, x) ⟨[some (.d (.lst ((x :: r).map fun a => fr (Y a)))), some (.d (fr (Y x))), some (.d (fr (Y x))), none], .no⟩ ⟨x, x, none, rfl, rfl, rfl⟩
  have sp : ∀ (l : List Str) (c d : Str), l.foldl (fun (c : Str × Str) a => (bst false Y c.1 a, bst true Y c.2 a)) (c, d) = (l.foldl (bst false Y) c, l.foldl (bst true Y) d) := by
    intro l
    induction l with
    | nil => intro c d; rfl
    | cons a r ih => intro c d; exact ih _ _
  rw [sp] at e1
  refine run_of rfl (s := ⟨[some (.d (.lst ((x :: r).map fun a => fr (Y a)))), some (.d (fr (Y ((x :: r).foldl (bst false Y) x)))), some (.d (fr (Y ((x :: r).foldl (bst true Y) x)))), j2], .no⟩) (sSeq_nx (s' := ⟨[some (.d (.lst ((x :: r).map fun a => fr (Y a)))), some (.d (fr (Y x))), some (.d (fr (Y x))), none], .no⟩) ?_ (sSeq_nx (sFor_of ?_ e1) ?_))
  · simp [start]
  · simp
  · simp
end
end Dl
end

/-! ## Law2 -/
section
set_option Elab.async false
set_option linter.all false
set_option maxRecDepth 100000
set_option maxHeartbeats 2000000
/-! The needs told; the ranges. -/
namespace Dl
open PySem L2
section
variable {kd : Str → Rat ⊕ List Str} {ps : List Str}
/-- the needs -/
structure Nd (kd : Str → Rat ⊕ List Str) (ps : List Str) (Y : Str → Rat) : Prop where
  mid : ∀ p ∈ coins kd ps, 2 * Y p = Y ((ar kd p).foldl (bst false Y) (fst_ kd p)) + Y ((ar kd p).foldl (bst true Y) (fst_ kd p))
  unit : ∀ p ∈ ps, 0 ≤ Y p ∧ Y p ≤ 1
  sz : ∀ p, Sz 1050 (Y p)
theorem le_bst {Y : Str → Rat} {as : List Str} {c : Str} : ∀ a ∈ as, Y (as.foldl (bst false Y) c) ≤ Y a ∧ Y a ≤ Y (as.foldl (bst true Y) c) := fun a ha => by
  have h1 := (fold_bst false Y as c).2 a ha
  have h2 := (fold_bst true Y as c).2 a ha
  unfold btr at h1 h2
  exact ⟨Rat.not_lt.mp (by simpa using h1), Rat.not_lt.mp (by simpa using h2)⟩
theorem bst_mem {Y : Str → Rat} {hi : Bool} {as : List Str} {c : Str} (hc : c ∈ as) : as.foldl (bst hi Y) c ∈ as := by
  rcases (fold_bst hi Y as c).1 with h | h
  · rw [h]; exact hc
  · exact h.1
theorem ar8 {x a b l h : Rat} (e : x = half * h + half * l) (h1 : 1 - a ≤ 1 - l) (h2 : 1 - h ≤ 1 - b) (h3 : l ≤ a) (h4 : b ≤ h) (h5 : 1 - h ≤ 1 - a) (h6 : 1 - b ≤ 1 - l) (q1 : 1 - l ≤ 1 - a) (q2 : 1 - b ≤ 1 - h) : 2 * (1 - x) = (1 - b) + (1 - a) := by
  rw [half_eq] at e
  grind
theorem ar9 {x a b M : Rat} (e : x = half * a + half * b) (h1 : a ≤ M) (h2 : b ≤ M) (h3 : x = M) : a = M ∧ b = M := by
  rw [half_eq] at e
  constructor <;> grind
theorem ar10 {x a b M : Rat} (e : x = half * a + half * b) (h1 : M ≤ a) (h2 : M ≤ b) (h3 : x = M) : a = M ∧ b = M := by
  rw [half_eq] at e
  constructor <;> grind
theorem Nm.unit (w : Wg kd ps) {X : Str → Rat} (n : Nm kd ps X) : ∀ p ∈ ps, 0 ≤ X p ∧ X p ≤ 1 := by
  obtain ⟨h, l, hh, hl, hm⟩ := n.mid
  obtain ⟨rk, hrk⟩ := w.rank
  have ne : ps ≠ [] := by have := w.len1; intro z; subst z; simp at this
  have up : ∀ p ∈ ps, X p ≤ 1 := by
    obtain ⟨m, m1, m2⟩ := max_pr X ps ne
    have key : ∀ k p, p ∈ ps → rk p ≤ k → X p = X m → X m ≤ 1 := by
      have base : ∀ p, p ∈ ps → isE kd p = true → X p = X m → X m ≤ 1 := fun p hp he e => by
        rw [← e, n.out p (fun z => by rw [mem_coins, he] at z; exact absurd z.2 (by decide))]
        exact (w.pay p).2
      intro k
      induction k with
      | zero =>
        intro p hp hk e
        rcases (hrk p hp).2 with q | ⟨a, a1, a2⟩
        · exact base p hp q e
        · omega
      | succ k ih =>
        intro p hp hk e
        rcases (hrk p hp).2 with q | ⟨a, a1, a2⟩
        · exact base p hp q e
        · cases q : isE kd p with
          | true => exact base p hp q e
          | false =>
            have hc : p ∈ coins kd ps := mem_coins.mpr ⟨hp, q⟩
            obtain ⟨e1, e2⟩ := hm p hc
            obtain ⟨z1, z2⟩ := ar9 e1 (m2 _ (hh.mem w.toWf hc)) (m2 _ (hl.mem w.toWf hc)) e
            have z3 := (e2 a a1).1
            have z4 := m2 a (w.ar_mem hp a1)
            rw [z2] at z3
            exact ih a (w.ar_mem hp a1) (by omega) (Rat.le_antisymm z4 z3)
    have := key _ m m1 (Nat.le_refl _) rfl
    exact fun p hp => Rat.le_trans (m2 p hp) this
  have dn : ∀ p ∈ ps, 0 ≤ X p := by
    obtain ⟨m, m1, m2⟩ := max_pr (fun q => - X q) ps ne
    have m2 : ∀ x ∈ ps, X m ≤ X x := fun x hx => by
      have := m2 x hx
      clear hm hrk up m2
      grind
    have key : ∀ k p, p ∈ ps → rk p ≤ k → X p = X m → 0 ≤ X m := by
      have base : ∀ p, p ∈ ps → isE kd p = true → X p = X m → 0 ≤ X m := fun p hp he e => by
        rw [← e, n.out p (fun z => by rw [mem_coins, he] at z; exact absurd z.2 (by decide))]
        exact (w.pay p).1
      intro k
      induction k with
      | zero =>
        intro p hp hk e
        rcases (hrk p hp).2 with q | ⟨a, a1, a2⟩
        · exact base p hp q e
        · omega
      | succ k ih =>
        intro p hp hk e
        rcases (hrk p hp).2 with q | ⟨a, a1, a2⟩
        · exact base p hp q e
        · cases q : isE kd p with
          | true => exact base p hp q e
          | false =>
            have hc : p ∈ coins kd ps := mem_coins.mpr ⟨hp, q⟩
            obtain ⟨e1, e2⟩ := hm p hc
            obtain ⟨z1, z2⟩ := ar10 e1 (m2 _ (hh.mem w.toWf hc)) (m2 _ (hl.mem w.toWf hc)) e
            have z3 := (e2 a a1).2
            have z4 := m2 a (w.ar_mem hp a1)
            rw [z1] at z3
            exact ih a (w.ar_mem hp a1) (by omega) (Rat.le_antisymm z3 z4)
    have := key _ m m1 (Nat.le_refl _) rfl
    exact fun p hp => Rat.le_trans this (m2 p hp)
  exact fun p hp => ⟨dn p hp, up p hp⟩
theorem Nm.needs (w : Wg kd ps) {X : Str → Rat} (n : Nm kd ps X) : Nd kd ps (fun p => 1 - X p) := by
  refine ⟨fun p hp => ?_, fun p hp => ?_, fun p => ?_⟩
  · obtain ⟨h, l, hh, hl, hm⟩ := n.mid
    obtain ⟨e1, e2⟩ := hm p hp
    have f := (fst_ok w.toWf hp).2
    have la := le_bst (Y := fun p => 1 - X p) (as := ar kd p) (c := fst_ kd p)
    have b1 := bst_mem (Y := fun p => 1 - X p) (hi := false) f
    have b2 := bst_mem (Y := fun p => 1 - X p) (hi := true) f
    have a1 := la _ (hh p hp)
    have a2 := la _ (hl p hp)
    have a3 := e2 _ b1
    have a4 := e2 _ b2
    have c1 : X ((ar kd p).foldl (bst false fun p => 1 - X p) (fst_ kd p)) = X (h p) := by
      have z1 := a1.1
      have z2 := a3.2
      clear la hm n e2 a2 a4 a3 a1
      grind
    have c2 : X ((ar kd p).foldl (bst true fun p => 1 - X p) (fst_ kd p)) = X (l p) := by
      have z1 := a2.2
      have z2 := a4.1
      clear la hm n e2 a2 a4 a3 a1 c1
      grind
    rw [c1, c2]
    rw [half_eq] at e1
    clear la hm n e2 a2 a4 a3 a1 c1 c2
    grind
  · have := n.unit w p hp
    constructor
    · have := this.2; clear n; grind
    · have := this.1; clear n; grind
  · exact ((sz_one).sub2 (n.sz p)).mono (by omega)
def needD (kd : Str → Rat ⊕ List Str) (ps : List Str) (Y : Str → Rat) : D := .dic (dicOf (ends kd ps ++ coins kd ps) fun p => fr (Y p))
variable {t : List D}
theorem needs_of_ok (w : Wg kd ps) : ∃ Y, Nd kd ps Y ∧ F_needs_of [.web (webF kd ps t)] = some (needD kd ps Y) := by
  obtain ⟨X, x1, x2⟩ := worths w
  refine ⟨fun p => 1 - X p, x2.needs w, ?_⟩
  unfold F_needs_of psi_needs_of
  have c := rComp_map (src := iItems (xCall F_worths_of [(xProp F_W_rows (xVar 0))])) (tg := gTp [(gNm 1), (gNm 2)]) (e := xTup [(xVar 1), (xCall F_less [(xC d_ONE), (xVar 2)])]) (vs := [1, 2])
    (s := ⟨start 3 [.web (webF kd ps t)], .no⟩) (s1 := ⟨start 3 [.web (webF kd ps t)], .no⟩)
    (ends kd ps ++ coins kd ps) (fun p => D.tup [.str p, fr (X p)]) (fun p => D.tup [.str p, fr (1 - X p)]) (by
      simp [start, W_rows_ok, x1]
      simp [numD, dicOf, Function.comp_def]) (by simp [start]) (by simp [start]) (by
      intro p hp
      refine ⟨_, by simp [start]; rfl, by simp [start], ?_⟩
      have := less_ok (sz_one.mono (by omega : 1 ≤ 1045)) (x2.sz p) (by omega)
      simp [one_D, this])
  refine run_of rfl (s := ⟨start 3 [.web (webF kd ps t)], .no⟩) (sRet_of (xFrz_k ?_))
  rw [rDict_ap, xFrz_f c]
  dsimp only
  rw [pairsOf_of]
  have e := dAll_of [] (ends kd ps ++ coins kd ps) (fun p => fr (1 - X p)) (by rw [List.nil_append]; exact w.nd2)
  have e' : dAll [] (dicOf (ends kd ps ++ coins kd ps) (fun p => fr (1 - X p))) = dicOf (ends kd ps ++ coins kd ps) (fun p => fr (1 - X p)) := by simpa [dicOf] using e
  have : (dicOf (ends kd ps ++ coins kd ps) (fun p => fr (1 - X p))).length ≤ 1000 := by
    rw [dicOf_length, List.length_append]
    have h1 : (ends kd ps).length ≤ ps.length := List.length_filter_le _ _
    have h2 : (coins kd ps).length ≤ 3 := w.few
    have := w.len
    omega
  simp only [this, if_true, e']
theorem need_get {Y : Str → Rat} {p : Str} (hp : p ∈ ps) : dGet (dicOf (ends kd ps ++ coins kd ps) fun p => fr (Y p)) p = some (fr (Y p)) := num_get hp
theorem needs_ok (w : Wg kd ps) {Y : Str → Rat} (h : F_needs_of [.web (webF kd ps t)] = some (needD kd ps Y)) : F_needs [.web (webF kd ps t)] = some (.tup (ps.map fun p => fr (Y p))) := by
  unfold F_needs psi_needs
  have c := rComp_map (src := iTup (xProp F_W_places (xVar 0))) (tg := gNm 2) (e := vDix 1 (xVar 2)) (vs := [2])
    (s := ⟨[some (.d (.web (webF kd ps t))), some (.d (needD kd ps Y)), none], .no⟩) (s1 := ⟨[some (.d (.web (webF kd ps t))), some (.d (needD kd ps Y)), none], .no⟩)
    ps D.str (fun p => fr (Y p)) (by simp [W_places_ok]) (by simp) (by simp) (by
      intro p hp
      refine ⟨_, by simp; rfl, by simp, ?_⟩
      have := need_get (kd := kd) (Y := Y) hp
      simp [needD, this])
  refine run_of rfl (sSeq_nx (s' := ⟨start 3 [.web (webF kd ps t)], .no⟩) (by simp [start, check_web_ok]) (sSeq_nx (s' := ⟨start 3 [.web (webF kd ps t)], .no⟩) (by simp [start, check_coins_ok fun p _ _ => w.pay p]) (sSeq_nx (s' := ⟨[some (.d (.web (webF kd ps t))), some (.d (needD kd ps Y)), none], .no⟩) (by simp [start, h]) (sRet_of (xUn_of (xFrz_f c) (oTuple_l _))))))
theorem winner_ok {a b : Rat} (h1 : Sz 1050 a) (h2 : Sz 1050 b) : F_winner_of [fr a, fr b] = some (if a = b then .non else if a < b then .str "first" else .str "second") := by
  unfold F_winner_of
  rw [runP_2]
  have e := is_below_ok h1 h2 (by omega)
  by_cases q : a = b
  · subst q
    simp [psi_winner_of, start, oEq_fr]
  · by_cases q2 : a < b <;> simp [psi_winner_of, start, oEq_fr, q, q2, e]
theorem eq_win {a b : Rat} {side : Str} (hs : side = "first" ∨ side = "second") : oEq (if a = b then .non else if a < b then .str "first" else .str "second") (.str side) = some (decide (if side = "first" then a < b else b < a)) := by
  have n1 : ("second" : Str) ≠ "first" := by decide +kernel
  have n2 : ∀ x : Str, sOk x → oEq .non (.str x) = some false := fun x hx => by
    simp only [oEq, D.py]
    rw [if_pos ⟨by rfl, by unfold SeqAt.shaped; rw [show PyData.canLay0 (.str x) = true from hx]; simp [PyData.depth]⟩]
    rfl
  by_cases q : a = b
  · subst q
    rw [if_pos rfl, n2 _ (by rcases hs with rfl | rfl <;> exact okS_of _)]
    have : ¬ a < a := Rat.lt_irrefl
    simp [this]
  · rw [if_neg q]
    by_cases q2 : a < b
    · have q3 : ¬ b < a := by clear n2 hs; grind
      rw [if_pos q2]
      rcases hs with rfl | rfl
      · rw [oEq_s (okS_of _) (okS_of _)]
        simp [q2]
      · rw [oEq_s (okS_of _) (okS_of _)]
        simp [n1, Ne.symm n1, q3]
    · have q3 : b < a := by clear n2 hs; grind
      rw [if_neg q2]
      rcases hs with rfl | rfl
      · rw [oEq_s (okS_of _) (okS_of _)]
        simp [n1, q2]
      · rw [oEq_s (okS_of _) (okS_of _)]
        simp [n1, q3]
end
end Dl
end

/-! ## Law3 -/
section
set_option Elab.async false
set_option linter.all false
set_option maxRecDepth 100000
set_option maxHeartbeats 2000000
/-! The ranges told, and due. -/
namespace Dl
open PySem L2
section
variable {kd : Str → Rat ⊕ List Str} {ps : List Str} {t : List D} {Y : Str → Rat} {p a : Str} {q : Rat} {side : Str}
def loY (kd : Str → Rat ⊕ List Str) (Y : Str → Rat) (p : Str) : Rat := Y ((ar kd p).foldl (bst false Y) (fst_ kd p))
def hiY (kd : Str → Rat ⊕ List Str) (Y : Str → Rat) (p : Str) : Rat := Y ((ar kd p).foldl (bst true Y) (fst_ kd p))
theorem ar_cons (w : Wf kd ps) (hp : p ∈ coins kd ps) : ∃ x r, ar kd p = x :: r ∧ fst_ kd p = x := by
  have f := (fst_ok w hp).1
  cases e : ar kd p with
  | nil => rw [e] at f; simp at f
  | cons x r =>
    rw [e] at f
    simp at f
    exact ⟨x, r, rfl, f.symm⟩
theorem greatest_ar (w : Wf kd ps) (sy : ∀ p, Sz 1050 (Y p)) (hp : p ∈ coins kd ps) : F_greatest_of_numbers [.lst ((ar kd p).map fun a => fr (Y a))] = some (fr (hiY kd Y p)) := by
  obtain ⟨x, r, e, f⟩ := ar_cons w hp
  unfold hiY
  rw [e, f]
  exact greatest_ok sy x r
theorem least_ar (w : Wf kd ps) (sy : ∀ p, Sz 1050 (Y p)) (hp : p ∈ coins kd ps) : F_least_of [.lst ((ar kd p).map fun a => fr (Y a))] = some (fr (loY kd Y p)) := by
  obtain ⟨x, r, e, f⟩ := ar_cons w hp
  unfold loY
  rw [e, f]
  exact least_ok sy x r
theorem ends_ar (w : Wf kd ps) (sy : ∀ p, Sz 1050 (Y p)) (hp : p ∈ coins kd ps) : F__law_ends_of [.lst ((ar kd p).map fun a => fr (Y a))] = some (.lst [fr (loY kd Y p), fr (hiY kd Y p)]) := by
  obtain ⟨x, r, e, f⟩ := ar_cons w hp
  unfold loY hiY
  rw [e, f]
  exact ends_of_ok sy x r
theorem side_eq (hs : side = "first" ∨ side = "second") : oEq (.str side) (.str "first") = some (decide (side = "first")) := by
  rw [oEq_s (by rcases hs with rfl | rfl <;> exact okS_of _) (okS_of _)]
theorem range_of_ok (w : Wg kd ps) (n : Nd kd ps Y) (hp : p ∈ coins kd ps) (ha : a ∈ ar kd p) (hs : side = "first" ∨ side = "second") (sq : Sz 20 q) :
    F_range_of [needD kd ps Y, .web (webF kd ps t), .str p, fr q, .str side, .str a] = some (due (loY kd Y p) (hiY kd Y p) (Y p) q (Y a) (decide (side = "first"))) := by
  have hpp := (mem_coins.mp hp).1
  have hap := w.ar_mem hpp ha
  have m := get_m (kd := kd) (ps := ps) t "arrows" (.inr (.inl rfl))
  have gp := need_get (kd := kd) (Y := Y) hpp
  have ga := need_get (kd := kd) (Y := Y) hap
  have e1 := greatest_ar w.toWf n.sz hp
  have e2 := least_ar w.toWf n.sz hp
  have sq' : Sz 1050 q := sq.mono (by omega)
  have shi : Sz 1050 (hiY kd Y p) := n.sz _
  have slo : Sz 1050 (loY kd Y p) := n.sz _
  have c := rComp_map (src := iTup (xMeth F_W_arrows "arrows" (xVar 1) [(xVar 2)])) (tg := gNm 7) (e := vDix 0 (xVar 7)) (vs := [7])
    (s := ⟨start 10 [needD kd ps Y, .web (webF kd ps t), .str p, fr q, .str side, .str a], .no⟩) (s1 := ⟨start 10 [needD kd ps Y, .web (webF kd ps t), .str p, fr q, .str side, .str a], .no⟩)
    (ar kd p) D.str (fun a => fr (Y a)) (by simp [start, m, W_arrows_ok hpp]) (by simp [start]) (by simp [start]) (by
      intro x hx
      refine ⟨_, by simp [start]; rfl, by simp [start], ?_⟩
      have := need_get (kd := kd) (Y := Y) (w.ar_mem hpp hx)
      simp [needD, this])
  have hw := winner_ok (n.sz p) sq'
  have ew := eq_win (a := Y p) (b := q) hs
  unfold F_range_of psi_range_of
  have u1 : sSet 6 (rComp (iTup (xMeth F_W_arrows "arrows" (xVar 1) [(xVar 2)])) (gNm 7) (mRet true) (vDix 0 (xVar 7)) [7]) ⟨start 10 [needD kd ps Y, .web (webF kd ps t), .str p, fr q, .str side, .str a], .no⟩
      = some (.nx ⟨[some (.d (needD kd ps Y)), some (.d (.web (webF kd ps t))), some (.d (.str p)), some (.d (fr q)), some (.d (.str side)), some (.d (.str a)), some (.own ((ar kd p).map fun a => fr (Y a))), none, none, none], .no⟩) := by
    rw [sSet_of c (by simp [start])]
    simp [start]
  have fin : ∀ (lo hi : Rat), Sz 1100 lo → Sz 1100 hi →
      (sRet (xIf (tAnd (tBin oEq (xCall F_winner_of [(vDix 0 (xVar 2)), (xVar 3)]) (xVar 4)) (tVal (xCall F_is_below [(xVar 8), (xVar 9)]))) (xTup [(xVar 8), (xVar 9)]) (xC .non)))
        ⟨[some (.d (needD kd ps Y)), some (.d (.web (webF kd ps t))), some (.d (.str p)), some (.d (fr q)), some (.d (.str side)), some (.d (.str a)), some (.d (.lst ((ar kd p).map fun a => fr (Y a)))), none, some (.d (fr lo)), some (.d (fr hi))], .no⟩
      = some (.rt (if (if side = "first" then Y p < q else q < Y p) ∧ lo < hi then .tup [fr lo, fr hi] else .non) ⟨[some (.d (needD kd ps Y)), some (.d (.web (webF kd ps t))), some (.d (.str p)), some (.d (fr q)), some (.d (.str side)), some (.d (.str a)), some (.d (.lst ((ar kd p).map fun a => fr (Y a)))), none, some (.d (fr lo)), some (.d (fr hi))], .no⟩) := by
    intro lo hi s1 s2
    have b := is_below_ok s1 s2 (by omega)
    by_cases q1 : (if side = "first" then Y p < q else q < Y p)
    · by_cases q2 : lo < hi
      · simp only [q1, decide_true] at ew
        simp only [q2, decide_true] at b
        simp [needD, gp, hw, ew, b, q1, q2]
      · simp only [q1, decide_true] at ew
        simp only [q2, decide_false] at b
        simp [needD, gp, hw, ew, b, q2]
    · simp only [q1, decide_false] at ew
      simp [needD, gp, hw, ew, q1]
  rcases hs with rfl | rfl
  · have o : oEq (.str "first") (.str "first") = some true := by rw [side_eq (.inl rfl)]; simp
    have l1 := less_ok shi sq' (by omega)
    have l2 := less_ok sq' (n.sz a) (by omega)
    have f := fin (hiY kd Y p - q) (q - Y a) ((shi.sub2 sq).mono (by omega)) ((sq.sub2 (n.sz a)).mono (by omega))
    refine (run_of rfl (sSeq_nx u1 (sSeq_nx (s' := ⟨[some (.d (needD kd ps Y)), some (.d (.web (webF kd ps t))), some (.d (.str p)), some (.d (fr q)), some (.d (.str "first")), some (.d (.str a)), some (.d (.lst ((ar kd p).map fun a => fr (Y a)))), none, some (.d (fr (hiY kd Y p - q))), some (.d (fr (q - Y a)))], .no⟩) ?_ f))).trans ?_
    · refine sIf_t (s' := ⟨[some (.d (needD kd ps Y)), some (.d (.web (webF kd ps t))), some (.d (.str p)), some (.d (fr q)), some (.d (.str "first")), some (.d (.str a)), some (.own ((ar kd p).map fun a => fr (Y a))), none, none, none], .no⟩) (by simp [o]) ?_
      simp [e1, l1, needD, ga, l2]
    · simp [due]
  · have n1 : ("second" : Str) ≠ "first" := by decide +kernel
    have o : oEq (.str "second") (.str "first") = some false := by rw [side_eq (.inr rfl)]; simp [n1]
    have l1 := less_ok sq' slo (by omega)
    have l2 := less_ok (n.sz a) sq' (by omega)
    have f := fin (q - loY kd Y p) (Y a - q) ((sq.sub2 slo).mono (by omega)) (((n.sz a).sub2 sq).mono (by omega))
    refine (run_of rfl (sSeq_nx u1 (sSeq_nx (s' := ⟨[some (.d (needD kd ps Y)), some (.d (.web (webF kd ps t))), some (.d (.str p)), some (.d (fr q)), some (.d (.str "second")), some (.d (.str a)), some (.d (.lst ((ar kd p).map fun a => fr (Y a)))), none, some (.d (fr (q - loY kd Y p))), some (.d (fr (Y a - q)))], .no⟩) ?_ f))).trans ?_
    · refine sIf_f (s' := ⟨[some (.d (needD kd ps Y)), some (.d (.web (webF kd ps t))), some (.d (.str p)), some (.d (fr q)), some (.d (.str "second")), some (.d (.str a)), some (.own ((ar kd p).map fun a => fr (Y a))), none, none, none], .no⟩) (by simp [o]) ?_
      simp [e2, l1, needD, ga, l2]
    · simp [due, n1]
theorem law_due_ok (w : Wg kd ps) (n : Nd kd ps Y) (hp : p ∈ coins kd ps) (ha : a ∈ ar kd p) (hs : side = "first" ∨ side = "second") (sq : Sz 20 q) {dk : List (Str × D)} (gp : dGet dk p = some (fr (Y p))) (ga : dGet dk a = some (fr (Y a))) :
    F__law_due [.dic dk, .lst ((ar kd p).map fun a => fr (Y a)), .str p, fr q, .str side, .str a] = some (due (loY kd Y p) (hiY kd Y p) (Y p) q (Y a) (decide (side = "first"))) := by
  have e1 := ends_ar w.toWf n.sz hp
  have sq' : Sz 1050 q := sq.mono (by omega)
  have shi : Sz 1050 (hiY kd Y p) := n.sz _
  have slo : Sz 1050 (loY kd Y p) := n.sz _
  unfold F__law_due
  rw [runP_6]
  rcases hs with rfl | rfl
  · have o : oEq (.str "first") (.str "first") = some true := by rw [side_eq (.inl rfl)]; simp
    have l1 := law_gap_ok shi sq' (by omega)
    have l2 := law_gap_ok sq' (n.sz a) (by omega)
    have l3 := law_under_ok (n.sz p) sq' (by omega)
    have s1 : Sz 1100 (hiY kd Y p - q) := (shi.sub2 sq).mono (by omega)
    have s2 : Sz 1100 (q - Y a) := (sq.sub2 (n.sz a)).mono (by omega)
    have l4 := law_under_ok s1 s2 (by omega)
    by_cases q1 : Y p < q
    · by_cases q2 : hiY kd Y p - q < q - Y a
      · simp [psi__law_due, start, e1, o, l1, l2, l3, l4, gp, ga, due, q1, q2]
      · simp [psi__law_due, start, e1, o, l1, l2, l3, l4, gp, ga, due, q1, q2]
    · simp [psi__law_due, start, e1, o, l1, l2, l3, gp, ga, due, q1]
  · have n1 : ("second" : Str) ≠ "first" := by decide +kernel
    have o : oEq (.str "second") (.str "first") = some false := by rw [side_eq (.inr rfl)]; simp [n1]
    have l1 := law_gap_ok sq' slo (by omega)
    have l2 := law_gap_ok (n.sz a) sq' (by omega)
    have l3 := law_under_ok sq' (n.sz p) (by omega)
    have s1 : Sz 1100 (q - loY kd Y p) := (sq.sub2 slo).mono (by omega)
    have s2 : Sz 1100 (Y a - q) := ((n.sz a).sub2 sq).mono (by omega)
    have l4 := law_under_ok s1 s2 (by omega)
    by_cases q1 : q < Y p
    · by_cases q2 : q - loY kd Y p < Y a - q
      · simp [psi__law_due, start, e1, o, l1, l2, l3, l4, gp, ga, due, q1, q2, n1]
      · simp [psi__law_due, start, e1, o, l1, l2, l3, l4, gp, ga, due, q1, q2, n1]
    · simp [psi__law_due, start, e1, o, l1, l2, l3, gp, ga, due, q1, n1]
theorem safe_range_ok (w : Wg kd ps) (n : Nd kd ps Y) (hN : F_needs_of [.web (webF kd ps t)] = some (needD kd ps Y)) (hp : p ∈ coins kd ps) (ha : a ∈ ar kd p) (hs : side = "first" ∨ side = "second") (h0 : 0 ≤ q) (h1 : q ≤ 1) (h2 : q.den ≤ 1000000) (sq : Sz 20 q) :
    F_safe_range [.web (webF kd ps t), .str p, fr q, .str side, .str a] = some (due (loY kd Y p) (hiY kd Y p) (Y p) q (Y a) (decide (side = "first"))) := by
  have hpp := (mem_coins.mp hp).1
  have hap := w.ar_mem hpp ha
  have c1 := check_asked_ok (kd := kd) (ps := ps) (t := t) h0 h1 h2 hs hpp ha hap
  have c2 := check_coins_ok (kd := kd) (ps := ps) (t := t) fun p _ _ => w.pay p
  have c3 := range_of_ok (t := t) w n hp ha hs sq
  unfold F_safe_range
  rw [runP_5]
  simp [psi_safe_range, start, c1, c2, hN, c3]
end
end Dl
end

/-! ## Draw -/
section
set_option Elab.async false
set_option linter.all false
set_option maxRecDepth 100000
set_option maxHeartbeats 2000000
/-! The law's draws. -/
namespace Dl
open PySem L2
/-- a keg with room for k more draws -/
def KOk (k : Nat) (g : G) : Prop := ∃ a b c, g = .keg a b c ∧ 0 ≤ a ∧ 0 ≤ c ∧ c + k ≤ 1000000
theorem KOk.mono {k j : Nat} {g : G} (h : KOk k g) (hj : j ≤ k) : KOk j g := by
  obtain ⟨a, b, c, e, h1, h2, h3⟩ := h
  exact ⟨a, b, c, e, h1, h2, by omega⟩
theorem ladle_ok {k : Nat} {g : G} (h : KOk (k + 1) g) {m : Int} (h0 : 0 < m) (h1 : m < 1073741824) : ∃ (v : Nat) (g' : G), F__law_ladle g [.int m] = some (.int v, g') ∧ (v : Int) < m ∧ KOk k g' := by
  obtain ⟨a, b, c, rfl, ha, hc, hk⟩ := h
  unfold F__law_ladle
  rw [runG_1]
  by_cases q : 0 < a
  · have e : oDivm (.int a) (.int m) = some (.tup [.int (a / m), .int (a % m)]) := if_pos ⟨h0, h1⟩
    have n1 := Int.emod_nonneg a (by omega : m ≠ 0)
    have n2 := Int.emod_lt_of_pos a h0
    refine ⟨(a % m).toNat, .keg (a / m) b c, ?_, by omega, a / m, b, c, rfl, Int.ediv_nonneg ha (by omega), hc, by omega⟩
    have : ((a % m).toNat : Int) = a % m := by omega
    simp [psi__law_ladle, start, q, e, this]
  · let mx : Int := (b * 50033 + (c + 1) * (c + 1) * 167 + 101) % 2147479801
    let b' : Int := (mx * (43013 + mx % 6007) + 109) % 2147480611
    have mx0 : 0 ≤ mx := Int.emod_nonneg _ (by decide)
    have mx1 : mx < 2147479801 := Int.emod_lt_of_pos _ (by decide)
    have n1 := Int.emod_nonneg (b' / 512) (by omega : m ≠ 0)
    have n2 := Int.emod_lt_of_pos (b' / 512) h0
    refine ⟨(b' / 512 % m).toNat, .keg a b' (c + 1), ?_, by omega, a, b', c + 1, rfl, ha, by omega, by omega⟩
    have v : ((b' / 512 % m).toNat : Int) = b' / 512 % m := by omega
    rw [v]
    have o1 : oMul (.int b) (.int 50033) = some (.int (b * 50033)) := oMul_i (by unfold mulOk; simp)
    have o2 : oMul (.int (c + 1)) (.int (c + 1)) = some (.int ((c + 1) * (c + 1))) := oMul_i (by
      have : (c + 1).natAbs < 2 ^ 60 := by omega
      unfold mulOk; simp [this])
    have o3 : oMul (.int ((c + 1) * (c + 1))) (.int 167) = some (.int ((c + 1) * (c + 1) * 167)) := oMul_i (by unfold mulOk; simp)
    have o4 : oMod (.int (b * 50033 + (c + 1) * (c + 1) * 167 + 101)) (.int 2147479801) = some (.int mx) := oMod_i (by decide)
    have o5 : oMod (.int mx) (.int 6007) = some (.int (mx % 6007)) := oMod_i (by decide)
    have o6 : oMul (.int mx) (.int (43013 + mx % 6007)) = some (.int (mx * (43013 + mx % 6007))) := oMul_i (by
      have : mx.natAbs < 2 ^ 60 := by omega
      unfold mulOk; simp [this])
    have o7 : oMod (.int (mx * (43013 + mx % 6007) + 109)) (.int 2147480611) = some (.int b') := oMod_i (by decide)
    have o8 : oDiv (.int b') (.int 512) = some (.int (b' / 512)) := oDiv_i (by decide) (by
      exact big_of (B := 10) (by decide) (by decide))
    have o9 : oMod (.int (b' / 512)) (.int m) = some (.int (b' / 512 % m)) := oMod_i h0
    have q' : ¬ (0 < a) := q
    simp only [psi__law_ladle, start, List.map_cons, List.map_nil, List.length_cons, List.length_nil, List.cons_append, List.nil_append, sSeq_ap, sIf_ap, tBin_ap, xKg_ap, getA_mk, gx_0, gx_1, xC_ap, oGt_i, mLift_some', q', decide_false, sNx_ap, sAsg_ap, xBin_ap, oAdd_i, gKg_ap, o1, o2, o3, o4, xUn_ap, oInt_i, gNm_ap, setA_mk, sx_0, sx_1, xVar_ap, o5, o6, o7, o8, o9, sRet_ap, fin_r]
    simp [o5, o6, o7, o8, o9]
theorem law_one_ok {k : Nat} {g : G} (h : KOk (k + 1) g) {xs : List D} (h0 : 1 ≤ xs.length) (h1 : xs.length ≤ 1000) : ∃ x ∈ xs, ∃ g', F__law_one g [.lst xs] = some (x, g') ∧ KOk k g' := by
  obtain ⟨v, g', e, hv, hk⟩ := ladle_ok h (m := xs.length) (by omega) (by omega)
  have hv : v < xs.length := by omega
  refine ⟨xs[v], by simp, g', ?_, hk⟩
  unfold F__law_one
  rw [runG_1]
  simp [psi__law_one, start, e, hv]
end Dl
end

/-! ## Draw2 -/
section
set_option Elab.async false
set_option linter.all false
set_option maxRecDepth 100000
set_option maxHeartbeats 2000000
/-! The law's draws: names, some of them. -/
namespace Dl
open PySem L2
theorem slt_of {x y : Str} (h : SLe x y) (ne : x ≠ y) : slt x y := by
  by_cases q : slt x y
  · exact q
  · exact absurd (SLe.anti h q) ne
theorem srtS_slt {ys : List Str} (nd : ys.Nodup) : (srtS ys).Pairwise slt := by
  have h1 := srtS_pw ys
  have h2 : (srtS ys).Pairwise (· ≠ ·) := ((srtS_perm ys).nodup_iff).mpr nd
  exact (h1.and h2).imp fun h => slt_of h.1 h.2
theorem nine_slt : Nine.Pairwise slt := by unfold Nine slt; decide +kernel
theorem nine_nd : Nine.Nodup := by unfold Nine; decide +kernel
theorem sub_slt {xs : List Str} (h : xs.Sublist Nine) : xs.Pairwise slt := nine_slt.sublist h
theorem erase_map {α β : Type} (f : α → β) : ∀ (l : List α) (i : Nat), (l.map f).eraseIdx i = (l.eraseIdx i).map f
  | [], i => by simp
  | a :: r, 0 => by simp
  | a :: r, i + 1 => by simp [erase_map f r i]
theorem erase_perm {α : Type} : ∀ (l : List α) (i : Nat) (h : i < l.length), (l[i] :: l.eraseIdx i).Perm l
  | [], i, h => by simp at h
  | a :: r, 0, h => by simp
  | a :: r, i + 1, h => by
    have ih := erase_perm r i (by simpa using h)
    simp only [List.getElem_cons_succ, List.eraseIdx_cons_succ]
    exact (List.Perm.swap a _ _).trans (ih.cons a)
theorem pop_ok {xs : List Str} {i : Nat} {g g' : G} {e : List (Option A)} {v : Nat} (hl : gx e i = some (.own (xs.map .str))) (hb : gx e 0 = some .brw) (hg : F__law_ladle g [.int xs.length] = some (.int v, g')) (hv : v < xs.length) (hx : xs.length ≤ 1000) :
    vPop i (xCallG F__law_ladle 0 [(vLen i)]) ⟨e, g⟩ = some (.str xs[v], ⟨sx e i (some (.own ((xs.eraseIdx v).map .str))), g'⟩) := by
  have h1 : (v : Int) < 1000 := by omega
  have h2 : (xs.map D.str).eraseIdx v = (xs.eraseIdx v).map D.str := by
    rw [erase_map]
  simp [hl, hb, hg, hv, h1, h2]
/-- the law's names -/
theorem names_ok {k many : Nat} {g : G} (h : KOk (k + 40) g) (h1 : 1 ≤ many) (h2 : many ≤ 9) :
    ∃ (every mixed : List Str) (g' : G), F__law_names g [.int many] = some (.lst [.lst (every.map .str), .lst (mixed.map .str)], g') ∧ KOk k g' ∧ every.Sublist Nine ∧ every.length = many ∧ mixed.Perm every := by
  unfold F__law_names
  rw [runG_1]
  obtain ⟨s1, e1, every, hsub, hlen, g1, hk1, rfl⟩ := sWhile_inv (t := tBin oGt (vLen 2) (xVar 1)) (b := sDrop (vPop 2 (xCallG F__law_ladle 0 [(vLen 2)])))
    (fun (l : List Str) s => l.Sublist Nine ∧ many ≤ l.length ∧ ∃ g, KOk (k + 20 + l.length) g ∧ s = ⟨[some .brw, some (.d (.int many)), some (.own (l.map .str)), none, none, none], g⟩) (fun l => l.length)
    (fun s => ∃ every : List Str, every.Sublist Nine ∧ every.length = many ∧ ∃ g, KOk (k + 20) g ∧ s = ⟨[some .brw, some (.d (.int many)), some (.own (every.map .str)), none, none, none], g⟩) (by
      rintro l s ⟨hs, hl, g, hk, rfl⟩
      by_cases q : many < l.length
      · right
        have h9 : l.length ≤ 9 := hs.length_le
        obtain ⟨v, g', e, hv, hk'⟩ := ladle_ok (k := k + 20 + (l.length - 1)) (hk.mono (by omega)) (m := l.length) (by omega) (by omega)
        have hv : v < l.length := by omega
        have p := pop_ok (xs := l) (i := 2) (e := [some .brw, some (.d (.int many)), some (.own (l.map .str)), none, none, none]) (by simp) (by simp) e hv (by omega)
        refine ⟨⟨[some .brw, some (.d (.int many)), some (.own (l.map .str)), none, none, none], g⟩, ⟨[some .brw, some (.d (.int many)), some (.own ((l.eraseIdx v).map .str)), none, none, none], g'⟩, l.eraseIdx v, by simp [q], ?_, ⟨(List.eraseIdx_sublist ..).trans hs, ?_, g', hk'.mono ?_, rfl⟩, ?_⟩
        · rw [sDrop_ap, p]
          simp
        all_goals rw [List.length_eraseIdx_of_lt hv]
        all_goals omega
      · left
        exact ⟨_, by simp [q], l, hs, by omega, g, hk.mono (by omega), rfl⟩)
    Nine ⟨[some .brw, some (.d (.int many)), some (.own (Nine.map .str)), none, none, none], g⟩ ⟨List.Sublist.refl _, h2, g, h.mono (by simp [Nine]), rfl⟩
  have he9 : every.length ≤ 9 := hsub.length_le
  obtain ⟨s2, e2, m, l, g2, hp, hl, hk2, j5, rfl⟩ := forLoop_pre (tg := gNm 5) (b := sDrop (vApp 3 (vPop 4 (xCallG F__law_ladle 0 [(vLen 4)]))))
    (fun (d : Nat) => D.int (d : Int)) (fun pre s => ∃ (m l : List Str) (g : G), (m ++ l).Perm every ∧ m.length = pre.length ∧ KOk (k + l.length) g ∧ ∃ j5, s = ⟨[some .brw, some (.d (.int many)), some (.own (every.map .str)), some (.own (m.map .str)), some (.own (l.map .str)), j5], g⟩) (List.range many)
    (s := ⟨[some .brw, some (.d (.int many)), some (.own (every.map .str)), some (.own []), some (.own (every.map .str)), none], g1⟩) (by
      rintro pre n post s hx ⟨m, l, g, hp, hm, hk, j5, rfl⟩
      obtain ⟨rfl, hn⟩ := range_split hx
      have hlen2 : m.length + l.length = many := by
        have := hp.length_eq
        rw [List.length_append] at this
        omega
      obtain ⟨v, g', e, hv, hk'⟩ := ladle_ok (k := k + (l.length - 1)) (hk.mono (by omega)) (m := l.length) (by omega) (by omega)
      have hv : v < l.length := by omega
      have p := pop_ok (xs := l) (i := 4) (e := [some .brw, some (.d (.int many)), some (.own (every.map .str)), some (.own (m.map .str)), some (.own (l.map .str)), some (.d (.int pre.length))]) (by simp) (by simp) e hv (by omega)
      have hm3 : m.length < 1000 := by omega
      refine ⟨_, ⟨[some .brw, some (.d (.int many)), some (.own (every.map .str)), some (.own ((m ++ [l[v]]).map .str)), some (.own ((l.eraseIdx v).map .str)), some (.d (.int pre.length))], g'⟩, by simp; rfl, ?_, m ++ [l[v]], l.eraseIdx v, g', ?_, by simp [hm], hk'.mono (by rw [List.length_eraseIdx_of_lt hv]; omega), _, rfl⟩
      · rw [sDrop_ap, vApp_ap, p]
        simp [hm3]
      · refine List.Perm.trans ?_ hp
        rw [List.append_assoc]
        refine List.Perm.append_left m ?_
        exact erase_perm l v hv)
    ⟨[], every, g1, by simp, by simp, hk1.mono (by omega), none, rfl⟩
  rw [List.length_range] at hl
  have hl0 : l = [] := by
    have := hp.length_eq
    rw [List.length_append] at this
    exact List.eq_nil_of_length_eq_zero (by omega)
  subst hl0
  rw [List.append_nil] at hp
  refine ⟨every, m, g2, ?_, hk2.mono (by omega), hsub, hlen, hp⟩
  have b : psi__law_names ⟨some .brw :: start 5 [.int many], g⟩ = some (.rt (.lst [.lst (every.map .str), .lst (m.map .str)]) ⟨[some .brw, some (.d (.int many)), some (.d (.lst (every.map .str))), some (.d (.lst (m.map .str))), some (.own (([] : List Str).map .str)), j5], g2⟩) := by
    unfold psi__law_names
    refine sSeq_nx (s' := ⟨[some .brw, some (.d (.int many)), some (.own (Nine.map .str)), none, none, none], g⟩) (by simp [start, Nine]) (sSeq_nx e1 (sSeq_nx (s' := ⟨[some .brw, some (.d (.int many)), some (.own (every.map .str)), some (.own []), some (.own (every.map .str)), none], g1⟩) (by simp) (sSeq_nx (sFor_of (xs := (List.range many).map (fun (d : Nat) => D.int (d : Int))) (s1 := ⟨[some .brw, some (.d (.int many)), some (.own (every.map .str)), some (.own []), some (.own (every.map .str)), none], g1⟩) ?_ e2) ?_)))
    · have e2 : (many : Int) ≤ 1000 ∧ -1000 ≤ (many : Int) := by omega
      simp [e2, rgD_zero]
    · simp
  rw [b]
  rfl
/-- some of the names -/
theorem some_ok {k : Nat} {g : G} (h : KOk (k + 20) g) {things : List Str} (nd : things.Nodup) (h1 : 1 ≤ things.length) (h2 : things.length ≤ 9) :
    ∃ (as : List Str) (g' : G), F__law_some g [.lst (things.map .str), .int 3] = some (.tup (as.map .str), g') ∧ KOk k g' ∧ 1 ≤ as.length ∧ as.length ≤ 3 ∧ as.Pairwise slt ∧ ∀ a ∈ as, a ∈ things := by
  unfold F__law_some
  rw [runG_2]
  obtain ⟨v, g0, e0, hv, hk0⟩ := ladle_ok (k := k + 19) h (m := 3) (by decide) (by decide)
  let n := min things.length (1 + v)
  have hn : n = min things.length (1 + v) := rfl
  obtain ⟨s2, e2, m, l, g2, hp, hl, hk2, j5, rfl⟩ := forLoop_pre (tg := gNm 5) (b := sDrop (vApp 4 (vPop 3 (xCallG F__law_ladle 0 [(vLen 3)]))))
    (fun (d : Nat) => D.int (d : Int)) (fun pre s => ∃ (m l : List Str) (g : G), (m ++ l).Perm things ∧ m.length = pre.length ∧ KOk (k + l.length) g ∧ ∃ j5, s = ⟨[some .brw, some (.d (.lst (things.map .str))), some (.d (.int 3)), some (.own (l.map .str)), some (.own (m.map .str)), j5], g⟩) (List.range n)
    (s := ⟨[some .brw, some (.d (.lst (things.map .str))), some (.d (.int 3)), some (.own (things.map .str)), some (.own []), none], g0⟩) (by
      rintro pre i post s hx ⟨m, l, g, hp, hm, hk, j5, rfl⟩
      obtain ⟨rfl, hi⟩ := range_split hx
      have hlen2 : m.length + l.length = things.length := by
        have := hp.length_eq
        rw [List.length_append] at this
        omega
      obtain ⟨v, g', e, hv, hk'⟩ := ladle_ok (k := k + (l.length - 1)) (hk.mono (by omega)) (m := l.length) (by omega) (by omega)
      have hv : v < l.length := by omega
      have p := pop_ok (xs := l) (i := 3) (e := [some .brw, some (.d (.lst (things.map .str))), some (.d (.int 3)), some (.own (l.map .str)), some (.own (m.map .str)), some (.d (.int pre.length))]) (by simp) (by simp) e hv (by omega)
      have hm3 : m.length < 1000 := by omega
      refine ⟨_, ⟨[some .brw, some (.d (.lst (things.map .str))), some (.d (.int 3)), some (.own ((l.eraseIdx v).map .str)), some (.own ((m ++ [l[v]]).map .str)), some (.d (.int pre.length))], g'⟩, by simp; rfl, ?_, m ++ [l[v]], l.eraseIdx v, g', ?_, by simp [hm], hk'.mono (by rw [List.length_eraseIdx_of_lt hv]; omega), _, rfl⟩
      · rw [sDrop_ap, vApp_ap, p]
        simp [hm3]
      · refine List.Perm.trans ?_ hp
        rw [List.append_assoc]
        refine List.Perm.append_left m ?_
        exact erase_perm l v hv)
    ⟨[], things, g0, by simp, by simp, hk0.mono (by omega), none, rfl⟩
  rw [List.length_range] at hl
  have ndm : m.Nodup := (List.nodup_append.mp ((hp.nodup_iff).mpr nd)).1
  refine ⟨srtS m, g2, ?_, hk2.mono (by omega), by rw [srtS_len]; omega, by rw [srtS_len]; omega, srtS_slt ndm, fun a ha => hp.subset (List.mem_append_left _ ((srtS_perm m).subset ha))⟩
  have so : oSort (.lst (m.map .str)) = some ((srtS m).map .str) := by
    have : m.length < 64 := by omega
    simp [oSort, strsOf_map, this]
  have b : psi__law_some ⟨some .brw :: start 5 [.lst (things.map .str), .int 3], g⟩ = some (.rt (.tup ((srtS m).map .str)) ⟨[some .brw, some (.d (.lst (things.map .str))), some (.d (.int 3)), some (.own (l.map .str)), some (.d (.lst (m.map .str))), j5], g2⟩) := by
    unfold psi__law_some
    refine sSeq_nx (s' := ⟨[some .brw, some (.d (.lst (things.map .str))), some (.d (.int 3)), some (.own (things.map .str)), some (.own []), none], g⟩) (by simp [start]) (sSeq_nx (sFor_of (xs := (List.range n).map (fun (d : Nat) => D.int (d : Int))) (s1 := ⟨[some .brw, some (.d (.lst (things.map .str))), some (.d (.int 3)), some (.own (things.map .str)), some (.own []), none], g0⟩) ?_ e2) ?_)
    · have r1 : (if (1 : Int) + (v : Int) < (things.length : Int) then (1 : Int) + (v : Int) else (things.length : Int)) = (n : Int) := by
        rw [hn]
        split <;> omega
      have r2 : (n : Int) ≤ 1000 ∧ -1000 ≤ (n : Int) := by omega
      simp [e0, r1, r2, rgD_zero]
    · simp [so]
  rw [b]
  rfl
end Dl
end

/-! ## Draw3 -/
section
set_option Elab.async false
set_option linter.all false
set_option maxRecDepth 100000
set_option maxHeartbeats 2000000
/-! The law's draws: a web of coins. -/
namespace Dl
open PySem L2
theorem oEq_nil {l : List Str} (h : ∀ a ∈ l, sOk a) : oEq (.lst (l.map .str)) (.lst []) = some (decide (l = [])) := by
  have sh : ∀ l : List Str, (∀ a ∈ l, sOk a) → ∃ ds, D.pys (l.map .str) = some ds ∧ PyData.canLayAll0 ds = true ∧ PyData.depthAll ds = 0 ∧ (ds = [] ↔ l = []) := by
    intro l
    induction l with
    | nil => intro _; exact ⟨[], rfl, rfl, rfl, by simp⟩
    | cons a r ih =>
      intro h
      obtain ⟨ds, d1, d2, d3, d4⟩ := ih fun x hx => h x (by simp [hx])
      refine ⟨.str a :: ds, by simp [D.pys, D.py, d1], ?_, ?_, by simp⟩
      · have := h a (by simp)
        unfold sOk at this
        simp [PyData.canLayAll0, this, d2]
      · simp [PyData.depthAll, PyData.depth, d3]
  obtain ⟨ds, d1, d2, d3, d4⟩ := sh l h
  unfold oEq
  simp only [D.py, d1, D.pys]
  have s1 : SeqAt.shaped (.list ds) = true := by simp [SeqAt.shaped, PyData.canLay0, PyData.depth, d2, d3]
  have s2 : SeqAt.shaped (.list []) = true := by simp [SeqAt.shaped, PyData.canLay0, PyData.depth, PyData.canLayAll0, PyData.depthAll]
  rw [if_pos ⟨s1, s2⟩]
  cases ds with
  | nil =>
    have := d4.mp rfl
    subst this
    simp [PyData.eqv, PyData.eqvAll]
  | cons a b =>
    have : l ≠ [] := fun z => by have := d4.mpr z; simp at this
    simp [PyData.eqv, PyData.eqvAll, this]
/-- the web so far -/
structure Cn (every done : List Str) (kd : Str → Rat ⊕ List Str) : Prop where
  pay : ∀ p, 0 ≤ vl kd p ∧ vl kd p ≤ 1
  sz : ∀ p, Sz 3 (vl kd p)
  arr : ∀ p as, kd p = .inr as → 1 ≤ as.length ∧ as.length ≤ 3 ∧ as.Pairwise slt ∧ ∀ a ∈ as, a ∈ every
  back : ∀ pre p post, done = pre ++ p :: post → isE kd p = true ∨ ∃ a ∈ ar kd p, a ∈ pre
def updK (kd : Str → Rat ⊕ List Str) (x : Str) (v : Rat ⊕ List Str) : Str → Rat ⊕ List Str := fun q => if q = x then v else kd q
theorem vl_upd {kd x v p} : vl (updK kd x v) p = if p = x then (match v with | .inl q => q | .inr _ => 0) else vl kd p := by
  unfold vl updK
  by_cases h : p = x <;> simp [h]
  all_goals rfl
theorem isE_upd {kd x v p} : isE (updK kd x v) p = if p = x then (match v with | .inl _ => true | .inr _ => false) else isE kd p := by
  unfold isE updK
  by_cases h : p = x <;> simp [h]
  all_goals rfl
theorem ar_upd {kd x v p} : ar (updK kd x v) p = if p = x then (match v with | .inl _ => [] | .inr as => as) else ar kd p := by
  unfold ar updK
  by_cases h : p = x <;> simp [h]
  all_goals rfl
theorem byD_upd {kd x v p} (h : p ≠ x) : byD (updK kd x v) p = byD kd p := by
  unfold byD kn wt isE updK
  simp [h]
theorem Cn.add {every done : List Str} {kd} (c : Cn every done kd) {x : Str} (hx : x ∉ done) {v : Rat ⊕ List Str}
    (h1 : ∀ q, v = .inl q → (0 ≤ q ∧ q ≤ 1) ∧ Sz 3 q) (h2 : ∀ as, v = .inr as → (1 ≤ as.length ∧ as.length ≤ 3 ∧ as.Pairwise slt ∧ ∀ a ∈ as, a ∈ every) ∧ ∃ a ∈ as, a ∈ done) : Cn every (done ++ [x]) (updK kd x v) := by
  constructor
  · intro p
    rw [vl_upd]
    split
    · cases v with
      | inl q => exact (h1 q rfl).1
      | inr as => dsimp only; constructor <;> decide
    · exact c.pay p
  · intro p
    rw [vl_upd]
    split
    · cases v with
      | inl q => exact (h1 q rfl).2
      | inr as => exact sz_zero.mono (by omega)
    · exact c.sz p
  · intro p as e
    unfold updK at e
    by_cases q : p = x
    · rw [if_pos q] at e
      exact (h2 as e).1
    · rw [if_neg q] at e
      exact c.arr p as e
  · intro pre p post e
    rcases List.eq_nil_or_concat post with rfl | ⟨post', z, rfl⟩
    · obtain ⟨rfl, h⟩ := List.append_inj' e rfl
      simp at h
      subst h
      rw [isE_upd, ar_upd, if_pos rfl, if_pos rfl]
      cases v with
      | inl q => exact .inl rfl
      | inr as => exact .inr (h2 as rfl).2
    · have e2 : done ++ [x] = (pre ++ p :: post') ++ [z] := by rw [e]; simp
      obtain ⟨h, h2⟩ := List.append_inj' e2 rfl
      have ne : p ≠ x := fun w => by
        subst w
        apply hx
        rw [h]
        simp
      rw [isE_upd, ar_upd, if_neg ne, if_neg ne]
      exact c.back pre p post' h
theorem mkRat_unit {n d : Nat} (h : n ≤ d) (hd : d ≠ 0) : 0 ≤ mkRat n d ∧ mkRat n d ≤ 1 := by
  rw [← Rat.normalize_eq_mkRat hd, Rat.normalize_eq]
  constructor
  · rw [← Rat.num_nonneg]
    exact Int.ediv_nonneg (by omega) (by omega)
  · rw [Rat.le_iff]
    show (n : Int) / (((n : Int).natAbs.gcd d : Nat) : Int) * (1 : Nat) ≤ 1 * ((d / ((n : Int).natAbs.gcd d) : Nat) : Int)
    have : n / ((n : Int).natAbs.gcd d) ≤ d / ((n : Int).natAbs.gcd d) := Nat.div_le_div_right h
    have e : (n : Int) / (((n : Int).natAbs.gcd d : Nat) : Int) = ((n / ((n : Int).natAbs.gcd d) : Nat) : Int) := by rw [Int.natCast_ediv]
    rw [e]
    omega
theorem mkRat_sz {n d B : Nat} (hd : d ≠ 0) (h1 : n < 2 ^ B) (h2 : d < 2 ^ B) : Sz B (mkRat n d) := Sz.mk' hd (by simpa using h1) h2
end Dl
end

/-! ## Draw4 -/
section
set_option Elab.async false
set_option linter.all false
set_option maxRecDepth 100000
set_option maxHeartbeats 2000000
/-! The law's draws: the coins. -/
namespace Dl
open PySem L2
/-- the state of the coins' drawing -/
def kv (most inner ends : Nat) (every mixed : List Str) (found : List (Str × D)) (a8 j9 j10 j11 : Option A) (g : G) : S :=
  ⟨[some .brw, some (.d (.int most)), some (.d (.int 3)), some (.d (.int inner)), some (.d (.int ends)), some (.d (.lst (every.map .str))), some (.d (.lst (mixed.map .str))), some (.dct found), a8, j9, j10, j11, none], g⟩
section
variable {most inner ends : Nat} {every mixed : List Str}
theorem byD_new {kd x v} : byD (updK kd x v) x = (match v with | .inl q => .tup [.str "end", fr q] | .inr as => .tup [.str "coin", .tup (as.map .str)]) := by
  unfold byD kn wt isE updK
  cases v <;> simp
theorem ends_loop {k : Nat} {g : G} (pl : List Str) (h : KOk (k + 2 * pl.length) g) (nd : pl.Nodup) (hl : pl.length ≤ 9) {a8 : Option A} :
    ∃ kd found g' j9 j10, nj j9 = true ∧ Cn every pl kd ∧ (∀ p ∈ pl, isE kd p = true ∧ dGet found p = some (byD kd p)) ∧ found.length ≤ pl.length ∧ KOk k g' ∧
      forLoop (gNm 9) (sSeq (sAsg (gNm 10) (xBin oAdd (xC (.int 1)) (xCallG F__law_ladle 0 [(xC (.int 4))]))) (sAsg (gDx 7 (xVar 9)) (xTup [(xC (.str "end")), (xCall F__law_low [(xCallG F__law_ladle 0 [(xBin oAdd (xVar 10) (xC (.int 1)))]), (xVar 10)])])))
        (pl.map .str) (kv most inner ends every mixed [] a8 none none none g) = some (.nx (kv most inner ends every mixed found a8 j9 j10 none g')) := by
  obtain ⟨s', e1, kd, found, g', j9, j10, h9, c, hf, hl2, hk, rfl⟩ := forLoop_pre (tg := gNm 9) (b := (sSeq (sAsg (gNm 10) (xBin oAdd (xC (.int 1)) (xCallG F__law_ladle 0 [(xC (.int 4))]))) (sAsg (gDx 7 (xVar 9)) (xTup [(xC (.str "end")), (xCall F__law_low [(xCallG F__law_ladle 0 [(xBin oAdd (xVar 10) (xC (.int 1)))]), (xVar 10)])]))))
    D.str (fun pre s => ∃ kd found g' j9 j10, nj j9 = true ∧ Cn every pre kd ∧ (∀ p ∈ pre, isE kd p = true ∧ dGet found p = some (byD kd p)) ∧ found.length ≤ pre.length ∧ KOk (k + 2 * (pl.length - pre.length)) g' ∧ s = kv most inner ends every mixed found a8 j9 j10 none g') pl
    (s := kv most inner ends every mixed [] a8 none none none g) (by
      rintro pre x post s hx ⟨kd, found, g', j9, j10, h9, c, hf, hl2, hk, rfl⟩
      have hlen : pl.length = pre.length + (post.length + 1) := by rw [hx]; simp
      have hnx : x ∉ pre := fun z => by
        rw [hx] at nd
        exact (List.nodup_append.mp nd).2.2 x z x (by simp) rfl
      obtain ⟨v, g1, e1, hv, hk1⟩ := ladle_ok (k := k + 2 * (pl.length - (pre.length + 1)) + 1) (hk.mono (by omega)) (m := 4) (by decide) (by decide)
      obtain ⟨u, g2, e2, hu, hk2⟩ := ladle_ok (k := k + 2 * (pl.length - (pre.length + 1))) hk1 (m := 1 + v + 1) (by omega) (by omega)
      have lo := law_low_ok (u : Int) (1 + v) (by omega) (big_of (B := 4) (by omega) (by decide))
      have lo' : F__law_low [.int u, .int (1 + (v : Int))] = some (fr (mkRat u (1 + v))) := by
        have : ((1 + v : Nat) : Int) = 1 + (v : Int) := by omega
        rw [← this]
        exact lo
      have hb : found.length < 1000 := by omega
      have cn := c.add (x := x) hnx (v := .inl (mkRat u (1 + v))) (fun q e => by
        cases e
        exact ⟨mkRat_unit (by omega) (by omega), mkRat_sz (by omega) (by omega) (by omega)⟩) (fun as e => by cases e)
      refine ⟨_, kv most inner ends every mixed (dPut found x (.tup [.str "end", fr (mkRat u (1 + v))])) a8 (some (.d (.str x))) (some (.d (.int (1 + (v : Int))))) none g2, by simp [kv]; rfl, ?_, _, _, _, _, _, rfl, cn, fun p hp => ?_, ?_, hk2.mono (by rw [List.length_append]; simp), rfl⟩
      · refine sSeq_nx (s' := kv most inner ends every mixed found a8 (some (.d (.str x))) (some (.d (.int (1 + (v : Int))))) none g1) (by simp [kv, e1]) ?_
        simp [kv, e2, lo', hb]
      · rw [dGet_put, isE_upd]
        by_cases z : p = x
        · subst z
          rw [byD_new]
          simp
        · rw [byD_upd z, if_neg z, if_neg z]
          exact hf p (by simpa [z] using hp)
      · have := dPut_len_le found x (.tup [.str "end", fr (mkRat u (1 + v))])
        rw [List.length_append]
        simp
        omega)
    ⟨fun _ => .inl 0, [], g, none, none, rfl, ⟨fun p => by show (0 : Rat) ≤ 0 ∧ (0 : Rat) ≤ 1; constructor <;> decide, fun p => sz_zero.mono (by omega), fun p as e => (by cases e), fun pre p post e => (by simp at e)⟩, fun p hp => (by simp at hp), by simp, h.mono (by simp), rfl⟩
  exact ⟨kd, found, g', j9, j10, h9, c, hf, hl2, hk.mono (by omega), e1⟩
/-- one coin -/
theorem coin_step {k : Nat} {g : G} (h : KOk (k + 21) g) (hsub : every.Sublist Nine) (hev : 1 ≤ every.length) {done : List Str} (hd : ∀ p ∈ done, p ∈ every) (hd1 : 1 ≤ done.length) (hd9 : done.length ≤ 9) {kd : Str → Rat ⊕ List Str} (c : Cn every done kd)
    {found : List (Str × D)} (hfl : found.length ≤ done.length) {x : Str} (hx : x ∉ done) {a8 j9 j10 j11 : Option A} (h8 : isL a8 done) :
    ∃ (as : List Str) (g' : G) (a11 : Option A), (1 ≤ as.length ∧ as.length ≤ 3 ∧ as.Pairwise slt ∧ ∀ a ∈ as, a ∈ every) ∧ (∃ a ∈ as, a ∈ done) ∧ KOk k g' ∧
      (sSeq (sAsg (gNm 11) (xCallG F__law_some 0 [(xVar 5), (xVar 2)])) (sSeq (sIf (tBin oEq (xFrz (rComp (iTup (xVar 11)) (gNm 12) (vIn (xVar 12) 8) (xVar 12) [12])) (xFrz (rLst []))) (sAsg (gNm 11) (xUn oTuple (xFrz (rSorted (xBin oCatA (xSlT (xVar 11) (some (xC (.int 1))) none) (xTup [(xCallG F__law_one 0 [(xVar 8)])])))))) sNx) (sSeq (sAsg (gDx 7 (xVar 9)) (xTup [(xC (.str "coin")), (xVar 11)])) (sSet 8 (rCat (xVar 8) (xFrz (rLst [(xVar 9)])))))))
        (kv most inner ends every mixed found a8 (some (.d (.str x))) j10 j11 g)
      = some (.nx (kv most inner ends every mixed (dPut found x (.tup [.str "coin", .tup (as.map .str)])) (some (.own ((done ++ [x]).map .str))) (some (.d (.str x))) j10 a11 g')) := by
  have h9 : every.length ≤ 9 := hsub.length_le
  have ndE : every.Nodup := nine_nd.sublist hsub
  obtain ⟨as, g1, e1, hk1, l1, l2, l3, l4⟩ := some_ok (k := k + 1) h ndE hev h9
  have ok : ∀ a ∈ as, sOk a := fun a ha => nine_ok a (hsub.subset (l4 a ha))
  have cc := rComp_flt (src := iTup (xVar 11)) (tg := gNm 12) (t := vIn (xVar 12) 8) (e := xVar 12) (vs := [12])
    (s := kv most inner ends every mixed found a8 (some (.d (.str x))) j10 (some (.d (.tup (as.map .str)))) g1) (s1 := kv most inner ends every mixed found a8 (some (.d (.str x))) j10 (some (.d (.tup (as.map .str)))) g1)
    as D.str (fun a => decide (a ∈ done)) D.str (by simp [kv]) (by simp [kv]) (by simp [kv]) (by
      intro a ha
      refine ⟨_, by simp [kv]; rfl, by simp [kv], ?_, fun _ => by simp⟩
      exact isL.memv (by simpa using h8) (by simp))
  have u1 : sAsg (gNm 11) (xCallG F__law_some 0 [(xVar 5), (xVar 2)]) (kv most inner ends every mixed found a8 (some (.d (.str x))) j10 j11 g) = some (.nx (kv most inner ends every mixed found a8 (some (.d (.str x))) j10 (some (.d (.tup (as.map .str)))) g1)) := by
    simp [kv, e1]
  have tt : tBin oEq (xFrz (rComp (iTup (xVar 11)) (gNm 12) (vIn (xVar 12) 8) (xVar 12) [12])) (xFrz (rLst [])) (kv most inner ends every mixed found a8 (some (.d (.str x))) j10 (some (.d (.tup (as.map .str)))) g1)
      = some (decide (as.filter (fun a => decide (a ∈ done)) = []), kv most inner ends every mixed found a8 (some (.d (.str x))) j10 (some (.d (.tup (as.map .str)))) g1) := by
    rw [tBin_ap, xFrz_f cc]
    have := oEq_nil (l := as.filter (fun a => decide (a ∈ done))) fun a ha => ok a (List.mem_filter.mp ha).1
    simp [this]
  have tail : ∀ (as' : List Str) (a8' : Option A) (g' : G), isL a8' done → (sSeq (sAsg (gDx 7 (xVar 9)) (xTup [(xC (.str "coin")), (xVar 11)])) (sSet 8 (rCat (xVar 8) (xFrz (rLst [(xVar 9)])))))
      (kv most inner ends every mixed found a8' (some (.d (.str x))) j10 (some (.d (.tup (as'.map .str)))) g')
      = some (.nx (kv most inner ends every mixed (dPut found x (.tup [.str "coin", .tup (as'.map .str)])) (some (.own ((done ++ [x]).map .str))) (some (.d (.str x))) j10 (some (.d (.tup (as'.map .str)))) g')) := by
    intro as' a8' g' h8'
    have b1 : found.length < 1000 := by omega
    have b2 : done.length + 1 ≤ 1000 := by omega
    rcases h8' with rfl | rfl <;> simp [kv, b1, b2]
  by_cases q : as.filter (fun a => decide (a ∈ done)) = []
  · obtain ⟨y', hy, g2, e2, hk2⟩ := law_one_ok (k := k) hk1 (xs := done.map .str) (by simpa using hd1) (by simp; omega)
    obtain ⟨y, hy1, rfl⟩ := List.mem_map.mp hy
    have ndA : as.Nodup := l3.imp fun h z => by
      subst z
      exact absurd h (List.lt_irrefl _)
    have nin : ∀ a ∈ as, a ∉ done := fun a ha hb => by
      have := List.filter_eq_nil_iff.mp q a ha
      simp [hb] at this
    have ndB : (as.drop 1 ++ [y]).Nodup := by
      rw [List.nodup_append]
      refine ⟨ndA.sublist (List.drop_sublist _ _), by simp, fun a ha b hb e => ?_⟩
      simp at hb
      subst hb
      subst e
      exact nin a (List.mem_of_mem_drop ha) hy1
    have lenB : (srtS (as.drop 1 ++ [y])).length = as.length := by
      rw [srtS_len]
      simp
      omega
    refine ⟨srtS (as.drop 1 ++ [y]), g2, some (.d (.tup ((srtS (as.drop 1 ++ [y])).map .str))), ⟨by omega, by omega, srtS_slt ndB, fun a ha => ?_⟩, ⟨y, (srtS_perm _).symm.subset (by simp), hy1⟩, hk2, ?_⟩
    · have := (srtS_perm _).subset ha
      rcases List.mem_append.mp this with z | z
      · exact l4 a (List.mem_of_mem_drop z)
      · simp at z
        subst z
        exact hd a hy1
    · refine sSeq_nx u1 (sSeq_nx (s' := kv most inner ends every mixed found (some (.d (.lst (done.map .str)))) (some (.d (.str x))) j10 (some (.d (.tup ((srtS (as.drop 1 ++ [y])).map .str)))) g2) (sIf_t (by rw [tt, decide_eq_true q]) ?_) (tail _ _ _ (.inr rfl)))
      have d1 : cutD (as.map D.str) (some 1) none = (as.drop 1).map D.str := by
        have := cutD_from (as.map D.str) 1 (by simpa using l1)
        rw [List.map_drop]
        exact this
      have d2 : (as.drop 1).length < as.length := by simp; omega
      have A : xSlT (xVar 11) (some (xC (.int 1))) none (kv most inner ends every mixed found a8 (some (.d (.str x))) j10 (some (.d (.tup (as.map .str)))) g1) = some (.tup ((as.drop 1).map .str), kv most inner ends every mixed found a8 (some (.d (.str x))) j10 (some (.d (.tup (as.map .str)))) g1) := by
        rw [xSlT_ap]
        simp only [kv, xVar_ap, getA_mk, gx_0, gx_1, mOpt_s, xC_ap, mOpt_n, d1, List.length_map]
        rw [if_pos d2]
      have Bq : xTup [(xCallG F__law_one 0 [(xVar 8)])] (kv most inner ends every mixed found a8 (some (.d (.str x))) j10 (some (.d (.tup (as.map .str)))) g1) = some (.tup [.str y], kv most inner ends every mixed found (some (.d (.lst (done.map .str)))) (some (.d (.str x))) j10 (some (.d (.tup (as.map .str)))) g2) := by
        rcases h8 with rfl | rfl <;> simp [kv, e2]
      have Cq : xBin oCatA (xSlT (xVar 11) (some (xC (.int 1))) none) (xTup [(xCallG F__law_one 0 [(xVar 8)])]) (kv most inner ends every mixed found a8 (some (.d (.str x))) j10 (some (.d (.tup (as.map .str)))) g1)
          = some (.tup ((as.drop 1 ++ [y]).map .str), kv most inner ends every mixed found (some (.d (.lst (done.map .str)))) (some (.d (.str x))) j10 (some (.d (.tup (as.map .str)))) g2) := by
        rw [xBin_ap, A]
        dsimp only
        rw [Bq]
        dsimp only
        rw [oCatA_t, if_pos (by simp; omega), List.map_append]
        rfl
      have so : oSort (.tup ((as.drop 1 ++ [y]).map .str)) = some ((srtS (as.drop 1 ++ [y])).map .str) := by
        have : (as.drop 1 ++ [y]).length < 64 := by simp; omega
        show (match strsOf ((as.drop 1 ++ [y]).map .str) with | some ys => if ys.length < 64 then some ((srtS ys).map D.str) else none | none => none) = _
        rw [strsOf_map]
        dsimp only
        rw [if_pos this]
      have Dq : rSorted (xBin oCatA (xSlT (xVar 11) (some (xC (.int 1))) none) (xTup [(xCallG F__law_one 0 [(xVar 8)])])) (kv most inner ends every mixed found a8 (some (.d (.str x))) j10 (some (.d (.tup (as.map .str)))) g1)
          = some (.fr ((srtS (as.drop 1 ++ [y])).map .str), kv most inner ends every mixed found (some (.d (.lst (done.map .str)))) (some (.d (.str x))) j10 (some (.d (.tup (as.map .str)))) g2) := by
        rw [rSorted_ap, Cq]
        dsimp only
        rw [so]
      exact sAsg_of (xUn_of (xFrz_f Dq) (oTuple_l _)) (by simp [kv])
  · have hex : ∃ a ∈ as, a ∈ done := by
      cases e : as.filter (fun a => decide (a ∈ done)) with
      | nil => exact absurd e q
      | cons a r =>
        have : a ∈ as.filter (fun a => decide (a ∈ done)) := by rw [e]; simp
        have := List.mem_filter.mp this
        exact ⟨a, this.1, by simpa using this.2⟩
    refine ⟨as, g1, some (.d (.tup (as.map .str))), ⟨l1, l2, l3, l4⟩, hex, hk1.mono (by omega), ?_⟩
    exact sSeq_nx u1 (sSeq_nx (s' := kv most inner ends every mixed found a8 (some (.d (.str x))) j10 (some (.d (.tup (as.map .str)))) g1) (sIf_f (by rw [tt, decide_eq_false q]) rfl) (tail _ _ _ h8))
end
end Dl
end

/-! ## Draw5 -/
section
set_option Elab.async false
set_option linter.all false
set_option maxRecDepth 100000
set_option maxHeartbeats 2000000
/-! The law's draws: the web, the shares, the keg. -/
namespace Dl
open PySem L2
theorem rowsD_congr {kd : Str → Rat ⊕ List Str} {ps : List Str} : rowsD kd ps = .tup (ps.map fun p => .tup [.str p, .str (kn kd p), wt kd p]) := rfl
theorem coins_ok {k : Nat} {g : G} (h : KOk (k + 300) g) {most : Nat} (m1 : 1 ≤ most) (m2 : most ≤ 3) :
    ∃ (kd : Str → Rat ⊕ List Str) (ps : List Str) (g' : G), F__law_coins g [.int most, .int 3] = some (rowsD kd ps, g') ∧ KOk k g' ∧ Wg kd ps ∧ coins kd ps ≠ [] := by
  obtain ⟨i0, g1, e1, hi, hk1⟩ := ladle_ok (k := k + 299) h (m := most) (by omega) (by omega)
  obtain ⟨n0, g2, e2, hn, hk2⟩ := ladle_ok (k := k + 298) hk1 (m := 3) (by decide) (by decide)
  obtain ⟨every, mixed, g3, e3, hk3, hsub, hlen, hperm⟩ := names_ok (k := k + 258) (many := (1 + i0) + (1 + n0)) (hk2.mono (by omega)) (by omega) (by omega)
  have hml : mixed.length = (1 + i0) + (1 + n0) := by rw [hperm.length_eq, hlen]
  have ndE : every.Nodup := nine_nd.sublist hsub
  have ndM : mixed.Nodup := (hperm.nodup_iff).mpr ndE
  have tl : (mixed.take (1 + n0)).length = 1 + n0 := by rw [List.length_take]; omega
  have dl : (mixed.drop (1 + n0)).length = 1 + i0 := by rw [List.length_drop]; omega
  -- the ends
  obtain ⟨kd0, f0, g4, j9, j10, hj9, c0, hf0, hl0, hk4, loop1⟩ := ends_loop (most := most) (inner := 1 + i0) (ends := 1 + n0) (every := every) (mixed := mixed) (k := k + 200) (mixed.take (1 + n0)) (g := g3) (hk3.mono (by omega)) (ndM.sublist (List.take_sublist _ _)) (by omega) (a8 := some (.own ((mixed.take (1 + n0)).map .str)))
  -- the coins
  obtain ⟨s', loop2, kd, f, g5, a8, b9, b11, hb9, h8, c, hf, hco, hl5, hk5, rfl⟩ := forLoop_pre (tg := gNm 9) (b := (sSeq (sAsg (gNm 11) (xCallG F__law_some 0 [(xVar 5), (xVar 2)])) (sSeq (sIf (tBin oEq (xFrz (rComp (iTup (xVar 11)) (gNm 12) (vIn (xVar 12) 8) (xVar 12) [12])) (xFrz (rLst []))) (sAsg (gNm 11) (xUn oTuple (xFrz (rSorted (xBin oCatA (xSlT (xVar 11) (some (xC (.int 1))) none) (xTup [(xCallG F__law_one 0 [(xVar 8)])])))))) sNx) (sSeq (sAsg (gDx 7 (xVar 9)) (xTup [(xC (.str "coin")), (xVar 11)])) (sSet 8 (rCat (xVar 8) (xFrz (rLst [(xVar 9)]))))))))
    D.str (fun pre s => ∃ kd f g a8 b9 b11, nj b9 = true ∧ isL a8 (mixed.take (1 + n0) ++ pre) ∧ Cn every (mixed.take (1 + n0) ++ pre) kd ∧ (∀ p ∈ mixed.take (1 + n0) ++ pre, dGet f p = some (byD kd p)) ∧ ((∀ p ∈ mixed.take (1 + n0), isE kd p = true) ∧ ∀ p ∈ pre, isE kd p = false) ∧ f.length ≤ (mixed.take (1 + n0) ++ pre).length ∧ KOk (k + 30 * (3 - pre.length)) g ∧
      s = kv most (1 + i0) (1 + n0) every mixed f a8 b9 j10 b11 g) (mixed.drop (1 + n0))
    (s := kv most (1 + i0) (1 + n0) every mixed f0 (some (.own ((mixed.take (1 + n0)).map .str))) j9 j10 none g4) (by
      rintro pre x post s hx ⟨kd, f, g, a8, b9, b11, hb9, h8, c, hf, hco, hl5, hk, rfl⟩
      have hall : mixed = (mixed.take (1 + n0) ++ pre) ++ x :: post := by
        rw [List.append_assoc, ← hx, List.take_append_drop]
      have hpre : pre.length + (post.length + 1) = 1 + i0 := by
        have := congrArg List.length hx
        rw [dl] at this
        simp at this
        omega
      have hnx : x ∉ mixed.take (1 + n0) ++ pre := fun z => by
        rw [hall] at ndM
        exact (List.nodup_append.mp ndM).2.2 x z x (by simp) rfl
      have hdone : ∀ p ∈ mixed.take (1 + n0) ++ pre, p ∈ every := fun p hp => hperm.subset (by rw [hall]; exact List.mem_append_left _ hp)
      have hdl : (mixed.take (1 + n0) ++ pre).length = 1 + n0 + pre.length := by rw [List.length_append, tl]
      obtain ⟨as, g', a11, v1, v2, hk', e⟩ := coin_step (most := most) (inner := 1 + i0) (ends := 1 + n0) (mixed := mixed) (k := k + 30 * (3 - (pre.length + 1))) (g := g) (hk.mono (by omega)) hsub (by omega) hdone (by omega) (by omega) c (by omega) hnx (a8 := a8) (j9 := b9) (j10 := j10) (j11 := b11) h8
      refine ⟨kv most (1 + i0) (1 + n0) every mixed f a8 (some (.d (.str x))) j10 b11 g, _, by simp [kv], e, updK kd x (.inr as), _, g', _, _, _, rfl, ?_, ?_, fun p hp => ?_, ⟨fun p hp => ?_, fun p hp => ?_⟩, ?_, hk'.mono (by rw [List.length_append]; simp), rfl⟩
      · rw [← List.append_assoc]
        exact .inl rfl
      · rw [← List.append_assoc]
        exact c.add hnx (fun q z => by cases z) (fun bs z => by cases z; exact ⟨v1, v2⟩)
      · rw [dGet_put]
        by_cases z : p = x
        · subst z
          rw [byD_new, if_pos rfl]
        · rw [byD_upd z, if_neg z]
          refine hf p ?_
          rw [← List.append_assoc] at hp
          rcases List.mem_append.mp hp with y | y
          · exact y
          · simp at y; exact absurd y z
      · rw [isE_upd, if_neg (fun z => by subst z; exact hnx (List.mem_append_left _ hp))]
        exact hco.1 p hp
      · rw [isE_upd]
        by_cases z : p = x
        · rw [if_pos z]
        · rw [if_neg z]
          exact hco.2 p (by simpa [z] using hp)
      · have := dPut_len_le f x (.tup [.str "coin", .tup (as.map .str)])
        rw [← List.append_assoc, List.length_append]
        simp only [List.length_cons, List.length_nil]
        omega)
    ⟨kd0, f0, g4, _, j9, none, hj9, by rw [List.append_nil]; exact .inl rfl, by rw [List.append_nil]; exact c0, fun p hp => by rw [List.append_nil] at hp; exact (hf0 p hp).2, ⟨fun p hp => (hf0 p hp).1, fun p hp => by simp at hp⟩, by rw [List.append_nil]; exact hl0, hk4.mono (by simp), rfl⟩
  rw [List.take_append_drop] at h8 c hf hl5
  have memM : ∀ p, p ∈ every → p ∈ mixed := fun p hp => hperm.symm.subset hp
  -- the rows
  have cc := rComp_map (src := iLst (xVar 5)) (tg := gNm 9) (e := xBin oCatA (xTup [(xVar 9)]) (vDix 7 (xVar 9))) (vs := [9])
    (s := kv most (1 + i0) (1 + n0) every mixed f a8 b9 j10 b11 g5) (s1 := kv most (1 + i0) (1 + n0) every mixed f a8 b9 j10 b11 g5) every D.str (rwD kd) (by simp [kv]) (by simp [kv, hb9]) (by simp [kv]) (by
      intro p hp
      refine ⟨_, by simp [kv]; rfl, by simp [kv], ?_⟩
      have := hf p (memM p hp)
      simp [this, byD, rwD])
  have isC : ∀ p ∈ every, isE kd p = false → p ∈ mixed.drop (1 + n0) := fun p hp he => by
    have := memM p hp
    rw [← List.take_append_drop (1 + n0) mixed] at this
    rcases List.mem_append.mp this with z | z
    · rw [hco.1 p z] at he; exact absurd he (by decide)
    · exact z
  refine ⟨kd, every, g5, ?_, hk5.mono (by omega), ⟨⟨ndE, sub_slt hsub, fun p hp => hsub.subset hp, by omega, by omega, fun p hp as e => ?_, ⟨pos mixed, fun p hp => ?_⟩⟩, ?_, c.pay, c.sz⟩, ?_⟩
  · unfold F__law_coins
    rw [runG_2]
    have b : psi__law_coins ⟨some .brw :: start 12 [.int most, .int 3], g⟩ = some (.rt (rowsD kd every) (kv most (1 + i0) (1 + n0) every mixed f a8 b9 j10 b11 g5)) := by
      unfold psi__law_coins
      refine sSeq_nx (s' := ⟨[some .brw, some (.d (.int most)), some (.d (.int 3)), some (.d (.int (1 + i0 : Nat))), some (.d (.int (1 + n0 : Nat))), none, none, none, none, none, none, none, none], g2⟩) (by simp [start, e1, e2]) ?_
      have e3' : F__law_names g2 [.int (1 + (i0 : Int) + (1 + (n0 : Int)))] = some (.lst [.lst (every.map .str), .lst (mixed.map .str)], g3) := by
        have : (((1 + i0) + (1 + n0) : Nat) : Int) = 1 + (i0 : Int) + (1 + (n0 : Int)) := by omega
        rw [← this]
        exact e3
      refine sSeq_nx (s' := ⟨[some .brw, some (.d (.int most)), some (.d (.int 3)), some (.d (.int (1 + i0 : Nat))), some (.d (.int (1 + n0 : Nat))), some (.d (.lst (every.map .str))), some (.d (.lst (mixed.map .str))), none, none, none, none, none, none], g3⟩) (by simp [e3']) ?_
      have t1 : cutD (mixed.map D.str) none (some ((1 + n0 : Nat) : Int)) = (mixed.take (1 + n0)).map D.str := by
        rw [cutD_to _ _ (by simp; omega), List.map_take]
      have t2 : cutD (mixed.map D.str) (some ((1 + n0 : Nat) : Int)) none = (mixed.drop (1 + n0)).map D.str := by
        rw [cutD_from _ _ (by simp; omega), List.map_drop]
      refine sSeq_nx (s' := kv most (1 + i0) (1 + n0) every mixed [] (some (.own ((mixed.take (1 + n0)).map .str))) none none none g3) (by simp [kv, -Int.natCast_add, t1]) ?_
      refine sSeq_nx (sFor_of (xs := (mixed.take (1 + n0)).map .str) (s1 := kv most (1 + i0) (1 + n0) every mixed [] (some (.own ((mixed.take (1 + n0)).map .str))) none none none g3) (by simp [kv, -Int.natCast_add, t1]) loop1) ?_
      refine sSeq_nx (sFor_of (xs := (mixed.drop (1 + n0)).map .str) (s1 := kv most (1 + i0) (1 + n0) every mixed f0 (some (.own ((mixed.take (1 + n0)).map .str))) j9 j10 none g4) (by simp [kv, -Int.natCast_add, t2]) loop2) ?_
      exact sRet_of (xUn_of (xFrz_f cc) (oTuple_l _))
    rw [b]
    rfl
  · have := c.arr p as e
    exact ⟨this.1, by omega, this.2.2.1, this.2.2.2⟩
  · have hm := memM p hp
    have hp1 := pos_ok hm
    refine ⟨by omega, ?_⟩
    obtain ⟨pre, post, hab⟩ := List.append_of_mem hm
    rcases c.back pre p post hab with z | ⟨a, z1, z2⟩
    · exact .inl z
    · refine .inr ⟨a, z1, ?_⟩
      have ham : a ∈ mixed := by rw [hab]; exact List.mem_append_left _ z2
      obtain ⟨n, n1, n2⟩ := List.getElem_of_mem z2
      have p1 : at_ mixed pre.length = p := by simp [at_, hab]
      have p2 : at_ mixed n = a := by simp [at_, hab, List.getElem?_append_left n1, n2, n1]
      have l1 : pre.length < mixed.length := by rw [hab]; simp
      have q1 : pos mixed p = pre.length := by rw [← p1]; exact pos_at ndM l1
      have q2 : pos mixed a = n := by rw [← p2]; exact pos_at ndM (by omega)
      omega
  · refine Nat.le_trans (List.Nodup.length_le_of_subset (l₂ := mixed.drop (1 + n0)) (ndE.filter _) fun p hp => ?_) (by omega)
    have := List.mem_filter.mp hp
    exact isC p this.1 (by simpa using this.2)
  · cases e : mixed.drop (1 + n0) with
    | nil => rw [e] at dl; simp at dl; omega
    | cons x r =>
      have hx : x ∈ mixed.drop (1 + n0) := by rw [e]; simp
      have : x ∈ coins kd every := mem_coins.mpr ⟨hperm.subset (List.mem_of_mem_drop hx), hco.2 x hx⟩
      intro z
      rw [z] at this
      simp at this
end Dl
end

/-! ## Draw6 -/
section
set_option Elab.async false
set_option linter.all false
set_option maxRecDepth 100000
set_option maxHeartbeats 2000000
set_option exponentiation.threshold 9000
/-! The law's draws: the shares, the keg. -/
namespace Dl
open PySem L2
/-- a share as the law draws them -/
def Shr (q : Rat) : Prop := (0 ≤ q ∧ q ≤ 1) ∧ q.den ≤ 1000000
theorem Shr.sz {q : Rat} (h : Shr q) : Sz 20 q := by
  have e0 : 0 ≤ q.num := Rat.num_nonneg.mpr h.1.1
  have e1 : q.num ≤ q.den := by
    have := (Rat.le_iff q 1).mp h.1.2
    simpa using this
  have e2 := h.2
  constructor <;> omega
theorem den_fr (q : Rat) : oIx (fr q) (.int 1) = some (.int q.den) := by simp [fr]
theorem num_fr (q : Rat) : oIx (fr q) (.int 0) = some (.int q.num) := by simp [fr]
theorem shares_ok {k : Nat} {g : G} (h : KOk (k + 10) g) {y : Rat} (hy : 0 ≤ y ∧ y ≤ 1) (sy : Sz 1050 y) :
    ∃ (qs : List Rat) (g' : G), F__law_shares g [.lst [fr y]] = some (.lst (qs.map fr), g') ∧ KOk k g' ∧ 1 ≤ qs.length ∧ qs.length ≤ 100 ∧ ∀ q ∈ qs, Shr q := by
  unfold F__law_shares
  rw [runG_1]
  obtain ⟨s', e1, qs, g1, h1, h2, hk1, j3, j4, rfl⟩ := forLoop_pre (tg := gNm 3) (b := (sSeq (sAsg (gNm 4) (xBin oAdd (xC (.int 1)) (xCallG F__law_ladle 0 [(xC (.int 12))]))) (sDrop (vApp 2 (xCall F__law_low [(xCallG F__law_ladle 0 [(xBin oAdd (xVar 4) (xC (.int 1)))]), (xVar 4)])))))
    (fun (d : Nat) => D.int (d : Int)) (fun pre s => ∃ (qs : List Rat) (g : G), qs.length = 3 + pre.length ∧ (∀ q ∈ qs, Shr q) ∧ KOk (k + 2 * (3 - pre.length)) g ∧ ∃ j3 j4, s = ⟨[some .brw, some (.d (.lst [fr y])), some (.own (qs.map fr)), j3, j4, none, none, none], g⟩) (List.range 3)
    (s := ⟨[some .brw, some (.d (.lst [fr y])), some (.own (([0, 1, half] : List Rat).map fr)), none, none, none, none, none], g⟩) (by
      rintro pre n post s hx ⟨qs, g, h1, h2, hk, j3, j4, rfl⟩
      obtain ⟨rfl, hn⟩ := range_split hx
      obtain ⟨v, g1, e1, hv, hk1⟩ := ladle_ok (k := k + 2 * (3 - (pre.length + 1)) + 1) (hk.mono (by omega)) (m := 12) (by decide) (by decide)
      obtain ⟨u, g2, e2, hu, hk2⟩ := ladle_ok (k := k + 2 * (3 - (pre.length + 1))) hk1 (m := 1 + v + 1) (by omega) (by omega)
      have lo := law_low_ok (u : Int) (1 + v) (by omega) (big_of (B := 4) (by omega) (by decide))
      have lo' : F__law_low [.int u, .int (1 + (v : Int))] = some (fr (mkRat u (1 + v))) := by
        have : ((1 + v : Nat) : Int) = 1 + (v : Int) := by omega
        rw [← this]
        exact lo
      have hb : qs.length < 1000 := by omega
      refine ⟨_, ⟨[some .brw, some (.d (.lst [fr y])), some (.own ((qs ++ [mkRat u (1 + v)]).map fr)), some (.d (.int pre.length)), some (.d (.int (1 + (v : Int)))), none, none, none], g2⟩, by simp; rfl, ?_, qs ++ [mkRat u (1 + v)], g2, by simp <;> omega, fun q hq => ?_, hk2.mono (by rw [List.length_append]; simp), _, _, rfl⟩
      · refine sSeq_nx (s' := ⟨[some .brw, some (.d (.lst [fr y])), some (.own (qs.map fr)), some (.d (.int pre.length)), some (.d (.int (1 + (v : Int)))), none, none, none], g1⟩) (by simp [e1]) ?_
        simp [e2, lo', hb]
      · rcases List.mem_append.mp hq with z | z
        · exact h2 q z
        · simp at z
          subst z
          refine ⟨mkRat_unit (by omega) (by omega), ?_⟩
          have := (mkRat_le u (1 + v) (by omega)).2
          omega)
    ⟨[0, 1, half], g, by simp, by
      simp only [List.forall_mem_cons, List.not_mem_nil, false_implies, implies_true, and_true]
      unfold Shr
      decide +kernel, h.mono (by simp), none, none, rfl⟩
  rw [List.length_range] at h1 hk1
  -- near
  have n0 : 0 ≤ y.num := Rat.num_nonneg.mpr hy.1
  have n1 : y.num ≤ y.den := by
    have := (Rat.le_iff y 1).mp hy.2
    simpa using this
  obtain ⟨n, hn⟩ : ∃ n : Nat, y.num = (n : Int) := ⟨y.num.toNat, by omega⟩
  have bg : y.den + 1 < big := big_of (B := 1051) (by
    have := sy.den
    have : 2 ^ 1051 = 2 ^ 1050 + 2 ^ 1050 := by rw [show 1051 = 1050 + 1 by rfl, Nat.pow_succ]
    omega) (by decide)
  have w1 := law_low_ok (y.num + 1) (y.den + 1) (by omega) bg
  have w2 := law_low_ok y.num (y.den + 1) (by omega) bg
  rw [Int.natCast_add] at w1 w2
  have w1 : F__law_low [.int (y.num + 1), .int ((y.den : Int) + 1)] = some (fr (mkRat (y.num + 1) (y.den + 1))) := w1
  have w2 : F__law_low [.int y.num, .int ((y.den : Int) + 1)] = some (fr (mkRat y.num (y.den + 1))) := w2
  have ap : oPow (.int 10) (.int 6) = some (.int 1000000) := by rfl
  let near : List Rat := [y, mkRat (y.num + 1) (y.den + 1), mkRat y.num (y.den + 1)]
  have un : ∀ q ∈ near, 0 ≤ q ∧ q ≤ 1 := by
    simp only [near, List.forall_mem_cons, List.not_mem_nil, false_implies, implies_true, and_true]
    refine ⟨hy, ?_, ?_⟩
    · have := mkRat_unit (n := n + 1) (d := y.den + 1) (by omega) (by omega)
      rw [hn]
      exact this
    · have := mkRat_unit (n := n) (d := y.den + 1) (by omega) (by omega)
      rw [hn]
      exact this
  have c := rComp_flt (src := iLst (xVar 6)) (tg := gNm 7) (t := tBin oLe (vIx 7 (xC (.int 1))) (xBin oPow (xC (.int 10)) (xC (.int 6)))) (e := xVar 7) (vs := [7])
    (s := ⟨[some .brw, some (.d (.lst [fr y])), some (.d (.lst (qs.map fr))), j3, j4, some (.d (fr y)), some (.own (near.map fr)), none], g1⟩) (s1 := ⟨[some .brw, some (.d (.lst [fr y])), some (.d (.lst (qs.map fr))), j3, j4, some (.d (fr y)), some (.d (.lst (near.map fr))), none], g1⟩)
    near fr (fun q => decide ((q.den : Int) ≤ 1000000)) fr (by simp) (by simp) (by simp) (by
      intro q hq
      refine ⟨_, by simp; rfl, by simp, ?_, fun _ => by simp⟩
      simp [den_fr, ap])
  refine ⟨qs ++ near.filter fun q => decide ((q.den : Int) ≤ 1000000), g1, ?_, hk1.mono (by omega), by rw [List.length_append]; omega, ?_, fun q hq => ?_⟩
  · have b : psi__law_shares ⟨some .brw :: start 7 [.lst [fr y]], g⟩ = some (.rt (.lst ((qs ++ near.filter fun q => decide ((q.den : Int) ≤ 1000000)).map fr)) ⟨[some .brw, some (.d (.lst [fr y])), some (.d (.lst ((qs ++ near.filter fun q => decide ((q.den : Int) ≤ 1000000)).map fr))), j3, j4, some (.d (fr y)), some (.d (.lst (near.map fr))), none], g1⟩) := by
      unfold psi__law_shares
      refine sSeq_nx (s' := ⟨[some .brw, some (.d (.lst [fr y])), some (.own (([0, 1, half] : List Rat).map fr)), none, none, none, none, none], g⟩) ?_ ?_
      · have a1 : D.tup [.int 0, .int 1] = fr 0 := rfl
        have a2 : D.tup [.int 1, .int 1] = fr 1 := rfl
        have a3 : D.tup [.int 1, .int 2] = fr half := rfl
        simp [start, a1, a2, a3]
      refine sSeq_nx (sFor_of (xs := (List.range 3).map (fun (d : Nat) => D.int (d : Int))) (s1 := ⟨[some .brw, some (.d (.lst [fr y])), some (.own (([0, 1, half] : List Rat).map fr)), none, none, none, none, none], g⟩) (by simp [rgD_zero]) e1) ?_
      refine sSeq_nx (s' := ⟨[some .brw, some (.d (.lst [fr y])), some (.own ((qs ++ near.filter fun q => decide ((q.den : Int) ≤ 1000000)).map fr)), j3, j4, some (.d (fr y)), some (.d (.lst (near.map fr))), none], g1⟩) ?_ (by simp)
      refine sFor_of (xs := [fr y]) (s1 := ⟨[some .brw, some (.d (.lst [fr y])), some (.own (qs.map fr)), j3, j4, none, none, none], g1⟩) (by simp) ?_
      have u1 : sSet 6 (rLst [(xVar 5), (xCall F__law_low [(xBin oAdd (vIx 5 (xC (.int 0))) (xC (.int 1))), (xBin oAdd (vIx 5 (xC (.int 1))) (xC (.int 1)))]), (xCall F__law_low [(vIx 5 (xC (.int 0))), (xBin oAdd (vIx 5 (xC (.int 1))) (xC (.int 1)))])])
          ⟨[some .brw, some (.d (.lst [fr y])), some (.own (qs.map fr)), j3, j4, some (.d (fr y)), none, none], g1⟩ = some (.nx ⟨[some .brw, some (.d (.lst [fr y])), some (.own (qs.map fr)), j3, j4, some (.d (fr y)), some (.own (near.map fr)), none], g1⟩) := by
        simp [num_fr, den_fr, w1, w2, near]
      have u2 : sSet 2 (rCat (xVar 2) (xFrz (rComp (iLst (xVar 6)) (gNm 7) (tBin oLe (vIx 7 (xC (.int 1))) (xBin oPow (xC (.int 10)) (xC (.int 6)))) (xVar 7) [7])))
          ⟨[some .brw, some (.d (.lst [fr y])), some (.own (qs.map fr)), j3, j4, some (.d (fr y)), some (.own (near.map fr)), none], g1⟩ = some (.nx ⟨[some .brw, some (.d (.lst [fr y])), some (.own ((qs ++ near.filter fun q => decide ((q.den : Int) ≤ 1000000)).map fr)), j3, j4, some (.d (fr y)), some (.d (.lst (near.map fr))), none], g1⟩) := by
        have l3 : (near.filter fun q => decide ((q.den : Int) ≤ 1000000)).length ≤ 3 := List.length_filter_le _ _
        have l4 : qs.length + (near.filter fun q => decide ((q.den : Int) ≤ 1000000)).length ≤ 1000 := by omega
        have r : rCat (xVar 2) (xFrz (rComp (iLst (xVar 6)) (gNm 7) (tBin oLe (vIx 7 (xC (.int 1))) (xBin oPow (xC (.int 10)) (xC (.int 6)))) (xVar 7) [7]))
            ⟨[some .brw, some (.d (.lst [fr y])), some (.own (qs.map fr)), j3, j4, some (.d (fr y)), some (.own (near.map fr)), none], g1⟩ = some (.fr ((qs ++ near.filter fun q => decide ((q.den : Int) ≤ 1000000)).map fr), ⟨[some .brw, some (.d (.lst [fr y])), some (.d (.lst (qs.map fr))), j3, j4, some (.d (fr y)), some (.d (.lst (near.map fr))), none], g1⟩) := by
          rw [rCat_ap]
          have x2 : xVar 2 ⟨[some .brw, some (.d (.lst [fr y])), some (.own (qs.map fr)), j3, j4, some (.d (fr y)), some (.own (near.map fr)), none], g1⟩ = some (.lst (qs.map fr), ⟨[some .brw, some (.d (.lst [fr y])), some (.d (.lst (qs.map fr))), j3, j4, some (.d (fr y)), some (.own (near.map fr)), none], g1⟩) := by simp
          rw [x2]
          dsimp only
          rw [xFrz_f c]
          dsimp only
          rw [List.length_map, List.length_map, if_pos l4, List.map_append]
        rw [sSet_of r (by simp)]
        simp
      simp only [forLoop, gNm_ap]
      rw [if_pos (by simp)]
      simp only [setA_mk, sx_0, sx_1, sSeq_nx u1 u2]
    rw [b]
    rfl
  · have l3 : (near.filter fun q => decide ((q.den : Int) ≤ 1000000)).length ≤ 3 := List.length_filter_le _ _
    rw [List.length_append]
    omega
  · rcases List.mem_append.mp hq with z | z
    · exact h2 q z
    · have := List.mem_filter.mp z
      have d := this.2
      simp only [decide_eq_true_eq] at d
      exact ⟨un q this.1, by omega⟩
/-- the keg of a script -/
theorem keg_ok (ns : List Int) (turn : Nat) : ∃ a b : Int, 0 ≤ a ∧ F__law_keg [.scr ns, .int turn] = some [.int a, .int b, .int 0] := by
  have m0 : ∀ i : Int, oMul (.int 9091) (.int i) = some (.int (9091 * i)) := fun i => oMul_i (by unfold mulOk; simp)
  have m1 : ∀ i : Int, oMul (.int i) (.int 32003) = some (.int (i * 32003)) := fun i => oMul_i (by unfold mulOk; simp)
  have m2 : ∀ i : Int, oMul (.int 97) (.int i) = some (.int (97 * i)) := fun i => oMul_i (by unfold mulOk; simp)
  have m3 : ∀ i : Int, oMul (.int i) (.int 127) = some (.int (i * 127)) := fun i => oMul_i (by unfold mulOk; simp)
  have m4 : ∀ i : Int, oMul (.int i) (.int 89) = some (.int (i * 89)) := fun i => oMul_i (by unfold mulOk; simp)
  have md : ∀ i : Int, oMod (.int i) (.int 2147479801) = some (.int (i % 2147479801)) := fun i => oMod_i (by decide)
  have pw : oPow (.int 10) (.int 17) = some (.int 100000000000000000) := by rfl
  obtain ⟨s', e1, mx, j3, rfl⟩ := forLoop_pre (tg := gNm 3) (b := (sAsg (gNm 2) (xBin oMod (xUn oInt (xBin oAdd (xBin oMul (xVar 2) (xC (.int 32003))) (xVar 3))) (xC (.int 2147479801)))))
    D.int (fun pre s => ∃ (mx : Int) (j3 : Option A), s = ⟨[some (.d (.scr ns)), some (.d (.int turn)), some (.d (.int mx)), j3, none], .no⟩) (cutD ns none (some 6))
    (s := ⟨[some (.d (.scr ns)), some (.d (.int turn)), some (.d (.int (52027 + 9091 * (turn : Int)))), none, none], .no⟩) (by
      rintro pre n post s hx ⟨mx, j3, rfl⟩
      refine ⟨_, ⟨[some (.d (.scr ns)), some (.d (.int turn)), some (.d (.int ((mx * 32003 + n) % 2147479801))), some (.d (.int n)), none], .no⟩, by simp; rfl, ?_, _, _, rfl⟩
      simp [m1, md]) ⟨_, none, rfl⟩
  have own : ∃ own : Int, sAsg (gNm 4) (xIf (tBin oLt (xVar 1) (vLen 0)) (vIx 0 (xVar 1)) (xBin oAdd (xBin oMul (xC (.int 97)) (xVar 1)) (xC (.int 61)))) ⟨[some (.d (.scr ns)), some (.d (.int turn)), some (.d (.int mx)), j3, none], .no⟩ = some (.nx ⟨[some (.d (.scr ns)), some (.d (.int turn)), some (.d (.int mx)), j3, some (.d (.int own))], .no⟩) := by
    by_cases q : turn < ns.length
    · refine ⟨ns[turn], ?_⟩
      have : oIx (.scr ns) (.int turn) = some (.int ns[turn]) := by
        show (match atI ns turn with | some n => some (D.int n) | none => none) = _
        rw [atI_nat, List.getElem?_eq_getElem q]
      simp [q, this]
    · exact ⟨97 * turn + 61, by simp [q, m2]⟩
  obtain ⟨own, ho⟩ := own
  have r : ∃ a b : Int, 0 ≤ a ∧ kRet (rLst [(xIf (tBin oGe (xUn oAbs (xVar 4)) (xBin oPow (xC (.int 10)) (xC (.int 17)))) (xUn oAbs (xVar 4)) (xC (.int 0))), (xBin oMod (xUn oInt (xBin oAdd (xBin oAdd (xBin oMul (xVar 2) (xC (.int 127))) (xBin oMul (xVar 4) (xC (.int 89)))) (xC (.int 71)))) (xC (.int 2147479801))), (xC (.int 0))])
      ⟨[some (.d (.scr ns)), some (.d (.int turn)), some (.d (.int mx)), j3, some (.d (.int own))], .no⟩ = some ([.int a, .int b, .int 0], ⟨[some (.d (.scr ns)), some (.d (.int turn)), some (.d (.int mx)), j3, some (.d (.int own))], .no⟩) := by
    by_cases q : (100000000000000000 : Int) ≤ (if own < 0 then -own else own)
    · refine ⟨if own < 0 then -own else own, (mx * 127 + own * 89 + 71) % 2147479801, by split <;> omega, ?_⟩
      simp [pw, q, m3, m4, md]
    · refine ⟨0, (mx * 127 + own * 89 + 71) % 2147479801, by omega, ?_⟩
      simp [pw, q, m3, m4, md]
  obtain ⟨a, b, ha, hr⟩ := r
  refine ⟨a, b, ha, ?_⟩
  unfold F__law_keg
  rw [runK_2]
  have b : psi__law_keg ⟨start 5 [.scr ns, .int turn], .no⟩ = some ([.int a, .int b, .int 0], ⟨[some (.d (.scr ns)), some (.d (.int turn)), some (.d (.int mx)), j3, some (.d (.int own))], .no⟩) := by
    unfold psi__law_keg
    rw [kSeq_ap]
    have s1 : sAsg (gNm 2) (xBin oAdd (xC (.int 52027)) (xBin oMul (xC (.int 9091)) (xVar 1))) ⟨start 5 [.scr ns, .int turn], .no⟩ = some (.nx ⟨[some (.d (.scr ns)), some (.d (.int turn)), some (.d (.int (52027 + 9091 * (turn : Int)))), none, none], .no⟩) := by
      simp [start, m0]
    rw [s1]
    dsimp only
    rw [kSeq_ap, sFor_of (xs := (cutD ns none (some 6)).map D.int) (s1 := ⟨[some (.d (.scr ns)), some (.d (.int turn)), some (.d (.int (52027 + 9091 * (turn : Int)))), none, none], .no⟩) (by simp) e1]
    dsimp only
    rw [kSeq_ap, ho]
    exact hr
  rw [b]
end Dl
end

/-! ## Law4 -/
section
set_option Elab.async false
set_option linter.all false
set_option maxRecDepth 100000
set_option maxHeartbeats 4000000
/-! The law itself. -/
namespace Dl
open PySem L2
/-- a dict in a slot, its own or told -/
def isK (a : Option A) (kvs : List (Str × D)) : Prop := a = some (.dct kvs) ∨ a = some (.d (.dic kvs))
theorem oEq_bl (a b : Bool) : oEq (.bl a) (.bl b) = some (decide (a = b)) := by
  cases a <;> cases b <;> rfl
theorem oNe_bl (a b : Bool) : oNe (.bl a) (.bl b) = some (!decide (a = b)) := by
  unfold oNe
  rw [oEq_bl]
theorem oNe_s {x : Str} (h : sOk x) : oNe (.str x) (.str x) = some false := by
  unfold oNe
  rw [oEq_s h h]
  simp
theorem oEq_s' {x : Str} (h : sOk x) : oEq (.str x) (.str x) = some true := by
  rw [oEq_s h h]
  simp
theorem atI_last {α : Type} (xs : List α) (h : 1 ≤ xs.length) : atI xs (-1) = some (xs[xs.length - 1]'(by omega)) := by
  unfold atI ixN
  have h1 : ¬ (0 : Int) ≤ -1 := by decide
  have h2 : -(xs.length : Int) ≤ -1 := by omega
  have h3 : ((-1 : Int) + xs.length).toNat = xs.length - 1 := by omega
  rw [if_neg h1, if_pos h2, h3]
  simp
theorem due_nn {lo hi yp q ya : Rat} {first : Bool} : oNotN (due lo hi yp q ya first) = some (if first = true then decide (yp < q ∧ hi - q < q - ya) else decide (q < yp ∧ q - lo < ya - q)) := by
  unfold due
  split
  · split
    · rename_i h; simp [h]
    · rename_i h; simp [h]
  · split
    · rename_i h; simp [h]
    · rename_i h; simp [h]
theorem win1 {lo hi yp q : Rat} (h : 2 * yp = lo + hi) : (yp < q ∧ hi - q < q - lo) ↔ yp < q := by
  constructor
  · exact fun z => z.1
  · intro z
    refine ⟨z, ?_⟩
    grind
theorem win2 {lo hi yp q : Rat} (h : 2 * yp = lo + hi) : (q < yp ∧ q - lo < hi - q) ↔ q < yp := by
  constructor
  · exact fun z => z.1
  · intro z
    refine ⟨z, ?_⟩
    grind
section
variable {kd : Str → Rat ⊕ List Str} {ps : List Str} {t : List D} {Y : Str → Rat} {p a : Str} {q : Rat} {side : Str}
/-- the state of the law's loops -/
def lv (kd : Str → Rat ⊕ List Str) (ps : List Str) (t : List D) (Y : Str → Rat) (p : Str) (qs : List Rat) (a3 j4 j5 j13 j14 j15 j16 j17 j18 : Option A) (g : G) : S :=
  ⟨[some .brw, some (.d (rowsD kd ps)), some (.d (.web (webF kd ps t))), a3, j4, j5, some (.d (.str p)), some (.d (.str (kn kd p))), some (.d (.tup ((ar kd p).map .str))), some (.d (.lst ((ar kd p).map fun a => fr (Y a)))), some (.d (.lst (qs.map fr))), some (.d (fr (loY kd Y p))), some (.d (fr (hiY kd Y p))), j13, j14, j15, j16, j17, j18], g⟩
/-- one goal -/
theorem goal_ok (w : Wg kd ps) (n : Nd kd ps Y) (hN : F_needs_of [.web (webF kd ps t)] = some (needD kd ps Y)) (hp : p ∈ coins kd ps) (ha : a ∈ ar kd p) (hs : side = "first" ∨ side = "second") (hq : Shr q)
    {qs : List Rat} {a3 j4 j5 j17 j18 : Option A} {g : G} (h3 : isK a3 (dicOf ps fun p => fr (Y p))) :
    ∃ i17 i18, (sSeq (sAsg (gNm 17) (xCall F__law_due [(xVar 3), (xVar 9), (xVar 6), (xVar 13), (xVar 14), (xVar 16)])) (sSeq (sIf (tBin oNe (xUn oRepr (xCall F_safe_range [(xVar 2), (xVar 6), (xVar 13), (xVar 14), (xVar 16)])) (xUn oRepr (xVar 17))) (sRet (xC (.bl false))) sNx) (sSeq (sAsg (gNm 18) (xCall F__law_under [(vIx 15 (xC (.int 0))), (vIx 15 (xC (.int 1)))])) (sIf (tAnd (tBin oEq (vDix 3 (xVar 16)) (xIf (tBin oEq (xVar 14) (xC (.str "first"))) (xVar 11) (xVar 12))) (tBin oNe (xB (tUn oNotN (xVar 17))) (xVar 18))) (sRet (xC (.bl false))) sNx))))
      (lv kd ps t Y p qs a3 j4 j5 (some (.d (fr q))) (some (.d (.str side))) (some (.d (.lst (if side = "first" then [fr (Y p), fr q] else [fr q, fr (Y p)])))) (some (.d (.str a))) j17 j18 g)
      = some (.nx (lv kd ps t Y p qs (some (.d (.dic (dicOf ps fun p => fr (Y p))))) j4 j5 (some (.d (fr q))) (some (.d (.str side))) (some (.d (.lst (if side = "first" then [fr (Y p), fr q] else [fr q, fr (Y p)])))) (some (.d (.str a))) i17 i18 g)) := by
  have hpp := (mem_coins.mp hp).1
  have hap := w.ar_mem hpp ha
  have gp := dGet_of ps (fun p => fr (Y p)) p
  have ga := dGet_of ps (fun p => fr (Y p)) a
  rw [if_pos hpp] at gp
  rw [if_pos hap] at ga
  have sq := hq.sz
  have sq' : Sz 1050 q := sq.mono (by omega)
  have d1 := law_due_ok w n hp ha hs sq gp ga
  have d2 := safe_range_ok (t := t) w n hN hp ha hs hq.1.1 hq.1.2 hq.2 sq
  obtain ⟨x, x1, x2⟩ := repr_due (lo := loY kd Y p) (hi := hiY kd Y p) (yp := Y p) (q := q) (ya := Y a) (decide (side = "first")) (n.sz _) (n.sz _) sq (n.sz _)
  have mid : 2 * Y p = loY kd Y p + hiY kd Y p := n.mid p hp
  refine ⟨some (.d (due (loY kd Y p) (hiY kd Y p) (Y p) q (Y a) (decide (side = "first")))), some (.d (.bl (if side = "first" then decide (Y p < q) else decide (q < Y p)))), ?_⟩
  refine sSeq_nx (s' := lv kd ps t Y p qs (some (.d (.dic (dicOf ps fun p => fr (Y p))))) j4 j5 (some (.d (fr q))) (some (.d (.str side))) (some (.d (.lst (if side = "first" then [fr (Y p), fr q] else [fr q, fr (Y p)])))) (some (.d (.str a))) (some (.d (due (loY kd Y p) (hiY kd Y p) (Y p) q (Y a) (decide (side = "first"))))) j18 g) ?_ ?_
  · rcases h3 with rfl | rfl <;> simp only [lv, sAsg_ap, xCall_ap, mAll_cons', mAll_nil', xVar_ap, getA_mk, gx_0, gx_1, setA_mk, sx_0, sx_1, d1, mLift_some', gNm_ap] <;> simp
  refine sSeq_nx (s' := lv kd ps t Y p qs (some (.d (.dic (dicOf ps fun p => fr (Y p))))) j4 j5 (some (.d (fr q))) (some (.d (.str side))) (some (.d (.lst (if side = "first" then [fr (Y p), fr q] else [fr q, fr (Y p)])))) (some (.d (.str a))) (some (.d (due (loY kd Y p) (hiY kd Y p) (Y p) q (Y a) (decide (side = "first"))))) j18 g) (sIf_f (s' := lv kd ps t Y p qs (some (.d (.dic (dicOf ps fun p => fr (Y p))))) j4 j5 (some (.d (fr q))) (some (.d (.str side))) (some (.d (.lst (if side = "first" then [fr (Y p), fr q] else [fr q, fr (Y p)])))) (some (.d (.str a))) (some (.d (due (loY kd Y p) (hiY kd Y p) (Y p) q (Y a) (decide (side = "first"))))) j18 g) ?_ rfl) ?_
  · simp only [lv, tBin_ap, xUn_ap, xCall_ap, mAll_cons', mAll_nil', xVar_ap, getA_mk, gx_0, gx_1, d2, mLift_some', x1, oNe_s x2]
  refine sSeq_nx (s' := lv kd ps t Y p qs (some (.d (.dic (dicOf ps fun p => fr (Y p))))) j4 j5 (some (.d (fr q))) (some (.d (.str side))) (some (.d (.lst (if side = "first" then [fr (Y p), fr q] else [fr q, fr (Y p)])))) (some (.d (.str a))) (some (.d (due (loY kd Y p) (hiY kd Y p) (Y p) q (Y a) (decide (side = "first"))))) (some (.d (.bl (if side = "first" then decide (Y p < q) else decide (q < Y p))))) g) ?_ ?_
  · have u1 := law_under_ok (n.sz p) sq' (by omega)
    have u2 := law_under_ok sq' (n.sz p) (by omega)
    by_cases z : side = "first"
    · simp [lv, z, u1]
    · simp [lv, z, u2]
  refine sIf_f (s' := lv kd ps t Y p qs (some (.d (.dic (dicOf ps fun p => fr (Y p))))) j4 j5 (some (.d (fr q))) (some (.d (.str side))) (some (.d (.lst (if side = "first" then [fr (Y p), fr q] else [fr q, fr (Y p)])))) (some (.d (.str a))) (some (.d (due (loY kd Y p) (hiY kd Y p) (Y p) q (Y a) (decide (side = "first"))))) (some (.d (.bl (if side = "first" then decide (Y p < q) else decide (q < Y p))))) g) ?_ rfl
  have so := side_eq hs
  rw [tAnd_ap]
  have t1 : tBin oEq (vDix 3 (xVar 16)) (xIf (tBin oEq (xVar 14) (xC (.str "first"))) (xVar 11) (xVar 12)) (lv kd ps t Y p qs (some (.d (.dic (dicOf ps fun p => fr (Y p))))) j4 j5 (some (.d (fr q))) (some (.d (.str side))) (some (.d (.lst (if side = "first" then [fr (Y p), fr q] else [fr q, fr (Y p)])))) (some (.d (.str a))) (some (.d (due (loY kd Y p) (hiY kd Y p) (Y p) q (Y a) (decide (side = "first"))))) (some (.d (.bl (if side = "first" then decide (Y p < q) else decide (q < Y p))))) g)
      = some (decide (Y a = if side = "first" then loY kd Y p else hiY kd Y p), lv kd ps t Y p qs (some (.d (.dic (dicOf ps fun p => fr (Y p))))) j4 j5 (some (.d (fr q))) (some (.d (.str side))) (some (.d (.lst (if side = "first" then [fr (Y p), fr q] else [fr q, fr (Y p)])))) (some (.d (.str a))) (some (.d (due (loY kd Y p) (hiY kd Y p) (Y p) q (Y a) (decide (side = "first"))))) (some (.d (.bl (if side = "first" then decide (Y p < q) else decide (q < Y p))))) g) := by
    by_cases z : side = "first"
    · simp only [z, decide_true] at so
      simp [lv, z, so, ga, oEq_fr]
    · simp only [z, decide_false] at so
      simp [lv, z, so, ga, oEq_fr]
  rw [t1]
  by_cases e : Y a = if side = "first" then loY kd Y p else hiY kd Y p
  · rw [decide_eq_true e]
    dsimp only
    have nn := due_nn (lo := loY kd Y p) (hi := hiY kd Y p) (yp := Y p) (q := q) (ya := Y a) (first := decide (side = "first"))
    by_cases z : side = "first"
    · simp only [z, decide_true, if_true] at e nn ⊢
      rw [e] at nn ⊢
      simp only [win1 mid] at nn
      simp only [lv, tBin_ap, xB_ap, tUn_ap, xVar_ap, getA_mk, gx_0, gx_1, nn, mLift_some', oNe_bl]
      simp
    · simp only [z, decide_false, if_false, Bool.false_eq_true] at e nn ⊢
      rw [e] at nn ⊢
      simp only [win2 mid] at nn
      simp only [lv, tBin_ap, xB_ap, tUn_ap, xVar_ap, getA_mk, gx_0, gx_1, nn, mLift_some', oNe_bl]
      simp
  · rw [decide_eq_false e]
end
end Dl
end

/-! ## Law5 -/
section
set_option Elab.async false
set_option linter.all false
set_option maxRecDepth 100000
set_option maxHeartbeats 4000000
/-! The law itself: the whole. -/
namespace Dl
open PySem L2
theorem forLoop_mem {β : Type} {tg : T} {b : P} (enc : β → D) (I : S → Prop) (xs : List β) (hs : ∀ x ∈ xs, ∀ s, I s → ∃ s1 s2, tg (enc x) s = some s1 ∧ b s1 = some (.nx s2) ∧ I s2) {s : S} (h0 : I s) :
    ∃ s', forLoop tg b (xs.map enc) s = some (.nx s') ∧ I s' :=
  forLoop_pre enc (fun _ s => I s) xs (fun pre x post s hx h => hs x (by rw [hx]; simp) s h) h0
section
variable {kd : Str → Rat ⊕ List Str} {ps : List Str} {t : List D} {Y : Str → Rat} {p : Str}
/-- all goals, both players -/
theorem side_loop (w : Wg kd ps) (n : Nd kd ps Y) (hN : F_needs_of [.web (webF kd ps t)] = some (needD kd ps Y)) (hp : p ∈ coins kd ps) {q : Rat} (hq : Shr q) {qs : List Rat} {a3 j4 j5 j14 j15 j16 j17 j18 : Option A} {g : G} (h3 : isK a3 (dicOf ps fun p => fr (Y p))) :
    ∃ a3' i14 i15 i16 i17 i18, isK a3' (dicOf ps fun p => fr (Y p)) ∧ (sFor (iLst (xFrz (rLst [(xC (.str "first")), (xC (.str "second"))]))) (gNm 14) (sSeq (sAsg (gNm 15) (xIf (tBin oEq (xVar 14) (xC (.str "first"))) (xFrz (rLst [(vDix 3 (xVar 6)), (xVar 13)])) (xFrz (rLst [(xVar 13), (vDix 3 (xVar 6))])))) (sFor (iTup (xVar 8)) (gNm 16) (sSeq (sAsg (gNm 17) (xCall F__law_due [(xVar 3), (xVar 9), (xVar 6), (xVar 13), (xVar 14), (xVar 16)])) (sSeq (sIf (tBin oNe (xUn oRepr (xCall F_safe_range [(xVar 2), (xVar 6), (xVar 13), (xVar 14), (xVar 16)])) (xUn oRepr (xVar 17))) (sRet (xC (.bl false))) sNx) (sSeq (sAsg (gNm 18) (xCall F__law_under [(vIx 15 (xC (.int 0))), (vIx 15 (xC (.int 1)))])) (sIf (tAnd (tBin oEq (vDix 3 (xVar 16)) (xIf (tBin oEq (xVar 14) (xC (.str "first"))) (xVar 11) (xVar 12))) (tBin oNe (xB (tUn oNotN (xVar 17))) (xVar 18))) (sRet (xC (.bl false))) sNx)))))))
      (lv kd ps t Y p qs a3 j4 j5 (some (.d (fr q))) j14 j15 j16 j17 j18 g) = some (.nx (lv kd ps t Y p qs a3' j4 j5 (some (.d (fr q))) i14 i15 i16 i17 i18 g)) := by
  have hpp := (mem_coins.mp hp).1
  have gp := dGet_of ps (fun p => fr (Y p)) p
  rw [if_pos hpp] at gp
  obtain ⟨s', e1, a3', h3', i14, i15, i16, i17, i18, rfl⟩ := forLoop_mem (tg := gNm 14) (b := (sSeq (sAsg (gNm 15) (xIf (tBin oEq (xVar 14) (xC (.str "first"))) (xFrz (rLst [(vDix 3 (xVar 6)), (xVar 13)])) (xFrz (rLst [(xVar 13), (vDix 3 (xVar 6))])))) (sFor (iTup (xVar 8)) (gNm 16) (sSeq (sAsg (gNm 17) (xCall F__law_due [(xVar 3), (xVar 9), (xVar 6), (xVar 13), (xVar 14), (xVar 16)])) (sSeq (sIf (tBin oNe (xUn oRepr (xCall F_safe_range [(xVar 2), (xVar 6), (xVar 13), (xVar 14), (xVar 16)])) (xUn oRepr (xVar 17))) (sRet (xC (.bl false))) sNx) (sSeq (sAsg (gNm 18) (xCall F__law_under [(vIx 15 (xC (.int 0))), (vIx 15 (xC (.int 1)))])) (sIf (tAnd (tBin oEq (vDix 3 (xVar 16)) (xIf (tBin oEq (xVar 14) (xC (.str "first"))) (xVar 11) (xVar 12))) (tBin oNe (xB (tUn oNotN (xVar 17))) (xVar 18))) (sRet (xC (.bl false))) sNx)))))))
    D.str (fun s => ∃ a3, isK a3 (dicOf ps fun p => fr (Y p)) ∧ ∃ j14 j15 j16 j17 j18, s = lv kd ps t Y p qs a3 j4 j5 (some (.d (fr q))) j14 j15 j16 j17 j18 g) ["first", "second"]
    (s := lv kd ps t Y p qs a3 j4 j5 (some (.d (fr q))) j14 j15 j16 j17 j18 g) (by
      rintro side hside s ⟨a3, h3, j14, j15, j16, j17, j18, rfl⟩
      have hs : side = "first" ∨ side = "second" := by simpa using hside
      have so := side_eq hs
      obtain ⟨s', e1, a3', h3', i16, i17, i18, rfl⟩ := forLoop_mem (tg := gNm 16) (b := (sSeq (sAsg (gNm 17) (xCall F__law_due [(xVar 3), (xVar 9), (xVar 6), (xVar 13), (xVar 14), (xVar 16)])) (sSeq (sIf (tBin oNe (xUn oRepr (xCall F_safe_range [(xVar 2), (xVar 6), (xVar 13), (xVar 14), (xVar 16)])) (xUn oRepr (xVar 17))) (sRet (xC (.bl false))) sNx) (sSeq (sAsg (gNm 18) (xCall F__law_under [(vIx 15 (xC (.int 0))), (vIx 15 (xC (.int 1)))])) (sIf (tAnd (tBin oEq (vDix 3 (xVar 16)) (xIf (tBin oEq (xVar 14) (xC (.str "first"))) (xVar 11) (xVar 12))) (tBin oNe (xB (tUn oNotN (xVar 17))) (xVar 18))) (sRet (xC (.bl false))) sNx)))))
        D.str (fun s => ∃ a3, isK a3 (dicOf ps fun p => fr (Y p)) ∧ ∃ j16 j17 j18, s = lv kd ps t Y p qs a3 j4 j5 (some (.d (fr q))) (some (.d (.str side))) (some (.d (.lst (if side = "first" then [fr (Y p), fr q] else [fr q, fr (Y p)])))) j16 j17 j18 g) (ar kd p)
        (s := lv kd ps t Y p qs a3 j4 j5 (some (.d (fr q))) (some (.d (.str side))) (some (.d (.lst (if side = "first" then [fr (Y p), fr q] else [fr q, fr (Y p)])))) j16 j17 j18 g) (by
          rintro a ha s ⟨a3, h3, j16, j17, j18, rfl⟩
          obtain ⟨i17, i18, e⟩ := goal_ok (t := t) (j4 := j4) (j5 := j5) (j17 := j17) (j18 := j18) (g := g) (qs := qs) w n hN hp ha hs hq h3
          exact ⟨_, _, by simp [lv], e, _, .inr rfl, _, _, _, rfl⟩)
        ⟨a3, h3, j16, j17, j18, rfl⟩
      refine ⟨lv kd ps t Y p qs a3 j4 j5 (some (.d (fr q))) (some (.d (.str side))) j15 j16 j17 j18 g, _, by simp [lv], sSeq_nx (s' := lv kd ps t Y p qs a3 j4 j5 (some (.d (fr q))) (some (.d (.str side))) (some (.d (.lst (if side = "first" then [fr (Y p), fr q] else [fr q, fr (Y p)])))) j16 j17 j18 g) ?_ (sFor_of (by simp [lv]) e1), a3', h3', _, _, _, _, _, rfl⟩
      by_cases z : side = "first"
      · simp only [z, decide_true] at so
        rcases h3 with rfl | rfl <;> simp [lv, z, so, gp]
      · simp only [z, decide_false] at so
        rcases h3 with rfl | rfl <;> simp [lv, z, so, gp])
    ⟨a3, h3, j14, j15, j16, j17, j18, rfl⟩
  exact ⟨a3', i14, i15, i16, i17, i18, h3', sFor_of (by simp [lv]) e1⟩
end
theorem law_right_ok {g : G} (h : KOk 500 g) : ∃ g', F__law_right g [] = some (.bl true, g') := by
  have m4 : F__law_one = F__law_one := rfl
  obtain ⟨x0, hx0, g1, e1, hk1⟩ := law_one_ok (k := 499) h (xs := [.int 1, .int 2, .int 2, .int 3]) (by simp) (by simp)
  obtain ⟨most, hm, hm1, hm2⟩ : ∃ m : Nat, x0 = .int m ∧ 1 ≤ m ∧ m ≤ 3 := by
    simp at hx0
    rcases hx0 with rfl | rfl | rfl
    · exact ⟨1, rfl, by decide, by decide⟩
    · exact ⟨2, rfl, by decide, by decide⟩
    · exact ⟨3, rfl, by decide, by decide⟩
  subst hm
  obtain ⟨kd, ps, g2, e2, hk2, w, hne⟩ := coins_ok (k := 199) hk1 hm1 hm2
  obtain ⟨t, e3⟩ := W_init_ok w.toWf
  obtain ⟨Y, n, hN⟩ := needs_of_ok (t := t) w
  have e4 := needs_ok (t := t) w hN
  obtain ⟨y0, hy0, g3, e5, hk3⟩ := law_one_ok (k := 198) hk2 (xs := (coins kd ps).map (rwD kd)) (by
    rw [List.length_map]
    cases z : coins kd ps with
    | nil => exact absurd z hne
    | cons a r => simp) (by
    rw [List.length_map]
    have : (coins kd ps).length ≤ 3 := w.few
    omega)
  obtain ⟨p, hp, rfl⟩ := List.mem_map.mp hy0
  have hpp := (mem_coins.mp hp).1
  have hpe := (mem_coins.mp hp).2
  have gp := dGet_of ps (fun p => fr (Y p)) p
  rw [if_pos hpp] at gp
  obtain ⟨qs, g4, e6, hk4, hq1, hq2, hq3⟩ := shares_ok (k := 188) hk3 (n.unit p hpp) (n.sz p)
  obtain ⟨z1, hz1, g5, e7, hk5⟩ := law_one_ok (k := 187) hk4 (xs := qs.map fr) (by simpa using hq1) (by simp; omega)
  obtain ⟨q1, hqq1, rfl⟩ := List.mem_map.mp hz1
  let q2 : Rat := qs[qs.length - 1]'(by omega)
  have hqq2 : q2 ∈ qs := by simp [q2]
  have arl : 1 ≤ (ar kd p).length ∧ (ar kd p).length ≤ 8 := by
    obtain ⟨x, r, e, _⟩ := ar_cons w.toWf hp
    exact ⟨by rw [e]; simp, w.ar_len hpp⟩
  obtain ⟨a', ha', g6, e8, hk6⟩ := law_one_ok (k := 186) hk5 (xs := (ar kd p).map .str) (by simpa using arl.1) (by simp; omega)
  obtain ⟨a, ha, rfl⟩ := List.mem_map.mp ha'
  obtain ⟨z3, hz3, g7, e9, hk7⟩ := law_one_ok (k := 185) hk6 (xs := qs.map fr) (by simpa using hq1) (by simp; omega)
  obtain ⟨q3, hqq3, rfl⟩ := List.mem_map.mp hz3
  obtain ⟨s', hs', g8, e10, hk8⟩ := law_one_ok (k := 184) hk7 (xs := [.str "first", .str "second"]) (by simp) (by simp)
  obtain ⟨side, hside, hs⟩ : ∃ side : Str, s' = .str side ∧ (side = "first" ∨ side = "second") := by
    simp at hs'
    rcases hs' with rfl | rfl
    · exact ⟨_, rfl, .inl rfl⟩
    · exact ⟨_, rfl, .inr rfl⟩
  subst hside
  -- the loop that keeps the needs
  obtain ⟨s1, f1, j4, j5, hj, rfl⟩ := forLoop_pre (tg := gTp [(gNm 4), (gNm 5)]) (b := (sAsg (gDx 3 (vIx 4 (xC (.int 0)))) (xVar 5))) (fun p => D.tup [rwD kd p, fr (Y p)])
    (fun pre s => ∃ j4 j5, (nj j4 = true ∧ nj j5 = true) ∧ s = ⟨[some .brw, some (.d (rowsD kd ps)), some (.d (.web (webF kd ps t))), some (.dct (dicOf pre fun p => fr (Y p))), j4, j5, none, none, none, none, none, none, none, none, none, none, none, none, none], g2⟩) ps
    (s := ⟨[some .brw, some (.d (rowsD kd ps)), some (.d (.web (webF kd ps t))), some (.dct []), none, none, none, none, none, none, none, none, none, none, none, none, none, none, none], g2⟩) (by
      rintro pre x post s hx ⟨j4, j5, hj, rfl⟩
      have hb : pre.length < 1000 := by
        have h1 : pre.length ≤ ps.length := by rw [hx]; simp
        have := w.len
        omega
      have hnx : x ∉ pre := fun z => by
        have nd := w.nd
        rw [hx] at nd
        exact (List.nodup_append.mp nd).2.2 x z x (by simp) rfl
      have e : dPut (dicOf pre fun p => fr (Y p)) x (fr (Y x)) = dicOf (pre ++ [x]) fun p => fr (Y p) := by
        rw [dPut_new _ _ _ _ hnx]
        exact dicOf_congr fun y _ => by by_cases z : y = x <;> simp [z]
      refine ⟨_, ⟨[some .brw, some (.d (rowsD kd ps)), some (.d (.web (webF kd ps t))), some (.dct (dicOf (pre ++ [x]) fun p => fr (Y p))), some (.d (rwD kd x)), some (.d (fr (Y x))), none, none, none, none, none, none, none, none, none, none, none, none, none], g2⟩, by simp; rfl, ?_, some (.d (rwD kd x)), some (.d (fr (Y x))), ⟨rfl, rfl⟩, rfl⟩
      have r0 : oIx (rwD kd x) (.int 0) = some (.str x) := by simp [rwD]
      simp [r0, hb]
      exact e)
    ⟨none, none, ⟨rfl, rfl⟩, rfl⟩
  -- the coin's row
  have c1 := rComp_flt (src := iTup (xVar 1)) (tg := gNm 4) (t := tBin oEq (vIx 4 (xC (.int 1))) (xC (.str "coin"))) (e := xVar 4) (vs := [4])
    (s := ⟨[some .brw, some (.d (rowsD kd ps)), some (.d (.web (webF kd ps t))), some (.dct (dicOf ps fun p => fr (Y p))), j4, j5, none, none, none, none, none, none, none, none, none, none, none, none, none], g2⟩) (s1 := ⟨[some .brw, some (.d (rowsD kd ps)), some (.d (.web (webF kd ps t))), some (.dct (dicOf ps fun p => fr (Y p))), j4, j5, none, none, none, none, none, none, none, none, none, none, none, none, none], g2⟩)
    ps (rwD kd) (fun p => !isE kd p) (rwD kd) (by simp [rowsD]) (by simp [hj.1]) (by simp) (by
      intro x hx
      refine ⟨_, by simp; rfl, by simp, ?_, fun _ => by simp⟩
      have r1 : oIx (rwD kd x) (.int 1) = some (.str (kn kd x)) := by simp [rwD]
      simp [r1, kn_coin])
  have c2 : sAsg (gTp [(gNm 6), (gNm 7), (gNm 8)]) (xCallG F__law_one 0 [(xFrz (rComp (iTup (xVar 1)) (gNm 4) (tBin oEq (vIx 4 (xC (.int 1))) (xC (.str "coin"))) (xVar 4) [4]))])
      ⟨[some .brw, some (.d (rowsD kd ps)), some (.d (.web (webF kd ps t))), some (.dct (dicOf ps fun p => fr (Y p))), j4, j5, none, none, none, none, none, none, none, none, none, none, none, none, none], g2⟩
      = some (.nx ⟨[some .brw, some (.d (rowsD kd ps)), some (.d (.web (webF kd ps t))), some (.dct (dicOf ps fun p => fr (Y p))), j4, j5, some (.d (.str p)), some (.d (.str (kn kd p))), some (.d (.tup ((ar kd p).map .str))), none, none, none, none, none, none, none, none, none, none], g3⟩) := by
    refine sAsg_of (d := rwD kd p) (s1 := ⟨[some .brw, some (.d (rowsD kd ps)), some (.d (.web (webF kd ps t))), some (.dct (dicOf ps fun p => fr (Y p))), j4, j5, none, none, none, none, none, none, none, none, none, none, none, none, none], g3⟩) ?_ ?_
    · unfold coins at e5
      rw [xCallG_ap]
      simp only [hasB_ap, getA_mk, gx_0, if_true, mAll_cons', mAll_nil', xFrz_f c1, e5]
    · unfold rwD
      rw [wt_coin hpe]
      simp
  have c3 := rComp_map (src := iTup (xVar 8)) (tg := gNm 5) (e := vDix 3 (xVar 5)) (vs := [5])
    (s := ⟨[some .brw, some (.d (rowsD kd ps)), some (.d (.web (webF kd ps t))), some (.dct (dicOf ps fun p => fr (Y p))), j4, j5, some (.d (.str p)), some (.d (.str (kn kd p))), some (.d (.tup ((ar kd p).map .str))), none, none, none, none, none, none, none, none, none, none], g3⟩)
    (s1 := ⟨[some .brw, some (.d (rowsD kd ps)), some (.d (.web (webF kd ps t))), some (.dct (dicOf ps fun p => fr (Y p))), j4, j5, some (.d (.str p)), some (.d (.str (kn kd p))), some (.d (.tup ((ar kd p).map .str))), none, none, none, none, none, none, none, none, none, none], g3⟩)
    (ar kd p) D.str (fun a => fr (Y a)) (by simp) (by simp [hj.2]) (by simp) (by
      intro x hx
      refine ⟨_, by simp; rfl, by simp, ?_⟩
      have := dGet_of ps (fun p => fr (Y p)) x
      rw [if_pos (w.ar_mem hpp hx)] at this
      simp [this])
  have c4 : sPar 9 10 (rComp (iTup (xVar 8)) (gNm 5) (mRet true) (vDix 3 (xVar 5)) [5]) (rD (xCallG F__law_shares 0 [(xFrz (rLst [(vDix 3 (xVar 6))]))]))
      ⟨[some .brw, some (.d (rowsD kd ps)), some (.d (.web (webF kd ps t))), some (.dct (dicOf ps fun p => fr (Y p))), j4, j5, some (.d (.str p)), some (.d (.str (kn kd p))), some (.d (.tup ((ar kd p).map .str))), none, none, none, none, none, none, none, none, none, none], g3⟩
      = some (.nx ⟨[some .brw, some (.d (rowsD kd ps)), some (.d (.web (webF kd ps t))), some (.dct (dicOf ps fun p => fr (Y p))), j4, j5, some (.d (.str p)), some (.d (.str (kn kd p))), some (.d (.tup ((ar kd p).map .str))), some (.own ((ar kd p).map fun a => fr (Y a))), some (.d (.lst (qs.map fr))), none, none, none, none, none, none, none, none], g4⟩) := by
    rw [sPar_ap, c3]
    simp [gp, e6]
  have c5 : sAsg (gLs [(gNm 11), (gNm 12)]) (xCall F__law_ends_of [(xVar 9)])
      ⟨[some .brw, some (.d (rowsD kd ps)), some (.d (.web (webF kd ps t))), some (.dct (dicOf ps fun p => fr (Y p))), j4, j5, some (.d (.str p)), some (.d (.str (kn kd p))), some (.d (.tup ((ar kd p).map .str))), some (.own ((ar kd p).map fun a => fr (Y a))), some (.d (.lst (qs.map fr))), none, none, none, none, none, none, none, none], g4⟩
      = some (.nx (lv kd ps t Y p qs (some (.dct (dicOf ps fun p => fr (Y p)))) j4 j5 none none none none none none g4)) := by
    have := ends_ar w.toWf n.sz hp
    simp [this, lv]
  -- the loops
  obtain ⟨s2, f2, a3, h3, i13, i14, i15, i16, i17, i18, rfl⟩ := forLoop_mem (tg := gNm 13) (b := (sFor (iLst (xFrz (rLst [(xC (.str "first")), (xC (.str "second"))]))) (gNm 14) (sSeq (sAsg (gNm 15) (xIf (tBin oEq (xVar 14) (xC (.str "first"))) (xFrz (rLst [(vDix 3 (xVar 6)), (xVar 13)])) (xFrz (rLst [(xVar 13), (vDix 3 (xVar 6))])))) (sFor (iTup (xVar 8)) (gNm 16) (sSeq (sAsg (gNm 17) (xCall F__law_due [(xVar 3), (xVar 9), (xVar 6), (xVar 13), (xVar 14), (xVar 16)])) (sSeq (sIf (tBin oNe (xUn oRepr (xCall F_safe_range [(xVar 2), (xVar 6), (xVar 13), (xVar 14), (xVar 16)])) (xUn oRepr (xVar 17))) (sRet (xC (.bl false))) sNx) (sSeq (sAsg (gNm 18) (xCall F__law_under [(vIx 15 (xC (.int 0))), (vIx 15 (xC (.int 1)))])) (sIf (tAnd (tBin oEq (vDix 3 (xVar 16)) (xIf (tBin oEq (xVar 14) (xC (.str "first"))) (xVar 11) (xVar 12))) (tBin oNe (xB (tUn oNotN (xVar 17))) (xVar 18))) (sRet (xC (.bl false))) sNx))))))))
    fr (fun s => ∃ a3, isK a3 (dicOf ps fun p => fr (Y p)) ∧ ∃ i13 i14 i15 i16 i17 i18, s = lv kd ps t Y p qs a3 j4 j5 i13 i14 i15 i16 i17 i18 g5) [q1, q2]
    (s := lv kd ps t Y p qs (some (.dct (dicOf ps fun p => fr (Y p)))) j4 j5 none none none none none none g5) (by
      rintro q hq s ⟨a3, h3, i13, i14, i15, i16, i17, i18, rfl⟩
      have hq : Shr q := by
        simp at hq
        rcases hq with rfl | rfl
        · exact hq3 _ hqq1
        · exact hq3 _ hqq2
      obtain ⟨a3', k14, k15, k16, k17, k18, h3', e⟩ := side_loop (t := t) (qs := qs) (j4 := j4) (j5 := j5) (j14 := i14) (j15 := i15) (j16 := i16) (j17 := i17) (j18 := i18) (g := g5) w n hN hp hq h3
      exact ⟨lv kd ps t Y p qs a3 j4 j5 (some (.d (fr q))) i14 i15 i16 i17 i18 g5, _, by simp [lv], e, a3', h3', _, _, _, _, _, _, rfl⟩)
    ⟨_, .inl rfl, none, none, none, none, none, none, rfl⟩
  -- the last one
  have hq : Shr q3 := hq3 _ hqq3
  have ga := dGet_of ps (fun p => fr (Y p)) a
  rw [if_pos (w.ar_mem hpp ha)] at ga
  have d1 := law_due_ok w n hp ha hs hq.sz gp ga
  have d2 := safe_range_ok (t := t) w n hN hp ha hs hq.1.1 hq.1.2 hq.2 hq.sz
  obtain ⟨x, x1, x2⟩ := repr_due (lo := loY kd Y p) (hi := hiY kd Y p) (yp := Y p) (q := q3) (ya := Y a) (decide (side = "first")) (n.sz _) (n.sz _) hq.sz (n.sz _)
  have al : atI (qs.map fr) (-1) = some (fr q2) := by
    rw [atI_last _ (by simpa using hq1)]
    simp [q2]
  have run : psi__law_right ⟨some .brw :: start 18 [], g⟩ = some (.rt (.bl true) (lv kd ps t Y p qs (some (.d (.dic (dicOf ps fun p => fr (Y p))))) j4 j5 (some (.d (fr q3))) (some (.d (.str side))) i15 (some (.d (.str a))) (some (.d (due (loY kd Y p) (hiY kd Y p) (Y p) q3 (Y a) (decide (side = "first"))))) i18 g8)) := by
    unfold psi__law_right
    refine sSeq_nx (s' := ⟨[some .brw, some (.d (rowsD kd ps)), none, none, none, none, none, none, none, none, none, none, none, none, none, none, none, none, none], g2⟩) (by simp [start, e1, e2]) ?_
    refine sSeq_nx (s' := ⟨[some .brw, some (.d (rowsD kd ps)), some (.d (.web (webF kd ps t))), some (.dct []), none, none, none, none, none, none, none, none, none, none, none, none, none, none, none], g2⟩) (by simp [e3]) ?_
    refine sSeq_nx (sFor_of (xs := ps.map fun p => D.tup [rwD kd p, fr (Y p)]) (s1 := ⟨[some .brw, some (.d (rowsD kd ps)), some (.d (.web (webF kd ps t))), some (.dct []), none, none, none, none, none, none, none, none, none, none, none, none, none, none, none], g2⟩) ?_ f1) ?_
    · simp [e4]
      simp [rowsD, List.zip_map', List.map_map, Function.comp_def]
    refine sSeq_nx c2 (sSeq_nx c4 (sSeq_nx c5 (sSeq_nx (sFor_of (xs := [q1, q2].map fr) (s1 := lv kd ps t Y p qs (some (.dct (dicOf ps fun p => fr (Y p)))) j4 j5 none none none none none none g5) ?_ f2) ?_)))
    · simp [lv, e7, al]
    refine sSeq_nx (s' := lv kd ps t Y p qs a3 j4 j5 (some (.d (fr q3))) (some (.d (.str side))) i15 (some (.d (.str a))) i17 i18 g8) ?_ ?_
    · simp [lv, e8, e9, e10]
    refine sSeq_nx (s' := lv kd ps t Y p qs (some (.d (.dic (dicOf ps fun p => fr (Y p))))) j4 j5 (some (.d (fr q3))) (some (.d (.str side))) i15 (some (.d (.str a))) (some (.d (due (loY kd Y p) (hiY kd Y p) (Y p) q3 (Y a) (decide (side = "first"))))) i18 g8) ?_ ?_
    · rcases h3 with rfl | rfl <;> simp only [lv, sAsg_ap, xCall_ap, mAll_cons', mAll_nil', xVar_ap, getA_mk, gx_0, gx_1, setA_mk, sx_0, sx_1, d1, mLift_some', gNm_ap] <;> simp
    · refine sRet_of ?_
      simp only [lv, xB_ap, tBin_ap, xUn_ap, xCallR_ap, mAll_cons', mAll_nil', xVar_ap, getA_mk, gx_0, gx_1, List.reverse_cons, List.reverse_nil, List.nil_append, List.cons_append, d2, mLift_some', x1, oEq_s' x2]
  unfold F__law_right
  rw [runG_0, run]
  exact ⟨g8, rfl⟩
theorem law_ok (ns : List Int) : F_law [.scr ns] = some (.bl true) := by
  unfold F_law psi_law
  let n : Nat := max 2 (min ns.length 3)
  have hn : n ≤ 3 := by omega
  have c := rComp_map (src := iRange1 (xBin oMax (xC (.int 2)) (xBin oMin (vLen 0) (xC (.int 3))))) (tg := gNm 1) (e := xCallK F__law_right (rCallF F__law_keg [(xVar 0), (xVar 1)])) (vs := [1])
    (s := ⟨start 2 [.scr ns], .no⟩) (s1 := ⟨start 2 [.scr ns], .no⟩)
    (List.range n) (fun (d : Nat) => D.int (d : Int)) (fun _ => .bl true) (by
      have r1 : (if (if (3 : Int) < (ns.length : Int) then (3 : Int) else (ns.length : Int)) > 2 then (if (3 : Int) < (ns.length : Int) then (3 : Int) else (ns.length : Int)) else 2) = (n : Int) := by
        show _ = ((max 2 (min ns.length 3) : Nat) : Int)
        split <;> split at * <;> omega
      have r2 : (n : Int) ≤ 1000 ∧ -1000 ≤ (n : Int) := by omega
      simp only [start, List.map_cons, List.map_nil, List.length_cons, List.length_nil, iRange1_ap, xBin_ap, xC_ap, vLen_ap, getA_mk, List.cons_append, gx_0, oLen_c, oMin_i, oMax_i, mLift_some', r1, r2, rgD_zero]
      simp [r2]) (by simp [start]) (by simp [start]) (by
      intro i hi
      refine ⟨_, by simp [start]; rfl, by simp [start], ?_⟩
      obtain ⟨a, b, ha, hk⟩ := keg_ok ns i
      obtain ⟨g', hr⟩ := law_right_ok (g := .keg a b 0) ⟨a, b, 0, rfl, ha, by omega, by omega⟩
      simp [hk, hr])
  exact run_of rfl (sRet_of (xUn_of (xFrz_f c) (oAll_t _)))
end Dl
end

/-! ## Head -/
section
set_option Elab.async false
set_option linter.all false
set_option maxRecDepth 100000
set_option maxHeartbeats 0
/-! The head: what the module has when the law is called (printed by headprint.py). -/
noncomputable section
namespace Dl
open PySem PySem.Spec PyProof.Rows L2
/-- the getter of a property of the class -/
def gAd (K : PySem.W.Frag) (x : Str) : Addr := match PySem.W.recIn K (He.ma K (He.ga K "Web") x) "property" with
  | some (.ref g :: _) => g
  | _ => 0
def prpB (K : PySem.W.Frag) (x : Str) : Bool :=
  He.eqO (PySem.W.findIn K (.ref (He.ga K "Web")) x) (some (some (.ref (He.ma K (He.ga K "Web") x)))) &&
    (He.eqO (PySem.W.specialIn K (.ref (He.ma K (He.ga K "Web") x)) "__get__") (some (some (.builtin "property.__get__"))) &&
      (decide (PySem.W.takesIn K (.ref (He.ma K (He.ga K "Web") x)) = some true) && (match PySem.W.recIn K (He.ma K (He.ga K "Web") x) "property" with
        | some (.ref _ :: _) => true
        | _ => false)))
theorem prpB_ok {K : PySem.W.Frag} {x : Str} (h : prpB K x = true) : PropOf K (He.ga K "Web") x (He.ma K (He.ga K "Web") x) (gAd K x) := by
  unfold prpB at h
  obtain ⟨h1, h⟩ := He.ba h
  obtain ⟨h2, h⟩ := He.ba h
  obtain ⟨h3, h4⟩ := He.ba h
  refine ⟨He.eqO_ok h1, He.eqO_ok h2, of_decide_eq_true h3, ?_⟩
  unfold gAd
  cases q : PySem.W.recIn K (He.ma K (He.ga K "Web") x) "property" with
  | none => rw [q] at h4; cases h4
  | some l =>
    rw [q] at h4
    cases l with
    | nil => cases h4
    | cons a r => cases a with
      | ref g => exact ⟨r, rfl⟩
      | _ => cases h4
/-- what the class's facts want -/
def webB (K : PySem.W.Frag) : Bool :=
  He.eqO (PySem.W.findIn K (.ref (He.ga K "Web")) "__class__") (some (some (.builtin "object.__class__"))) &&
    (He.eqO (PySem.W.specialIn K (.builtin "object.__class__") "__get__") (some (some (.builtin "getset_descriptor.__get__"))) &&
      (decide (PySem.W.takesIn K (.builtin "object.__class__") = some true) && (decide (PySem.W.mroIn K (He.ga K "Web") (.type "object") = some true) &&
        decide (PySem.W.kitOne K (.ref (He.ga K "Web")) (.ref (He.ga K "Web")) = some true))))
/-- a def's place and text -/
structure Df where
  adr : PySem.W.Frag → Addr
  nm : Str
  ql : Str
  st : Stmt
def Df.seen (K : PySem.W.Frag) (d : Df) : He.FnW := match K.lookup (d.adr K) with
  | some ⟨_, _, .func r, _⟩ => some (r.name, r.qualname, r.params, r.body, r.scope, r.globals, r.closure, r.builtins)
  | _ => none
def Df.want (d : Df) : He.FnW := some (d.nm, d.ql, defArgs d.st, .stmts (defBody d.st), defScope d.st, mainGlobals, [], builtinsNs)
def Df.fits (K : PySem.W.Frag) (d : Df) : Bool := match PySem.W.keepIn K (.ref (d.adr K)), K.lookup (d.adr K) with
  | true, some ⟨_, _, .func r, _⟩ => PySem.W.codeIn K r.code d.ql && He.dflB K r.defaults []
  | _, _ => false
theorem Df.found {K : PySem.W.Frag} {d : Df} (e : d.seen K = d.want) (c : d.fits K = true) : ∃ fd, FnT K d.nm d.ql d.st (d.adr K) fd := by
  unfold Df.seen at e
  unfold Df.fits at c
  cases hk : PySem.W.keepIn K (.ref (d.adr K)) with
  | false => rw [hk] at c; cases c
  | true =>
    rw [hk] at c
    cases hq : K.lookup (d.adr K) with
    | none => rw [hq] at c; cases c
    | some o =>
      obtain ⟨ocl, odi, oda, osl⟩ := o
      rw [hq] at c e
      cases oda with
      | func r =>
        obtain ⟨m1, m2, m3, m4, m5, m6, m7, m8, m9, m10, m11, m12, m13, m14, m15⟩ := r
        have e' : (some (m1, m2, m3, m4, m5, m6, m7, m15) : He.FnW) = some (d.nm, d.ql, defArgs d.st, .stmts (defBody d.st), defScope d.st, mainGlobals, [], builtinsNs) := e
        simp only [Option.some.injEq, Prod.mk.injEq] at e'
        obtain ⟨rfl, rfl, rfl, rfl, rfl, rfl, rfl, rfl⟩ := e'
        obtain ⟨c1, c2⟩ := He.ba (show (PySem.W.codeIn K m13 d.ql && He.dflB K m8 []) = true from c)
        exact ⟨_, ⟨ocl, odi, m8, m9, m10, m11, m12, m13, m14, osl, rfl, hq, c1, He.dflB_ok c2, .inl rfl⟩, hk⟩
      | _ => cases c
/-- the name stands for a tuple of these -/
def tupE (x : Str) (vs : List He.Dv) (K : PySem.W.Frag) : Bool := (He.Fa.glo x).ok K && He.tupB K x vs
/-! the facts -/
def fas : List He.Fa := [(.glo "is_between" : He.Fa), .glo "is_one_of", .glo "common", .glo "lowest", .glo "is_fraction", .glo "add", .glo "less", .glo "times", .glo "is_below", .glo "lesser", .glo "greater", .glo "is_chance", .glo "least_of", .glo "greatest_of_numbers", .glo "is_place", .glo "are_places", .glo "is_what", .glo "arrows_of", .glo "are_triples", .glo "are_rows", .glo "trap_in", .glo "are_coin_rows", .glo "check_web", .glo "solved", .glo "chain_numbers", .glo "options_of", .glo "moves_by", .glo "numbers_by", .glo "gains_of", .glo "better_plan", .glo "nearest_plan", .glo "low_answer", .glo "worths_of", .glo "is_share", .glo "are_parts", .glo "are_coins", .glo "needs_of", .glo "winner_of", .glo "range_of", .glo "check_coins", .glo "check_share", .glo "check_asked", .glo "needs", .glo "safe_range", .glo "_law_keg", .glo "_law_ladle", .glo "_law_one", .glo "_law_low", .glo "_law_gap", .glo "_law_under", .glo "_law_ends_of", .glo "_law_names", .glo "_law_some", .glo "_law_coins", .glo "_law_shares", .glo "_law_due", .glo "_law_right", .glo "law", .glo "Web", .free "isinstance", .free "int", .free "bool", .free "str", .free "tuple", .free "list", .free "dict", .free "abs", .free "len", .free "all", .free "any", .free "range", .free "zip", .free "min", .free "max", .free "sorted", .free "divmod", .free "repr", .cls "Web", .noat "Web" "lines", .noat "Web" "trap", .noat "Web" "by_place", .meth "Web" "check_place", .meth "Web" "arrows", .meth "Web" "number", .mkr "Web", .int "MOST_PLACES" 24, .int "MOST_ARROWS" 8, .int "MOST_BOTTOM" 1000000, .str "SMALL" "abcdefghijklmnopqrstuvwxyz", .str "SIGNS" "abcdefghijklmnopqrstuvwxyz0123456789"]
def xbs : List (PySem.W.Frag → Bool) := [webB, fun K => prpB K "rows", fun K => prpB K "places", fun K => prpB K "ends", tupE "ZERO" [.int 0, .int 1], tupE "ONE" [.int 1, .int 1], tupE "HALF" [.int 1, .int 2], tupE "KINDS" [.str "end", .str "chance", .str "ours", .str "theirs", .str "coin"], tupE "SIDES" [.str "first", .str "second"]]
def dfs : List Df := [⟨fun K => He.ga K "is_between", "is_between", "is_between", top 18⟩, ⟨fun K => He.ga K "is_one_of", "is_one_of", "is_one_of", top 19⟩, ⟨fun K => He.ga K "common", "common", "common", top 20⟩, ⟨fun K => He.ga K "lowest", "lowest", "lowest", top 21⟩, ⟨fun K => He.ga K "is_fraction", "is_fraction", "is_fraction", top 22⟩, ⟨fun K => He.ga K "add", "add", "add", top 23⟩, ⟨fun K => He.ga K "less", "less", "less", top 24⟩, ⟨fun K => He.ga K "times", "times", "times", top 25⟩, ⟨fun K => He.ga K "is_below", "is_below", "is_below", top 26⟩, ⟨fun K => He.ga K "lesser", "lesser", "lesser", top 27⟩, ⟨fun K => He.ga K "greater", "greater", "greater", top 28⟩, ⟨fun K => He.ga K "is_chance", "is_chance", "is_chance", top 31⟩, ⟨fun K => He.ga K "least_of", "least_of", "least_of", top 32⟩, ⟨fun K => He.ga K "greatest_of_numbers", "greatest_of_numbers", "greatest_of_numbers", top 33⟩, ⟨fun K => He.ga K "is_place", "is_place", "is_place", top 43⟩, ⟨fun K => He.ga K "are_places", "are_places", "are_places", top 44⟩, ⟨fun K => He.ga K "is_what", "is_what", "is_what", top 46⟩, ⟨fun K => He.ga K "arrows_of", "arrows_of", "arrows_of", top 47⟩, ⟨fun K => He.ga K "are_triples", "are_triples", "are_triples", top 48⟩, ⟨fun K => He.ga K "are_rows", "are_rows", "are_rows", top 49⟩, ⟨fun K => He.ga K "trap_in", "trap_in", "trap_in", top 50⟩, ⟨fun K => He.ga K "are_coin_rows", "are_coin_rows", "are_coin_rows", top 51⟩, ⟨fun K => He.ma K (He.ga K "Web") "__init__", "__init__", "Web.__init__", wtop 0⟩, ⟨fun K => gAd K "rows", "rows", "Web.rows", wtop 2⟩, ⟨fun K => gAd K "places", "places", "Web.places", wtop 3⟩, ⟨fun K => gAd K "ends", "ends", "Web.ends", wtop 4⟩, ⟨fun K => He.ma K (He.ga K "Web") "check_place", "check_place", "Web.check_place", wtop 12⟩, ⟨fun K => He.ma K (He.ga K "Web") "arrows", "arrows", "Web.arrows", wtop 9⟩, ⟨fun K => He.ma K (He.ga K "Web") "number", "number", "Web.number", wtop 10⟩, ⟨fun K => He.ga K "check_web", "check_web", "check_web", top 56⟩, ⟨fun K => He.ga K "solved", "solved", "solved", top 59⟩, ⟨fun K => He.ga K "chain_numbers", "chain_numbers", "chain_numbers", top 60⟩, ⟨fun K => He.ga K "options_of", "options_of", "options_of", top 61⟩, ⟨fun K => He.ga K "moves_by", "moves_by", "moves_by", top 62⟩, ⟨fun K => He.ga K "numbers_by", "numbers_by", "numbers_by", top 64⟩, ⟨fun K => He.ga K "gains_of", "gains_of", "gains_of", top 65⟩, ⟨fun K => He.ga K "better_plan", "better_plan", "better_plan", top 66⟩, ⟨fun K => He.ga K "nearest_plan", "nearest_plan", "nearest_plan", top 67⟩, ⟨fun K => He.ga K "low_answer", "low_answer", "low_answer", top 68⟩, ⟨fun K => He.ga K "worths_of", "worths_of", "worths_of", top 69⟩, ⟨fun K => He.ga K "is_share", "is_share", "is_share", top 73⟩, ⟨fun K => He.ga K "are_parts", "are_parts", "are_parts", top 74⟩, ⟨fun K => He.ga K "are_coins", "are_coins", "are_coins", top 75⟩, ⟨fun K => He.ga K "needs_of", "needs_of", "needs_of", top 76⟩, ⟨fun K => He.ga K "winner_of", "winner_of", "winner_of", top 77⟩, ⟨fun K => He.ga K "range_of", "range_of", "range_of", top 78⟩, ⟨fun K => He.ga K "check_coins", "check_coins", "check_coins", top 79⟩, ⟨fun K => He.ga K "check_share", "check_share", "check_share", top 80⟩, ⟨fun K => He.ga K "check_asked", "check_asked", "check_asked", top 81⟩, ⟨fun K => He.ga K "needs", "needs", "needs", top 82⟩, ⟨fun K => He.ga K "safe_range", "safe_range", "safe_range", top 83⟩, ⟨fun K => He.ga K "_law_keg", "_law_keg", "_law_keg", top 85⟩, ⟨fun K => He.ga K "_law_ladle", "_law_ladle", "_law_ladle", top 86⟩, ⟨fun K => He.ga K "_law_one", "_law_one", "_law_one", top 87⟩, ⟨fun K => He.ga K "_law_low", "_law_low", "_law_low", top 88⟩, ⟨fun K => He.ga K "_law_gap", "_law_gap", "_law_gap", top 89⟩, ⟨fun K => He.ga K "_law_under", "_law_under", "_law_under", top 90⟩, ⟨fun K => He.ga K "_law_ends_of", "_law_ends_of", "_law_ends_of", top 91⟩, ⟨fun K => He.ga K "_law_names", "_law_names", "_law_names", top 92⟩, ⟨fun K => He.ga K "_law_some", "_law_some", "_law_some", top 93⟩, ⟨fun K => He.ga K "_law_coins", "_law_coins", "_law_coins", top 94⟩, ⟨fun K => He.ga K "_law_shares", "_law_shares", "_law_shares", top 95⟩, ⟨fun K => He.ga K "_law_due", "_law_due", "_law_due", top 96⟩, ⟨fun K => He.ga K "_law_right", "_law_right", "_law_right", top 97⟩, ⟨fun K => He.ga K "law", "law", "law", top 98⟩]
abbrev Ob : Type := Bool × List He.FnW
def look (K : PySem.W.Frag) : Ob := (fas.all (fun f => f.ok K) && (xbs.all (fun f => f K) && dfs.all fun d => d.fits K), dfs.map fun d => d.seen K)
def good : Ob := (true, dfs.map Df.want)
/-- the part of the heap that the facts are about -/
def gnames : List Str := ((["Web", "is_between", "is_one_of", "common", "lowest", "is_fraction", "add", "less", "times", "is_below", "lesser", "greater", "is_chance", "least_of", "greatest_of_numbers", "is_place", "are_places", "is_what", "arrows_of", "are_triples", "are_rows", "trap_in", "are_coin_rows", "check_web", "solved"] : List Str) ++ (["chain_numbers", "options_of", "moves_by", "numbers_by", "gains_of", "better_plan", "nearest_plan", "low_answer", "worths_of", "is_share", "are_parts", "are_coins", "needs_of", "winner_of", "range_of", "check_coins", "check_share", "check_asked", "needs", "safe_range", "_law_keg", "_law_ladle", "_law_one", "_law_low", "_law_gap"] : List Str) ++ (["_law_under", "_law_ends_of", "_law_names", "_law_some", "_law_coins", "_law_shares", "_law_due", "_law_right", "law", "ZERO", "ONE", "HALF", "KINDS", "SIDES"] : List Str))
def codeRf (g : Addr → Option Obj) (a : Addr) : List Addr := match g a with
  | some ⟨_, _, .func r, _⟩ => (match r.code with
    | .ref q => [q]
    | _ => [])
  | some ⟨_, _, .cls q, _⟩ => [q.ns]
  | _ => []
def part1 (g : Addr → Option Obj) : List Addr := mainGlobals :: gnames.map (He.ga (He.frG g [mainGlobals]))
def part2 (g : Addr → Option Obj) (as : List Addr) : List Addr := as ++ as.flatMap (codeRf g)
def part3 (g : Addr → Option Obj) (as : List Addr) : List Addr := as ++ ((["__init__", "rows", "places", "ends", "check_place", "arrows", "number"] : List Str)).map (He.ma (He.frG g as) (He.ga (He.frG g as) "Web"))
def part4 (g : Addr → Option Obj) (as : List Addr) : List Addr := as ++ ((["rows", "places", "ends"] : List Str)).map (gAd (He.frG g as))
def part5 (g : Addr → Option Obj) (as : List Addr) : List Addr := as ++ (as.drop 124).flatMap (codeRf g)
def heart (g : Addr → Option Obj) : PySem.W.Frag := He.frG g (part5 g (part4 g (part3 g (part2 g (part1 g)))))
def lookG (g : Addr → Option Obj) : Ob := look (heart g)

def hkD : PySem.W.Hook where
  α := Ob
  obs := fun s => lookG s.heap.get?
  val := fun _ => good
  says := fun _ h => ∃ K : PySem.W.Frag, K.In h ∧ look K = good
  of := fun _ _ e => ⟨heart _, He.frG_in, e⟩
  keeps := fun _ _ _ ⟨K, hK, c⟩ k => ⟨K, hK.keeps k, c⟩
def obT (s : PySem.W.SharedT) : Ob := lookG (HandSHeadRun.getT s)
theorem obT_eq (s : PySem.W.SharedT) : obT s = hkD.obs s.abs := by
  have e : HandSHeadRun.getT s = s.abs.heap.get? := funext (HandSHeadRun.getT_eq s)
  show lookG _ = lookG _
  rw [e]
section
variable {K : PySem.W.Frag} (c : look K = good)
include c
theorem fa_at (i : Nat) {f : He.Fa} (h : fas[i]? = some f) : f.ok K = true := by
  have c1 := (He.ba (show (fas.all (fun f => f.ok K) && _) = true from congrArg Prod.fst c)).1
  exact List.all_eq_true.mp c1 f (List.mem_of_getElem? h)
theorem xb_at (i : Nat) {f : PySem.W.Frag → Bool} (h : xbs[i]? = some f) : f K = true := by
  have c1 := (He.ba (He.ba (show (fas.all (fun f => f.ok K) && (xbs.all (fun f => f K) && _)) = true from congrArg Prod.fst c)).2).1
  exact List.all_eq_true.mp c1 f (List.mem_of_getElem? h)
theorem df_at (i : Nat) {d : Df} (h : dfs[i]? = some d) : ∃ fd, FnT K d.nm d.ql d.st (d.adr K) fd := by
  have c1 := (He.ba (He.ba (show (fas.all (fun f => f.ok K) && (xbs.all (fun f => f K) && dfs.all fun d => d.fits K)) = true from congrArg Prod.fst c)).2).2
  have e : dfs.map (fun d => d.seen K) = dfs.map Df.want := congrArg Prod.snd c
  have e2 : (dfs.map fun d => d.seen K)[i]? = (dfs.map Df.want)[i]? := by rw [e]
  rw [List.getElem?_map, List.getElem?_map, h] at e2
  exact Df.found (Option.some.inj e2) (List.all_eq_true.mp c1 d (List.mem_of_getElem? h))
end
theorem glI {K : PySem.W.Frag} {h : Heap} {mg : Str → Option Value} {C : Addr} (X : K.In h) (G : h.Ns mainGlobals mg) {x : Str} {i : Int} (c : (He.Fa.int x i).ok K = true) : GlC K mg C x (.int i) := by
  obtain ⟨t, e⟩ := He.int_ok X G c
  exact ⟨V.int i, _, e, (show RelV (V.int i) (Value.int i t) from ⟨t, rfl⟩), fun F => .int i⟩
theorem glS {K : PySem.W.Frag} {h : Heap} {mg : Str → Option Value} {C : Addr} (X : K.In h) (G : h.Ns mainGlobals mg) {x z : Str} (c : (He.Fa.str x z).ok K = true) : GlC K mg C x (.str z) := by
  obtain ⟨t, e⟩ := He.str_ok X G c
  exact ⟨V.str z, _, e, (show RelV (V.str z) (Value.str z t) from ⟨t, rfl⟩), fun F => .str z⟩
theorem glT {K : PySem.W.Frag} {h : Heap} {mg : Str → Option Value} {C : Addr} (X : K.In h) (G : h.Ns mainGlobals mg) {x : Str} {vs : List He.Dv} {ds : List D} (c : tupE x vs K = true) (hd : ∀ F, DPs K C F (vs.map (He.Dv.v K)) ds) : GlC K mg C x (.tup ds) := by
  obtain ⟨c1, c2⟩ := He.ba c
  refine ⟨.ref (He.ga K x), .ref (He.ga K x), He.glo_ok X G c1, rfl, fun F => .tupK ?_ (hd F)⟩
  rcases He.tupB_ok c2 (fun _ => none) with (z | ⟨_, z⟩) | z
  · exact nomatch (show (none : Option HO) = some _ from z)
  · exact nomatch (show (none : Option HO) = some _ from z)
  · exact z

theorem kwOf {K : PySem.W.Frag} {x qual : Str} {params : Arguments} {body : List Stmt} {scope : Scope} {f : Addr} {fd : FuncData} {ps ks : List Str} (F : FunD K x qual params body scope [] [] f fd)
    (h : ∀ (kV doc pm : Value) (an : Option Addr) (cdv ct : Value) (us : List Value), us.length = ps.length → bindArgs (PySem.W.fnOf x qual params body scope .none kV doc pm an cdv ct) ⟨[], ks.zip us⟩ = pure (ps.zip us.reverse)) : KwR K fd ps ks := by
  obtain ⟨oc, od, dV, kV, doc, pm, an, cdv, ct, osl, rfl, lk, hcd, hD, hK⟩ := F.ex
  rcases hD with ⟨_, rfl⟩ | ⟨e, _⟩
  · exact ⟨fun s us _ hl => .of_eq (h kV doc pm an cdv ct us hl)⟩
  · exact absurd rfl e
theorem facts {P : Program} {w : World} {K : PySem.W.Frag} {h : Heap} {mg : Str → Option Value} (X : K.In h) (G : h.Ns mainGlobals mg) (c : look K = good) :
    ∃ fd : FuncData, mg "law" = some (.ref (He.ga K "law")) ∧ (∀ (s : Shared) (v : Value), BindsTo s fd ⟨[v], []⟩ [("_law_script", v)]) ∧
      ∀ base : Heap, K.In base → base.Ns mainGlobals mg → FnA P w K mg base callerA (He.ga K "law") fd ["_law_script"] (spP K (He.ga K "Web") F_law) := by
  obtain ⟨fd0, F0⟩ := df_at c 0 rfl
  obtain ⟨fd1, F1⟩ := df_at c 1 rfl
  obtain ⟨fd2, F2⟩ := df_at c 2 rfl
  obtain ⟨fd3, F3⟩ := df_at c 3 rfl
  obtain ⟨fd4, F4⟩ := df_at c 4 rfl
  obtain ⟨fd5, F5⟩ := df_at c 5 rfl
  obtain ⟨fd6, F6⟩ := df_at c 6 rfl
  obtain ⟨fd7, F7⟩ := df_at c 7 rfl
  obtain ⟨fd8, F8⟩ := df_at c 8 rfl
  obtain ⟨fd9, F9⟩ := df_at c 9 rfl
  obtain ⟨fd10, F10⟩ := df_at c 10 rfl
  obtain ⟨fd11, F11⟩ := df_at c 11 rfl
  obtain ⟨fd12, F12⟩ := df_at c 12 rfl
  obtain ⟨fd13, F13⟩ := df_at c 13 rfl
  obtain ⟨fd14, F14⟩ := df_at c 14 rfl
  obtain ⟨fd15, F15⟩ := df_at c 15 rfl
  obtain ⟨fd16, F16⟩ := df_at c 16 rfl
  obtain ⟨fd17, F17⟩ := df_at c 17 rfl
  obtain ⟨fd18, F18⟩ := df_at c 18 rfl
  obtain ⟨fd19, F19⟩ := df_at c 19 rfl
  obtain ⟨fd20, F20⟩ := df_at c 20 rfl
  obtain ⟨fd21, F21⟩ := df_at c 21 rfl
  obtain ⟨fd22, F22⟩ := df_at c 22 rfl
  obtain ⟨fd23, F23⟩ := df_at c 23 rfl
  obtain ⟨fd24, F24⟩ := df_at c 24 rfl
  obtain ⟨fd25, F25⟩ := df_at c 25 rfl
  obtain ⟨fd26, F26⟩ := df_at c 26 rfl
  obtain ⟨fd27, F27⟩ := df_at c 27 rfl
  obtain ⟨fd28, F28⟩ := df_at c 28 rfl
  obtain ⟨fd29, F29⟩ := df_at c 29 rfl
  obtain ⟨fd30, F30⟩ := df_at c 30 rfl
  obtain ⟨fd31, F31⟩ := df_at c 31 rfl
  obtain ⟨fd32, F32⟩ := df_at c 32 rfl
  obtain ⟨fd33, F33⟩ := df_at c 33 rfl
  obtain ⟨fd34, F34⟩ := df_at c 34 rfl
  obtain ⟨fd35, F35⟩ := df_at c 35 rfl
  obtain ⟨fd36, F36⟩ := df_at c 36 rfl
  obtain ⟨fd37, F37⟩ := df_at c 37 rfl
  obtain ⟨fd38, F38⟩ := df_at c 38 rfl
  obtain ⟨fd39, F39⟩ := df_at c 39 rfl
  obtain ⟨fd40, F40⟩ := df_at c 40 rfl
  obtain ⟨fd41, F41⟩ := df_at c 41 rfl
  obtain ⟨fd42, F42⟩ := df_at c 42 rfl
  obtain ⟨fd43, F43⟩ := df_at c 43 rfl
  obtain ⟨fd44, F44⟩ := df_at c 44 rfl
  obtain ⟨fd45, F45⟩ := df_at c 45 rfl
  obtain ⟨fd46, F46⟩ := df_at c 46 rfl
  obtain ⟨fd47, F47⟩ := df_at c 47 rfl
  obtain ⟨fd48, F48⟩ := df_at c 48 rfl
  obtain ⟨fd49, F49⟩ := df_at c 49 rfl
  obtain ⟨fd50, F50⟩ := df_at c 50 rfl
  obtain ⟨fd51, F51⟩ := df_at c 51 rfl
  obtain ⟨fd52, F52⟩ := df_at c 52 rfl
  obtain ⟨fd53, F53⟩ := df_at c 53 rfl
  obtain ⟨fd54, F54⟩ := df_at c 54 rfl
  obtain ⟨fd55, F55⟩ := df_at c 55 rfl
  obtain ⟨fd56, F56⟩ := df_at c 56 rfl
  obtain ⟨fd57, F57⟩ := df_at c 57 rfl
  obtain ⟨fd58, F58⟩ := df_at c 58 rfl
  obtain ⟨fd59, F59⟩ := df_at c 59 rfl
  obtain ⟨fd60, F60⟩ := df_at c 60 rfl
  obtain ⟨fd61, F61⟩ := df_at c 61 rfl
  obtain ⟨fd62, F62⟩ := df_at c 62 rfl
  obtain ⟨fd63, F63⟩ := df_at c 63 rfl
  obtain ⟨fd64, F64⟩ := df_at c 64 rfl
  have n_is_between := He.glo_ok X G (x := "is_between") (fa_at c 0 rfl)
  have n_is_one_of := He.glo_ok X G (x := "is_one_of") (fa_at c 1 rfl)
  have n_common := He.glo_ok X G (x := "common") (fa_at c 2 rfl)
  have n_lowest := He.glo_ok X G (x := "lowest") (fa_at c 3 rfl)
  have n_is_fraction := He.glo_ok X G (x := "is_fraction") (fa_at c 4 rfl)
  have n_add := He.glo_ok X G (x := "add") (fa_at c 5 rfl)
  have n_less := He.glo_ok X G (x := "less") (fa_at c 6 rfl)
  have n_times := He.glo_ok X G (x := "times") (fa_at c 7 rfl)
  have n_is_below := He.glo_ok X G (x := "is_below") (fa_at c 8 rfl)
  have n_lesser := He.glo_ok X G (x := "lesser") (fa_at c 9 rfl)
  have n_greater := He.glo_ok X G (x := "greater") (fa_at c 10 rfl)
  have n_is_chance := He.glo_ok X G (x := "is_chance") (fa_at c 11 rfl)
  have n_least_of := He.glo_ok X G (x := "least_of") (fa_at c 12 rfl)
  have n_greatest_of_numbers := He.glo_ok X G (x := "greatest_of_numbers") (fa_at c 13 rfl)
  have n_is_place := He.glo_ok X G (x := "is_place") (fa_at c 14 rfl)
  have n_are_places := He.glo_ok X G (x := "are_places") (fa_at c 15 rfl)
  have n_is_what := He.glo_ok X G (x := "is_what") (fa_at c 16 rfl)
  have n_arrows_of := He.glo_ok X G (x := "arrows_of") (fa_at c 17 rfl)
  have n_are_triples := He.glo_ok X G (x := "are_triples") (fa_at c 18 rfl)
  have n_are_rows := He.glo_ok X G (x := "are_rows") (fa_at c 19 rfl)
  have n_trap_in := He.glo_ok X G (x := "trap_in") (fa_at c 20 rfl)
  have n_are_coin_rows := He.glo_ok X G (x := "are_coin_rows") (fa_at c 21 rfl)
  have n_check_web := He.glo_ok X G (x := "check_web") (fa_at c 22 rfl)
  have n_solved := He.glo_ok X G (x := "solved") (fa_at c 23 rfl)
  have n_chain_numbers := He.glo_ok X G (x := "chain_numbers") (fa_at c 24 rfl)
  have n_options_of := He.glo_ok X G (x := "options_of") (fa_at c 25 rfl)
  have n_moves_by := He.glo_ok X G (x := "moves_by") (fa_at c 26 rfl)
  have n_numbers_by := He.glo_ok X G (x := "numbers_by") (fa_at c 27 rfl)
  have n_gains_of := He.glo_ok X G (x := "gains_of") (fa_at c 28 rfl)
  have n_better_plan := He.glo_ok X G (x := "better_plan") (fa_at c 29 rfl)
  have n_nearest_plan := He.glo_ok X G (x := "nearest_plan") (fa_at c 30 rfl)
  have n_low_answer := He.glo_ok X G (x := "low_answer") (fa_at c 31 rfl)
  have n_worths_of := He.glo_ok X G (x := "worths_of") (fa_at c 32 rfl)
  have n_is_share := He.glo_ok X G (x := "is_share") (fa_at c 33 rfl)
  have n_are_parts := He.glo_ok X G (x := "are_parts") (fa_at c 34 rfl)
  have n_are_coins := He.glo_ok X G (x := "are_coins") (fa_at c 35 rfl)
  have n_needs_of := He.glo_ok X G (x := "needs_of") (fa_at c 36 rfl)
  have n_winner_of := He.glo_ok X G (x := "winner_of") (fa_at c 37 rfl)
  have n_range_of := He.glo_ok X G (x := "range_of") (fa_at c 38 rfl)
  have n_check_coins := He.glo_ok X G (x := "check_coins") (fa_at c 39 rfl)
  have n_check_share := He.glo_ok X G (x := "check_share") (fa_at c 40 rfl)
  have n_check_asked := He.glo_ok X G (x := "check_asked") (fa_at c 41 rfl)
  have n_needs := He.glo_ok X G (x := "needs") (fa_at c 42 rfl)
  have n_safe_range := He.glo_ok X G (x := "safe_range") (fa_at c 43 rfl)
  have n__law_keg := He.glo_ok X G (x := "_law_keg") (fa_at c 44 rfl)
  have n__law_ladle := He.glo_ok X G (x := "_law_ladle") (fa_at c 45 rfl)
  have n__law_one := He.glo_ok X G (x := "_law_one") (fa_at c 46 rfl)
  have n__law_low := He.glo_ok X G (x := "_law_low") (fa_at c 47 rfl)
  have n__law_gap := He.glo_ok X G (x := "_law_gap") (fa_at c 48 rfl)
  have n__law_under := He.glo_ok X G (x := "_law_under") (fa_at c 49 rfl)
  have n__law_ends_of := He.glo_ok X G (x := "_law_ends_of") (fa_at c 50 rfl)
  have n__law_names := He.glo_ok X G (x := "_law_names") (fa_at c 51 rfl)
  have n__law_some := He.glo_ok X G (x := "_law_some") (fa_at c 52 rfl)
  have n__law_coins := He.glo_ok X G (x := "_law_coins") (fa_at c 53 rfl)
  have n__law_shares := He.glo_ok X G (x := "_law_shares") (fa_at c 54 rfl)
  have n__law_due := He.glo_ok X G (x := "_law_due") (fa_at c 55 rfl)
  have n__law_right := He.glo_ok X G (x := "_law_right") (fa_at c 56 rfl)
  have n_law := He.glo_ok X G (x := "law") (fa_at c 57 rfl)
  have bt : Bt mg := ⟨He.free_ok X G (x := "isinstance") (fa_at c 59 rfl), He.free_ok X G (x := "int") (fa_at c 60 rfl), He.free_ok X G (x := "bool") (fa_at c 61 rfl), He.free_ok X G (x := "str") (fa_at c 62 rfl), He.free_ok X G (x := "tuple") (fa_at c 63 rfl), He.free_ok X G (x := "list") (fa_at c 64 rfl), He.free_ok X G (x := "dict") (fa_at c 65 rfl), He.free_ok X G (x := "abs") (fa_at c 66 rfl), He.free_ok X G (x := "len") (fa_at c 67 rfl), He.free_ok X G (x := "all") (fa_at c 68 rfl), He.free_ok X G (x := "any") (fa_at c 69 rfl), He.free_ok X G (x := "range") (fa_at c 70 rfl), He.free_ok X G (x := "zip") (fa_at c 71 rfl), He.free_ok X G (x := "min") (fa_at c 72 rfl), He.free_ok X G (x := "max") (fa_at c 73 rfl), He.free_ok X G (x := "sorted") (fa_at c 74 rfl), He.free_ok X G (x := "divmod") (fa_at c 75 rfl), He.free_ok X G (x := "repr") (fa_at c 76 rfl)⟩
  have hw := xb_at c 0 (f := webB) rfl
  unfold webB at hw
  obtain ⟨w1, hw⟩ := He.ba hw
  obtain ⟨w2, hw⟩ := He.ba hw
  obtain ⟨w3, hw⟩ := He.ba hw
  obtain ⟨w4, w5⟩ := He.ba hw
  have cl : Cls K (He.ga K "Web") := He.cls_ok (fa_at c 77 rfl)
  have wb : Wb K mg (He.ga K "Web") := ⟨cl, He.glo_ok X G (x := "Web") (fa_at c 58 rfl), He.noat_ok (fa_at c 78 rfl), He.noat_ok (fa_at c 79 rfl), He.noat_ok (fa_at c 80 rfl), He.eqO_ok w1, He.eqO_ok w2, of_decide_eq_true w3, of_decide_eq_true w4, of_decide_eq_true w5⟩
  have k_HALF : GlC K mg (He.ga K "Web") "HALF" d_HALF := glT X G (vs := [.int 1, .int 2]) (xb_at c 6 rfl) fun F => .cons (.int _) (.cons (.int _) .nil)
  have k_KINDS : GlC K mg (He.ga K "Web") "KINDS" d_KINDS := glT X G (vs := [.str "end", .str "chance", .str "ours", .str "theirs", .str "coin"]) (xb_at c 7 rfl) fun F => .cons (.str _) (.cons (.str _) (.cons (.str _) (.cons (.str _) (.cons (.str _) .nil))))
  have k_MOST_ARROWS : GlC K mg (He.ga K "Web") "MOST_ARROWS" d_MOST_ARROWS := glI X G (fa_at c 86 rfl)
  have k_MOST_BOTTOM : GlC K mg (He.ga K "Web") "MOST_BOTTOM" d_MOST_BOTTOM := glI X G (fa_at c 87 rfl)
  have k_MOST_PLACES : GlC K mg (He.ga K "Web") "MOST_PLACES" d_MOST_PLACES := glI X G (fa_at c 85 rfl)
  have k_ONE : GlC K mg (He.ga K "Web") "ONE" d_ONE := glT X G (vs := [.int 1, .int 1]) (xb_at c 5 rfl) fun F => .cons (.int _) (.cons (.int _) .nil)
  have k_SIDES : GlC K mg (He.ga K "Web") "SIDES" d_SIDES := glT X G (vs := [.str "first", .str "second"]) (xb_at c 8 rfl) fun F => .cons (.str _) (.cons (.str _) .nil)
  have k_SIGNS : GlC K mg (He.ga K "Web") "SIGNS" d_SIGNS := glS X G (fa_at c 89 rfl)
  have k_SMALL : GlC K mg (He.ga K "Web") "SMALL" d_SMALL := glS X G (fa_at c 88 rfl)
  have k_ZERO : GlC K mg (He.ga K "Web") "ZERO" d_ZERO := glT X G (vs := [.int 0, .int 1]) (xb_at c 4 rfl) fun F => .cons (.int _) (.cons (.int _) .nil)
  refine ⟨fd64, n_law, fun s v => FunD.bindsA (ps := ["_law_script"]) F64 (fun _ _ _ _ _ _ us hl => match us, hl with | [_], _ => rfl) s [v] rfl, fun base _ _ => ?_⟩
  have o_is_between := ok_is_between (P := P) (w := w) (base := base) (C := He.ga K "Web") bt wb F0
  have c_is_between : FnD P w K mg base "is_between" 1 (spP K (He.ga K "Web") F_is_between) := fnD F0 n_is_between o_is_between (fun _ _ _ _ _ _ us hl => match us, hl with | [_, _, _], _ => rfl)
  have o_is_one_of := ok_is_one_of (P := P) (w := w) (base := base) (C := He.ga K "Web") bt wb F1
  have c_is_one_of : FnD P w K mg base "is_one_of" 1 (spP K (He.ga K "Web") F_is_one_of) := fnD F1 n_is_one_of o_is_one_of (fun _ _ _ _ _ _ us hl => match us, hl with | [_, _], _ => rfl)
  have o_common := ok_common (P := P) (w := w) (base := base) (C := He.ga K "Web") bt wb F2
  have c_common : FnD P w K mg base "common" 1 (spP K (He.ga K "Web") F_common) := fnD F2 n_common o_common (fun _ _ _ _ _ _ us hl => match us, hl with | [_, _], _ => rfl)
  have o_lowest := ok_lowest (P := P) (w := w) (base := base) (C := He.ga K "Web") bt wb c_common F3
  have c_lowest : FnD P w K mg base "lowest" 2 (spP K (He.ga K "Web") F_lowest) := fnD F3 n_lowest o_lowest (fun _ _ _ _ _ _ us hl => match us, hl with | [_, _], _ => rfl)
  have o_is_fraction := ok_is_fraction (P := P) (w := w) (base := base) (C := He.ga K "Web") bt wb c_common c_is_between F4
  have c_is_fraction : FnD P w K mg base "is_fraction" 2 (spP K (He.ga K "Web") F_is_fraction) := fnD F4 n_is_fraction o_is_fraction (fun _ _ _ _ _ _ us hl => match us, hl with | [_], _ => rfl)
  have o_add := ok_add (P := P) (w := w) (base := base) (C := He.ga K "Web") bt wb c_lowest F5
  have c_add : FnD P w K mg base "add" 3 (spP K (He.ga K "Web") F_add) := fnD F5 n_add o_add (fun _ _ _ _ _ _ us hl => match us, hl with | [_, _], _ => rfl)
  have o_less := ok_less (P := P) (w := w) (base := base) (C := He.ga K "Web") bt wb c_lowest F6
  have c_less : FnD P w K mg base "less" 3 (spP K (He.ga K "Web") F_less) := fnD F6 n_less o_less (fun _ _ _ _ _ _ us hl => match us, hl with | [_, _], _ => rfl)
  have o_times := ok_times (P := P) (w := w) (base := base) (C := He.ga K "Web") bt wb c_lowest F7
  have c_times : FnD P w K mg base "times" 3 (spP K (He.ga K "Web") F_times) := fnD F7 n_times o_times (fun _ _ _ _ _ _ us hl => match us, hl with | [_, _], _ => rfl)
  have o_is_below := ok_is_below (P := P) (w := w) (base := base) (C := He.ga K "Web") bt wb F8
  have c_is_below : FnD P w K mg base "is_below" 1 (spP K (He.ga K "Web") F_is_below) := fnD F8 n_is_below o_is_below (fun _ _ _ _ _ _ us hl => match us, hl with | [_, _], _ => rfl)
  have o_lesser := ok_lesser (P := P) (w := w) (base := base) (C := He.ga K "Web") bt wb c_is_below F9
  have c_lesser : FnD P w K mg base "lesser" 2 (spP K (He.ga K "Web") F_lesser) := fnD F9 n_lesser o_lesser (fun _ _ _ _ _ _ us hl => match us, hl with | [_, _], _ => rfl)
  have o_greater := ok_greater (P := P) (w := w) (base := base) (C := He.ga K "Web") bt wb c_is_below F10
  have c_greater : FnD P w K mg base "greater" 2 (spP K (He.ga K "Web") F_greater) := fnD F10 n_greater o_greater (fun _ _ _ _ _ _ us hl => match us, hl with | [_, _], _ => rfl)
  have o_is_chance := ok_is_chance (P := P) (w := w) (base := base) (C := He.ga K "Web") bt wb c_is_fraction F11
  have c_is_chance : FnD P w K mg base "is_chance" 3 (spP K (He.ga K "Web") F_is_chance) := fnD F11 n_is_chance o_is_chance (fun _ _ _ _ _ _ us hl => match us, hl with | [_], _ => rfl)
  have o_least_of := ok_least_of (P := P) (w := w) (base := base) (C := He.ga K "Web") bt wb c_lesser F12
  have c_least_of : FnD P w K mg base "least_of" 3 (spP K (He.ga K "Web") F_least_of) := fnD F12 n_least_of o_least_of (fun _ _ _ _ _ _ us hl => match us, hl with | [_], _ => rfl)
  have o_greatest_of_numbers := ok_greatest_of_numbers (P := P) (w := w) (base := base) (C := He.ga K "Web") bt wb c_greater F13
  have c_greatest_of_numbers : FnD P w K mg base "greatest_of_numbers" 3 (spP K (He.ga K "Web") F_greatest_of_numbers) := fnD F13 n_greatest_of_numbers o_greatest_of_numbers (fun _ _ _ _ _ _ us hl => match us, hl with | [_], _ => rfl)
  have o_is_place := ok_is_place (P := P) (w := w) (base := base) (C := He.ga K "Web") bt wb k_SIGNS k_SMALL F14
  have c_is_place : FnD P w K mg base "is_place" 1 (spP K (He.ga K "Web") F_is_place) := fnD F14 n_is_place o_is_place (fun _ _ _ _ _ _ us hl => match us, hl with | [_], _ => rfl)
  have o_are_places_L := ok_are_places_L (P := P) (w := w) (base := base) (C := He.ga K "Web") bt wb c_is_place F15
  have c_are_places_L : FnD P w K mg base "are_places" 2 (spP K (He.ga K "Web") F_are_places_L) := fnD F15 n_are_places o_are_places_L (fun _ _ _ _ _ _ us hl => match us, hl with | [_], _ => rfl)
  have o_are_places_T := ok_are_places_T (P := P) (w := w) (base := base) (C := He.ga K "Web") bt wb c_is_place F15
  have c_are_places_T : FnD P w K mg base "are_places" 2 (spP K (He.ga K "Web") F_are_places_T) := fnD F15 n_are_places o_are_places_T (fun _ _ _ _ _ _ us hl => match us, hl with | [_], _ => rfl)
  have o_is_what := ok_is_what (P := P) (w := w) (base := base) (C := He.ga K "Web") bt wb c_are_places_T c_is_fraction k_MOST_ARROWS F16
  have c_is_what : FnD P w K mg base "is_what" 3 (spP K (He.ga K "Web") F_is_what) := fnD F16 n_is_what o_is_what (fun _ _ _ _ _ _ us hl => match us, hl with | [_, _], _ => rfl)
  have o_arrows_of := ok_arrows_of (P := P) (w := w) (base := base) (C := He.ga K "Web") bt wb F17
  have c_arrows_of : FnD P w K mg base "arrows_of" 1 (spP K (He.ga K "Web") F_arrows_of) := fnD F17 n_arrows_of o_arrows_of (fun _ _ _ _ _ _ us hl => match us, hl with | [_, _], _ => rfl)
  have o_are_triples := ok_are_triples (P := P) (w := w) (base := base) (C := He.ga K "Web") bt wb c_are_places_L k_MOST_PLACES F18
  have c_are_triples : FnD P w K mg base "are_triples" 3 (spP K (He.ga K "Web") F_are_triples) := fnD F18 n_are_triples o_are_triples (fun _ _ _ _ _ _ us hl => match us, hl with | [_], _ => rfl)
  have o_are_rows := ok_are_rows (P := P) (w := w) (base := base) (C := He.ga K "Web") bt wb c_are_triples c_arrows_of c_is_one_of c_is_what k_KINDS F19
  have c_are_rows : FnD P w K mg base "are_rows" 4 (spP K (He.ga K "Web") F_are_rows) := fnD F19 n_are_rows o_are_rows (fun _ _ _ _ _ _ us hl => match us, hl with | [_], _ => rfl)
  have o_trap_in := ok_trap_in (P := P) (w := w) (base := base) (C := He.ga K "Web") bt wb c_arrows_of F20
  have c_trap_in : FnD P w K mg base "trap_in" 2 (spP K (He.ga K "Web") F_trap_in) := fnD F20 n_trap_in o_trap_in (fun _ _ _ _ _ _ us hl => match us, hl with | [_], _ => rfl)
  have o_are_coin_rows := ok_are_coin_rows (P := P) (w := w) (base := base) (C := He.ga K "Web") bt wb c_arrows_of F21
  have c_are_coin_rows : FnD P w K mg base "are_coin_rows" 2 (spP K (He.ga K "Web") F_are_coin_rows) := fnD F21 n_are_coin_rows o_are_coin_rows (fun _ _ _ _ _ _ us hl => match us, hl with | [_], _ => rfl)
  have o_W_init := ok_W_init (P := P) (w := w) (base := base) (C := He.ga K "Web") bt wb c_are_coin_rows c_are_rows c_trap_in F22
  have w_init : MakD P w K mg base (He.ga K "Web") 5 (spG K (He.ga K "Web") F_W_init) := ⟨_, _, _, He.mkr_ok (fa_at c 84 rfl), o_W_init, F22.bindsN (fun _ _ _ _ _ _ us hl => match us, hl with | [_, _], _ => rfl)⟩
  have o_W_rows := ok_W_rows (P := P) (w := w) (base := base) (C := He.ga K "Web") bt wb F23
  have m_rows : PrpD P w K mg base (He.ga K "Web") "rows" 1 (spP K (He.ga K "Web") F_W_rows) := ⟨_, _, _, _, prpB_ok (xb_at c 1 (f := fun K => prpB K "rows") rfl), o_W_rows, F23.bindsN (fun _ _ _ _ _ _ us hl => match us, hl with | [_], _ => rfl)⟩
  have o_W_places := ok_W_places (P := P) (w := w) (base := base) (C := He.ga K "Web") bt wb F24
  have m_places : PrpD P w K mg base (He.ga K "Web") "places" 1 (spP K (He.ga K "Web") F_W_places) := ⟨_, _, _, _, prpB_ok (xb_at c 2 (f := fun K => prpB K "places") rfl), o_W_places, F24.bindsN (fun _ _ _ _ _ _ us hl => match us, hl with | [_], _ => rfl)⟩
  have o_W_ends := ok_W_ends (P := P) (w := w) (base := base) (C := He.ga K "Web") bt wb F25
  have m_ends : PrpD P w K mg base (He.ga K "Web") "ends" 1 (spP K (He.ga K "Web") F_W_ends) := ⟨_, _, _, _, prpB_ok (xb_at c 3 (f := fun K => prpB K "ends") rfl), o_W_ends, F25.bindsN (fun _ _ _ _ _ _ us hl => match us, hl with | [_], _ => rfl)⟩
  have o_W_check_place := ok_W_check_place (P := P) (w := w) (base := base) (C := He.ga K "Web") bt wb F26
  have m_check_place : MetD P w K mg base (He.ga K "Web") "check_place" 1 (spP K (He.ga K "Web") F_W_check_place) := ⟨_, _, _, He.meth_ok (fa_at c 81 rfl), o_W_check_place, F26.bindsN (fun _ _ _ _ _ _ us hl => match us, hl with | [_, _], _ => rfl)⟩
  have o_W_arrows := ok_W_arrows (P := P) (w := w) (base := base) (C := He.ga K "Web") bt wb c_arrows_of m_check_place F27
  have m_arrows : MetD P w K mg base (He.ga K "Web") "arrows" 2 (spP K (He.ga K "Web") F_W_arrows) := ⟨_, _, _, He.meth_ok (fa_at c 82 rfl), o_W_arrows, F27.bindsN (fun _ _ _ _ _ _ us hl => match us, hl with | [_, _], _ => rfl)⟩
  have o_W_number := ok_W_number (P := P) (w := w) (base := base) (C := He.ga K "Web") bt wb m_check_place F28
  have m_number : MetD P w K mg base (He.ga K "Web") "number" 2 (spP K (He.ga K "Web") F_W_number) := ⟨_, _, _, He.meth_ok (fa_at c 83 rfl), o_W_number, F28.bindsN (fun _ _ _ _ _ _ us hl => match us, hl with | [_, _], _ => rfl)⟩
  have o_check_web := ok_check_web (P := P) (w := w) (base := base) (C := He.ga K "Web") bt wb F29
  have c_check_web : FnD P w K mg base "check_web" 1 (spP K (He.ga K "Web") F_check_web) := fnD F29 n_check_web o_check_web (fun _ _ _ _ _ _ us hl => match us, hl with | [_], _ => rfl)
  have o_solved := ok_solved (P := P) (w := w) (base := base) (C := He.ga K "Web") bt wb c_less c_times k_ZERO F30
  have c_solved : FnD P w K mg base "solved" 4 (spP K (He.ga K "Web") F_solved) := fnD F30 n_solved o_solved (fun _ _ _ _ _ _ us hl => match us, hl with | [_], _ => rfl)
  have o_chain_numbers := ok_chain_numbers (P := P) (w := w) (base := base) (C := He.ga K "Web") bt wb c_add c_less c_solved c_times k_ONE k_ZERO F31
  have c_chain_numbers : FnD P w K mg base "chain_numbers" 5 (spP K (He.ga K "Web") F_chain_numbers) := fnD F31 n_chain_numbers o_chain_numbers (fun _ _ _ _ _ _ us hl => match us, hl with | [_, _], _ => rfl)
  have o_options_of := ok_options_of (P := P) (w := w) (base := base) (C := He.ga K "Web") bt wb k_ZERO F32
  have c_options_of : FnD P w K mg base "options_of" 1 (spP K (He.ga K "Web") F_options_of) := fnD F32 n_options_of o_options_of (fun _ _ _ _ _ _ us hl => match us, hl with | [_, _], _ => rfl)
  have o_moves_by := ok_moves_by (P := P) (w := w) (base := base) (C := He.ga K "Web") bt wb k_HALF k_ZERO F33
  have c_moves_by : FnD P w K mg base "moves_by" 1 (spP K (He.ga K "Web") F_moves_by) := fnD F33 n_moves_by o_moves_by (fun _ _ _ _ _ _ us hl => match us, hl with | [_, _, _], _ => rfl)
  have o_numbers_by := ok_numbers_by (P := P) (w := w) (base := base) (C := He.ga K "Web") bt wb c_chain_numbers F34
  have c_numbers_by : FnD P w K mg base "numbers_by" 6 (spP K (He.ga K "Web") F_numbers_by) := fnD F34 n_numbers_by o_numbers_by (fun _ _ _ _ _ _ us hl => match us, hl with | [_, _], _ => rfl)
  have o_gains_of := ok_gains_of (P := P) (w := w) (base := base) (C := He.ga K "Web") bt wb c_less c_options_of F35
  have c_gains_of : FnD P w K mg base "gains_of" 4 (spP K (He.ga K "Web") F_gains_of) := fnD F35 n_gains_of o_gains_of (fun _ _ _ _ _ _ us hl => match us, hl with | [_, _, _], _ => rfl)
  have o_better_plan := ok_better_plan (P := P) (w := w) (base := base) (C := He.ga K "Web") bt wb c_gains_of c_is_below F36
  have c_better_plan : FnD P w K mg base "better_plan" 5 (spP K (He.ga K "Web") F_better_plan) := fnD F36 n_better_plan o_better_plan (fun _ _ _ _ _ _ us hl => match us, hl with | [_, _, _, _], _ => rfl)
  have o_nearest_plan := ok_nearest_plan (P := P) (w := w) (base := base) (C := He.ga K "Web") bt wb c_arrows_of F37
  have c_nearest_plan : FnD P w K mg base "nearest_plan" 2 (spP K (He.ga K "Web") F_nearest_plan) := fnD F37 n_nearest_plan o_nearest_plan (fun _ _ _ _ _ _ us hl => match us, hl with | [_], _ => rfl)
  have o_low_answer := ok_low_answer (P := P) (w := w) (base := base) (C := He.ga K "Web") bt wb c_arrows_of c_better_plan c_moves_by c_numbers_by F38
  have c_low_answer : FnD P w K mg base "low_answer" 7 (spP K (He.ga K "Web") F_low_answer) := fnD F38 n_low_answer o_low_answer (fun _ _ _ _ _ _ us hl => match us, hl with | [_, _], _ => rfl)
  have o_worths_of := ok_worths_of (P := P) (w := w) (base := base) (C := He.ga K "Web") bt wb c_better_plan c_low_answer c_nearest_plan F39
  have c_worths_of : FnD P w K mg base "worths_of" 8 (spP K (He.ga K "Web") F_worths_of) := fnD F39 n_worths_of o_worths_of (fun _ _ _ _ _ _ us hl => match us, hl with | [_], _ => rfl)
  have o_is_share := ok_is_share (P := P) (w := w) (base := base) (C := He.ga K "Web") bt wb c_is_chance k_MOST_BOTTOM F40
  have c_is_share : FnD P w K mg base "is_share" 4 (spP K (He.ga K "Web") F_is_share) := fnD F40 n_is_share o_is_share (fun _ _ _ _ _ _ us hl => match us, hl with | [_], _ => rfl)
  have o_are_parts := ok_are_parts (P := P) (w := w) (base := base) (C := He.ga K "Web") bt wb c_is_chance m_ends m_number F41
  have c_are_parts : FnD P w K mg base "are_parts" 4 (spP K (He.ga K "Web") F_are_parts) := fnD F41 n_are_parts o_are_parts (fun _ _ _ _ _ _ us hl => match us, hl with | [_], _ => rfl)
  have o_are_coins := ok_are_coins (P := P) (w := w) (base := base) (C := He.ga K "Web") bt wb m_rows F42
  have c_are_coins : FnD P w K mg base "are_coins" 3 (spP K (He.ga K "Web") F_are_coins) := fnD F42 n_are_coins o_are_coins (fun _ _ _ _ _ _ us hl => match us, hl with | [_], _ => rfl)
  have o_needs_of := ok_needs_of (P := P) (w := w) (base := base) (C := He.ga K "Web") bt wb c_less c_worths_of k_ONE m_rows F43
  have c_needs_of : FnD P w K mg base "needs_of" 9 (spP K (He.ga K "Web") F_needs_of) := fnD F43 n_needs_of o_needs_of (fun _ _ _ _ _ _ us hl => match us, hl with | [_], _ => rfl)
  have o_winner_of := ok_winner_of (P := P) (w := w) (base := base) (C := He.ga K "Web") bt wb c_is_below F44
  have c_winner_of : FnD P w K mg base "winner_of" 2 (spP K (He.ga K "Web") F_winner_of) := fnD F44 n_winner_of o_winner_of (fun _ _ _ _ _ _ us hl => match us, hl with | [_, _], _ => rfl)
  have o_range_of := ok_range_of (P := P) (w := w) (base := base) (C := He.ga K "Web") bt wb c_greatest_of_numbers c_is_below c_least_of c_less c_winner_of m_arrows F45
  have c_range_of : FnD P w K mg base "range_of" 4 (spP K (He.ga K "Web") F_range_of) := fnD F45 n_range_of o_range_of (fun _ _ _ _ _ _ us hl => match us, hl with | [_, _, _, _, _, _], _ => rfl)
  have o_check_coins := ok_check_coins (P := P) (w := w) (base := base) (C := He.ga K "Web") bt wb c_are_coins c_are_parts F46
  have c_check_coins : FnD P w K mg base "check_coins" 5 (spP K (He.ga K "Web") F_check_coins) := fnD F46 n_check_coins o_check_coins (fun _ _ _ _ _ _ us hl => match us, hl with | [_], _ => rfl)
  have o_check_share := ok_check_share (P := P) (w := w) (base := base) (C := He.ga K "Web") bt wb c_is_share F47
  have c_check_share : FnD P w K mg base "check_share" 5 (spP K (He.ga K "Web") F_check_share) := fnD F47 n_check_share o_check_share (fun _ _ _ _ _ _ us hl => match us, hl with | [_], _ => rfl)
  have o_check_asked := ok_check_asked (P := P) (w := w) (base := base) (C := He.ga K "Web") bt wb c_check_share c_check_web c_is_one_of k_SIDES m_arrows m_check_place F48
  have c_check_asked : FnD P w K mg base "check_asked" 6 (spP K (He.ga K "Web") F_check_asked) := fnD F48 n_check_asked o_check_asked (fun _ _ _ _ _ _ us hl => match us, hl with | [_, _, _, _, _], _ => rfl)
  have o_needs := ok_needs (P := P) (w := w) (base := base) (C := He.ga K "Web") bt wb c_check_coins c_check_web c_needs_of m_places F49
  have c_needs : FnD P w K mg base "needs" 10 (spP K (He.ga K "Web") F_needs) := fnD F49 n_needs o_needs (fun _ _ _ _ _ _ us hl => match us, hl with | [_], _ => rfl)
  have o_safe_range := ok_safe_range (P := P) (w := w) (base := base) (C := He.ga K "Web") bt wb c_check_asked c_check_coins c_needs_of c_range_of F50
  have c_safe_range : FnD P w K mg base "safe_range" 10 (spP K (He.ga K "Web") F_safe_range) := fnD F50 n_safe_range o_safe_range (fun _ _ _ _ _ _ us hl => match us, hl with | [_, _, _, _, _], _ => rfl)
  have o__law_keg := ok__law_keg (P := P) (w := w) (base := base) (C := He.ga K "Web") bt wb F51
  have c__law_keg : FnD P w K mg base "_law_keg" 1 (spF K (He.ga K "Web") F__law_keg) := fnD F51 n__law_keg o__law_keg (fun _ _ _ _ _ _ us hl => match us, hl with | [_, _], _ => rfl)
  have o__law_ladle := ok__law_ladle (P := P) (w := w) (base := base) (C := He.ga K "Web") bt wb F52
  have c__law_ladle : FnD P w K mg base "_law_ladle" 1 (spG K (He.ga K "Web") F__law_ladle) := fnD F52 n__law_ladle o__law_ladle (fun _ _ _ _ _ _ us hl => match us, hl with | [_, _], _ => rfl)
  have o__law_one := ok__law_one (P := P) (w := w) (base := base) (C := He.ga K "Web") bt wb c__law_ladle F53
  have c__law_one : FnD P w K mg base "_law_one" 2 (spG K (He.ga K "Web") F__law_one) := fnD F53 n__law_one o__law_one (fun _ _ _ _ _ _ us hl => match us, hl with | [_, _], _ => rfl)
  have o__law_low := ok__law_low (P := P) (w := w) (base := base) (C := He.ga K "Web") bt wb F54
  have c__law_low : FnD P w K mg base "_law_low" 1 (spP K (He.ga K "Web") F__law_low) := fnD F54 n__law_low o__law_low (fun _ _ _ _ _ _ us hl => match us, hl with | [_, _], _ => rfl)
  have o__law_gap := ok__law_gap (P := P) (w := w) (base := base) (C := He.ga K "Web") bt wb c__law_low F55
  have c__law_gap : FnD P w K mg base "_law_gap" 2 (spP K (He.ga K "Web") F__law_gap) := fnD F55 n__law_gap o__law_gap (fun _ _ _ _ _ _ us hl => match us, hl with | [_, _], _ => rfl)
  have o__law_under := ok__law_under (P := P) (w := w) (base := base) (C := He.ga K "Web") bt wb F56
  have c__law_under : FnD P w K mg base "_law_under" 1 (spP K (He.ga K "Web") F__law_under) := fnD F56 n__law_under o__law_under (fun _ _ _ _ _ _ us hl => match us, hl with | [_, _], _ => rfl)
  have o__law_ends_of := ok__law_ends_of (P := P) (w := w) (base := base) (C := He.ga K "Web") bt wb c__law_under F57
  have c__law_ends_of : FnD P w K mg base "_law_ends_of" 2 (spP K (He.ga K "Web") F__law_ends_of) := fnD F57 n__law_ends_of o__law_ends_of (fun _ _ _ _ _ _ us hl => match us, hl with | [_], _ => rfl)
  have o__law_names := ok__law_names (P := P) (w := w) (base := base) (C := He.ga K "Web") bt wb c__law_ladle F58
  have c__law_names : FnD P w K mg base "_law_names" 2 (spG K (He.ga K "Web") F__law_names) := fnD F58 n__law_names o__law_names (fun _ _ _ _ _ _ us hl => match us, hl with | [_, _], _ => rfl)
  have o__law_some := ok__law_some (P := P) (w := w) (base := base) (C := He.ga K "Web") bt wb c__law_ladle F59
  have c__law_some : FnD P w K mg base "_law_some" 2 (spG K (He.ga K "Web") F__law_some) := fnD F59 n__law_some o__law_some (fun _ _ _ _ _ _ us hl => match us, hl with | [_, _, _], _ => rfl)
  have o__law_coins := ok__law_coins (P := P) (w := w) (base := base) (C := He.ga K "Web") bt wb c__law_ladle c__law_low c__law_names c__law_one c__law_some F60
  have c__law_coins : FnD P w K mg base "_law_coins" 3 (spG K (He.ga K "Web") F__law_coins) := fnD F60 n__law_coins o__law_coins (fun _ _ _ _ _ _ us hl => match us, hl with | [_, _, _], _ => rfl)
  have o__law_shares := ok__law_shares (P := P) (w := w) (base := base) (C := He.ga K "Web") bt wb c__law_ladle c__law_low F61
  have c__law_shares : FnD P w K mg base "_law_shares" 2 (spG K (He.ga K "Web") F__law_shares) := fnD F61 n__law_shares o__law_shares (fun _ _ _ _ _ _ us hl => match us, hl with | [_, _], _ => rfl)
  have o__law_due := ok__law_due (P := P) (w := w) (base := base) (C := He.ga K "Web") bt wb c__law_ends_of c__law_gap c__law_under F62
  have c__law_due : FnD P w K mg base "_law_due" 3 (spP K (He.ga K "Web") F__law_due) := fnD F62 n__law_due o__law_due (fun _ _ _ _ _ _ us hl => match us, hl with | [_, _, _, _, _, _], _ => rfl)
  have kw : KwR K fd50 ["web", "place", "share", "side", "to"] ["to", "side", "share", "place", "web"] := kwOf F50 fun _ _ _ _ _ _ us hl => match us, hl with | [_, _, _, _, _], _ => rfl
  have o__law_right := fun (A : Around) (gd : A.guards = some []) (room : Room 11 A) => ok__law_right (P := P) (w := w) (base := base) (C := He.ga K "Web") bt wb gd room c__law_coins c__law_due c__law_ends_of c__law_one c__law_shares c__law_under c_needs c_safe_range o_safe_range n_safe_range F50.kp kw w_init F63
  exact ok_law (P := P) (w := w) (base := base) (C := He.ga K "Web") bt wb (A := callerA) rfl ⟨rfl, by decide, by decide⟩ o__law_right n__law_right F63.kp (F63.bindsN (fun _ _ _ _ _ _ us hl => match us, hl with | [_], _ => rfl)) c__law_keg F64
end Dl
end
end

/-! ## Run -/
section
set_option Elab.async false
set_option linter.all false
set_option maxRecDepth 100000
set_option maxHeartbeats 0
namespace Dl
open PySem PySem.Spec PyProof.Rows L2
abbrev Rw : PySem.W.OpenRow := PySem.W.OpenLaw.row PySem.Challenge.rw_placeworths_k50_whole_ranges_of_safe_bid
def ls1 : List Str := ["_wall", "WrongValue", "WrongName", "NoAnswer", "InvalidWeb", "InvalidText", "InvalidPlace", "InvalidSide", "InvalidShare", "NotAWeb", "UnknownPlace", "Trapped", "NotCoins", "NotParts", "ZERO", "ONE", "is_between", "is_one_of", "common", "lowest"]
def ls2 : List Str := ["is_fraction", "add", "less", "times", "is_below", "lesser", "greater", "total", "opposite", "is_chance", "least_of", "greatest_of_numbers", "written", "number_in", "is_digits", "MOST_PLACES", "MOST_ARROWS", "SMALL", "SIGNS", "KINDS"]
def ls3 : List Str := ["is_place", "are_places", "are_pairs", "is_what", "arrows_of", "are_triples", "are_rows", "trap_in", "are_coin_rows", "text_of", "pair_in", "row_in", "Web", "check_web", "HALF", "solved", "chain_numbers", "options_of", "moves_by", "price_of"]
def ls4 : List Str := ["numbers_by", "gains_of", "better_plan", "nearest_plan", "low_answer", "worths_of", "MOST_BOTTOM", "SIDES", "is_share", "are_parts", "are_coins", "needs_of", "winner_of", "range_of", "check_coins", "check_share", "check_asked", "needs", "safe_range", "_law_keg"]
def ls5 : List Str := ["_law_ladle", "_law_one", "_law_low", "_law_gap", "_law_under", "_law_ends_of", "_law_names", "_law_some", "_law_coins", "_law_shares", "_law_due", "_law_right"]
def loose : List Str := ls1 ++ (ls2 ++ (ls3 ++ (ls4 ++ ls5)))
theorem run (w : World) : HandSHeadRun.RunEq Rw (PySem.W.view Rw.prog [98]) hkD obT 8000 loose w := by
  intro os
  kernel_rfl
end Dl
end

/-! ## End -/
section
set_option Elab.async false
set_option linter.all false
set_option maxRecDepth 100000
set_option maxHeartbeats 2000000
/-! The law's call at the outermost caller. -/
namespace Dl
open PySem PySem.Spec PyProof.Rows L2
section
variable {P : Program} {w : World} {K : PySem.W.Frag} {mg mb : Str → Option Value} {C ff q : Addr} {fd : FuncData} {y : Str} {G1 : List D → Option D} {t : Shared} {us : List Value} {ns : List Int}
/-- what the heap looks like when the law is called: nothing but the script is tracked -/
def scrH (K : PySem.W.Frag) (q : Addr) (us : List Value) (ns : List Int) : Hp := fun b => match K.lookup q with
  | some _ => none
  | none => if b = q then some (.frz { cls := .type "list", data := .seq us.toArray } (.lst (ns.map V.int))) else none
theorem scrH_in {b : Addr} (h : scrH K q us ns b ≠ none) : b = q ∧ K.lookup q = none := by
  unfold scrH at h
  cases e : K.lookup q with
  | some o => rw [e] at h; exact absurd rfl h
  | none =>
    rw [e] at h
    by_cases z : b = q
    · exact ⟨z, rfl⟩
    · exact absurd (if_neg z) h
theorem scrH_eq {b : Addr} {u : HO} (h : scrH K q us ns b = some u) : b = q ∧ K.lookup q = none ∧ u = .frz { cls := .type "list", data := .seq us.toArray } (.lst (ns.map V.int)) := by
  obtain ⟨e1, e2⟩ := scrH_in (b := b) (K := K) (q := q) (us := us) (ns := ns) (by rw [h]; simp)
  refine ⟨e1, e2, ?_⟩
  unfold scrH at h
  rw [e2] at h
  have z : (if b = q then some (HO.frz { cls := .type "list", data := .seq us.toArray } (.lst (ns.map V.int))) else none) = some u := h
  rw [if_pos e1] at z
  exact (Option.some.inj z).symm
theorem end_call (X : K.In t.heap) (hm : t.heap.Ns mainGlobals mg) (hbi : t.heap.Ns builtinsNs mb) (hbb : ∀ z : Str, z ≠ "__name__" → mb z = bootBuiltins z) (hnl : t.heap.NoLimit) (hge : t.gens = #[])
    (hq : t.heap.get? q = some { cls := .type "list", data := .seq us.toArray }) (hi : IntsAre us ns) (hz : ns.length ≤ sizeLine)
    (F : ∀ base : Heap, K.In base → base.Ns mainGlobals mg → FnA P w K mg base callerA ff fd [y] (spP K C G1)) (hbind : ∀ (s : Shared) (u : Value), BindsTo s fd ⟨[u], []⟩ [(y, u)]) (hv : G1 [.scr ns] = some (.bl true)) :
    codeAny (model P w) callerA (.call (.ref ff) ⟨[.ref q], []⟩) (fun r s' => r = .ok (.ret (.bool true)) ∧ OldK t.heap s'.heap ∧ s'.os = t.os ∧ AllBare s'.gens) t := by
  have vals : Vals (ns.map V.int) us := vals_ints hi
  have ulen := hi.length
  let H : Hp := scrH K q us ns
  have hok : HOk P w H t.heap := fun b u e => by
    obtain ⟨rfl, e2, rfl⟩ := scrH_eq e
    exact ⟨hq, by rw [List.length_map]; exact hz, us, _, vals, hq⟩
  have away : ∀ {b : Addr} {o : Obj}, t.heap.get? b = some o → H b = none → (hidT t.heap H).get? b = some o := fun e1 e2 => hidT_get e1 e2
  have dictH : ∀ {b : Addr} {o : Obj} {es : Array DictEntry} {ep : Nat}, t.heap.get? b = some o → o.data = .dict es ep → H b = none := by
    intro b o es ep e1 e2
    by_cases z : H b = none
    · exact z
    · obtain ⟨rfl, _⟩ := scrH_in z
      rw [hq] at e1
      cases e1
      exact nomatch (show Data.seq us.toArray _ = Data.dict es ep from e2)
  have nsH : ∀ {b : Addr} {m : Str → Option Value}, t.heap.Ns b m → (hidT t.heap H).Ns b m := by
    rintro b m ⟨o, es, ep, e1, e2, e3⟩
    exact ⟨o, es, ep, away e1 (dictH e1 e2), e2, e3⟩
  have KH : K.In (hidT t.heap H) := fun b o e => away (X b o e) (by
    by_cases z : H b = none
    · exact z
    · obtain ⟨rfl, e2⟩ := scrH_in z
      rw [e2] at e
      cases e)
  obtain ⟨mc, l1, l2⟩ := hnl
  have md : Mod K mg (hidT t.heap H) := ⟨KH, nsH hm, ⟨mb, nsH hbi, hbb⟩, mc, nsH l1, l2⟩
  have ev : Env0 P w K mg (hidT t.heap H) callerA [] t H := ⟨rfl, md, fun b o e => of_hidT e, Nat.le_of_eq (hidT_size _ _), trivial, (fun b hb => absurd (show b ∈ ([] : List Addr) from hb) (by simp)), hok, .of_eq hge⟩
  have dp : DPs K C H [.ref q] [.scr ns] := by
    refine .cons ?_ .nil
    cases e : K.lookup q with
    | some o =>
      have z := X q o e
      rw [hq] at z
      cases z
      exact .scrK ⟨_, us.toArray, _, e, rfl, rfl, rfl, by rw [List.size_toArray, ulen]; exact hz, by simpa using vals⟩
    | none =>
      refine .scr (o := { cls := .type "list", data := .seq us.toArray }) ?_
      show scrH K q us ns q = _
      unfold scrH
      rw [e]
      exact if_pos rfl
  have want : spP K C G1 [.ref q] H (fun v _ => v = .bl true) (fun _ _ _ => False) := ⟨H, [.scr ns], .bl true, fun a o e => .inl e, dp, hv, fun v H' F' _ d => by cases d; rfl⟩
  have go := (F _ KH (nsH hm)).go [] t H ⟨[.ref q], []⟩ [.ref q] [.ref q] _ _ ev (hbind t (.ref q)) (.cons rfl .nil) want
  refine codeAny_mono go fun r s' out => ?_
  cases r with
  | error e => exact (show False from out).elim
  | ok fl =>
    cases fl with
    | ret u =>
      obtain ⟨v, H', os, bare, un, hok', rv, rfl⟩ := out
      obtain rfl : u = Value.bool true := rv
      refine ⟨rfl, OldK.of_keep fun b o e => ?_, os, bare⟩
      by_cases z : H b = none
      · exact un.keep b o e z (fun hh => nomatch hh) (by simp)
      · cases z2 : H b with
        | none => exact absurd z2 z
        | some u =>
          obtain ⟨rfl, _, rfl⟩ := scrH_eq z2
          obtain ⟨e1, _⟩ := hok' b _ (un.frzs b _ _ z2)
          rw [hq] at e
          cases e
          exact e1
    | _ => exact (show False from out).elim
end
end Dl
end

/-! ## Fin -/
section
set_option Elab.async false
set_option linter.all false
set_option maxRecDepth 100000
set_option maxHeartbeats 0
open PySem PySem.W PySem.Calls PyProof.Rows
theorem PySem.Challenge.cw_placeworths_k50_whole_ranges_of_safe_bid_holds : PySem.Challenge.rw_placeworths_k50_whole_ranges_of_safe_bid.Holds := by
  w_on; o_law
  refine HandSHeadRun.head_any (r := OpenLaw.row PySem.Challenge.rw_placeworths_k50_whole_ranges_of_safe_bid) (q := view (OpenLaw.row PySem.Challenge.rw_placeworths_k50_whole_ranges_of_safe_bid).prog [98]) (H := Dl.hkD) (ob := Dl.obT) (M := 8000) (loose := Dl.loose)
    (d := HandSHeadRun.topDef (OpenLaw.row PySem.Challenge.rw_placeworths_k50_whole_ranges_of_safe_bid).prog 98) (kwd := []) Dl.obT_eq
    (by kernel_rfl) (fun s => by kernel_rfl) Dl.run (by kernel_rfl) (by kernel_rfl) (by kernel_rfl) (by rfl) (by first | assumption | decide +kernel) (by decide +kernel) ⟨rfl, rfl, rfl, rfl, rfl, by decide +kernel⟩ ?hw ?hc
  case hw => w_witness2
  case hc =>
    refine Att.attach_call (l := PySem.Challenge.rw_placeworths_k50_whole_ranges_of_safe_bid) (n := 63) rfl (by kernel_rfl) ?_
    intro w s0 t mg mb ff o pm cd doc q us ns Gr Y ho hd hcd hmg hobj hints hlen hge
    obtain ⟨K, KX, c⟩ := Y
    obtain ⟨fd, n1, hb, hF⟩ := Dl.facts (P := PySem.Challenge.rw_placeworths_k50_whole_ranges_of_safe_bid.prog) (w := w) KX Gr.T.g c
    have e : (HandSHeadRun.topDef (OpenLaw.row PySem.Challenge.rw_placeworths_k50_whole_ranges_of_safe_bid).prog 98).name = ("law" : PySem.Str) := by kernel_rfl
    rw [e] at hmg
    have e2 := hmg.symm.trans n1
    cases e2
    exact Dl.end_call KX Gr.T.g Gr.T.b Gr.T.builtins Gr.T.nolimit hge hobj hints (Nat.le_trans hlen (by decide)) hF hb (Dl.law_ok ns)
end
