import PyProof.Rows.All
import Wide.All
import OpenK.AllK
import Wide.FinOn
import HandS.ForMost
import HandS.ForExc
import HandS.Wide
import HandS.WideBits
import HandS.IsInst
import HandS.Walk
import HandS.Flow
import HandS.TupAny
import HandS.Conv
import HandS.Style
import HandS.More
import HandS.Zip
import KE.GoesEnum
import HandS.TupMul
import PyProof.ReprRoads
import PyProof.NeKinds
import PyProof.ReprLen
import HandS.Ends
import PySem.Challenge.RW_everyexact_k35_programs_and_inputs_of_al
set_option Elab.async false
set_option linter.all false
set_option autoImplicit false
set_option maxRecDepth 100000
set_option maxHeartbeats 4000000
set_option exponentiation.threshold 500000
namespace DL
open PySem

abbrev D := PyData

/-- what is known of a slot: nothing, a datum, a list that nobody else has, the deck, the script -/
inductive En where
  | un | va (d : D) | ow (ds : List D) | dk | sc (ns : List Int)
/-- what an expression gives: a datum, or a list that nobody has yet -/
inductive Rt where
  | va (d : D) | ow (ds : List D)
/-- what is handed to a def -/
inductive Ar where
  | va (d : D) | dk
@[reducible] def Rt.d : Rt → D
  | .va d => d
  | .ow ds => .list ds
@[reducible] def Rt.en : Rt → En
  | .va d => .va d
  | .ow ds => .ow ds

abbrev Ev := List En
/-- expressions, tests, rows of values, arguments -/
abbrev XT := Ev → (Rt → Ev → Prop) → Prop
abbrev BT := Ev → (Bool → Ev → Prop) → Prop
abbrev AT := Ev → (List D → Ev → Prop) → Prop
abbrev CT := Ev → (List Ar → Ev → Prop) → Prop
/-- what is wanted behind a statement -/
structure Wd where
  nx : Ev → Prop
  rt : Rt → Prop
  bk : Ev → Prop := fun _ => False
  ct : Ev → Prop := fun _ => False
abbrev SS := Wd → Ev → Prop
/-- what a def does: arguments, what is wanted of the answer -/
abbrev Con := List Ar → (Rt → Prop) → Prop

def MonoX (w : XT) : Prop := ∀ ρ (k k' : Rt → Ev → Prop), (∀ r ρ', k r ρ' → k' r ρ') → w ρ k → w ρ k'
def MonoB (w : BT) : Prop := ∀ ρ (k k' : Bool → Ev → Prop), (∀ r ρ', k r ρ' → k' r ρ') → w ρ k → w ρ k'
def MonoA (w : AT) : Prop := ∀ ρ (k k' : List D → Ev → Prop), (∀ r ρ', k r ρ' → k' r ρ') → w ρ k → w ρ k'
def MonoC (w : CT) : Prop := ∀ ρ (k k' : List Ar → Ev → Prop), (∀ r ρ', k r ρ' → k' r ρ') → w ρ k → w ρ k'
structure Wd.le (E E' : Wd) : Prop where
  nx : ∀ ρ, E.nx ρ → E'.nx ρ
  rt : ∀ r, E.rt r → E'.rt r
  bk : ∀ ρ, E.bk ρ → E'.bk ρ
  ct : ∀ ρ, E.ct ρ → E'.ct ρ
theorem Wd.le.refl (E : Wd) : E.le E := ⟨fun _ h => h, fun _ h => h, fun _ h => h, fun _ h => h⟩
def MonoS (w : SS) : Prop := ∀ ρ (E E' : Wd), E.le E' → w E ρ → w E' ρ
def MonoK (c : Con) : Prop := ∀ as (k k' : Rt → Prop), (∀ r, k r → k' r) → c as k → c as k'

def brb (c : Bool) (A B : Prop) : Prop := if c = true then A else B
def isB (d : D) (P : Bool → Prop) : Prop := ∃ c, d = .bool c ∧ P c
def isN (d : D) (P : Int → Prop) : Prop := ∃ i, d = .int i ∧ P i
def asT (d : D) (P : List D → Prop) : Prop := ∃ ds, d = .tuple ds ∧ P ds
def asL (d : D) (P : List D → Prop) : Prop := ∃ ds, d = .list ds ∧ P ds
def atO (ρ : Ev) (i : Nat) (P : List D → Prop) : Prop := ∃ ds, ρ[i]? = some (.ow ds) ∧ P ds
def hasO (ρ : Ev) (i : Nat) : Prop := ∃ ds, ρ[i]? = some (.ow ds)

def xVar (i : Nat) : XT := fun ρ k => match ρ[i]? with
  | some (.va d) => k (.va d) ρ
  | some (.ow ds) => k (.va (.list ds)) (ρ.set i (.va (.list ds)))
  | _ => False
/-- the own list itself goes (a return's) -/
def xOwn (i : Nat) : XT := fun ρ k => match ρ[i]? with
  | some (.va d) => k (.va d) ρ
  | some (.ow ds) => k (.ow ds) (ρ.set i .un)
  | _ => False
def xC (d : D) : XT := fun ρ k => k (.va d) ρ
def xBin (f : D → D → (Rt → Prop) → Prop) (a b : XT) : XT := fun ρ k => a ρ fun x ρ1 => b ρ1 fun y ρ2 => f x.d y.d fun z => k z ρ2
def xUn (f : D → (Rt → Prop) → Prop) (a : XT) : XT := fun ρ k => a ρ fun x ρ1 => f x.d fun z => k z ρ1
def xTup (a : AT) : XT := fun ρ k => a ρ fun ds ρ1 => ds.length ≤ 1000000 ∧ k (.va (.tuple ds)) ρ1
def xLst (a : AT) : XT := fun ρ k => a ρ fun ds ρ1 => ds.length ≤ 1000000 ∧ k (.ow ds) ρ1
def aNil : AT := fun ρ k => k [] ρ
def aCons (x : XT) (a : AT) : AT := fun ρ k => x ρ fun r ρ1 => a ρ1 fun ds ρ2 => k (r.d :: ds) ρ2
/-- a built-in's call -/
def xCall (f : List D → (Rt → Prop) → Prop) (a : AT) : XT := fun ρ k => a ρ fun ds ρ1 => f ds fun z => k z ρ1
/-- a def's call -/
def cNil : CT := fun ρ k => k [] ρ
def cVa (x : XT) (a : CT) : CT := fun ρ k => x ρ fun r ρ1 => a ρ1 fun ds ρ2 => k (.va r.d :: ds) ρ2
def cDk (i : Nat) (a : CT) : CT := fun ρ k => ρ[i]? = some .dk ∧ a ρ fun ds ρ2 => k (.dk :: ds) ρ2
def xDef (c : Con) (a : CT) : XT := fun ρ k => a ρ fun as ρ1 => c as fun r => k r ρ1
/-- .. by keywords alone: which keyword's value stands where -/
def xDefK (c : Con) (π : List Nat) (b : CT) : XT := fun ρ k => b ρ fun bs ρ1 => c (π.map fun i => bs.getD i (.va .none)) fun r => k r ρ1
/-- a and b, a or b, not a: as values -/
def xAnd (a b : XT) : XT := fun ρ k => a ρ fun x ρ1 => isB x.d fun c => brb c (b ρ1 k) (k (.va (.bool false)) ρ1)
def xOr (a b : XT) : XT := fun ρ k => a ρ fun x ρ1 => isB x.d fun c => brb c (k (.va (.bool true)) ρ1) (b ρ1 k)
def xNot (a : XT) : XT := fun ρ k => a ρ fun x ρ1 => isB x.d fun c => k (.va (.bool !c)) ρ1
def xIf (t : BT) (a b : XT) : XT := fun ρ k => t ρ fun c ρ1 => brb c (a ρ1 k) (b ρ1 k)
/-- a op b op' c -/
def xChain (f g : D → D → (Rt → Prop) → Prop) (a b c : XT) : XT := fun ρ k => a ρ fun x ρ1 => b ρ1 fun y ρ2 => f x.d y.d fun z => isB z.d fun t =>
  brb t (c ρ2 fun u ρ3 => g y.d u.d fun z => k z ρ3) (k (.va (.bool false)) ρ2)
def bX (a : XT) : BT := fun ρ k => a ρ fun x ρ1 => isB x.d fun c => k c ρ1
def bAnd (a b : BT) : BT := fun ρ k => a ρ fun c ρ1 => brb c (b ρ1 k) (k false ρ1)
def bOr (a b : BT) : BT := fun ρ k => a ρ fun c ρ1 => brb c (k true ρ1) (b ρ1 k)
def bNot (a : BT) : BT := fun ρ k => a ρ fun c ρ1 => k (!c) ρ1
def bYes : BT := fun ρ k => k true ρ

def mulOk (i j : Int) : Prop := (-(2 ^ 64) < i ∧ i < 2 ^ 64) ∨ (-(2 ^ 64) < j ∧ j < 2 ^ 64) ∨ (i.natAbs < 2 ^ 400000 ∧ j.natAbs < 2 ^ 400000)
def oAdd : D → D → (Rt → Prop) → Prop
  | .int i, .int j, k => k (.va (.int (i + j)))
  | .list xs, .list ys, k => xs.length + ys.length ≤ 1000000 ∧ k (.ow (xs ++ ys))
  | .tuple xs, .tuple ys, k => xs.length + ys.length ≤ 1000000 ∧ k (.va (.tuple (xs ++ ys)))
  | .str x, .str y, k => x.length + y.length ≤ 1000000 ∧ k (.va (.str (x ++ y)))
  | _, _, _ => False
def oSub : D → D → (Rt → Prop) → Prop
  | .int i, .int j, k => k (.va (.int (i - j)))
  | _, _, _ => False
def oMul : D → D → (Rt → Prop) → Prop
  | .int i, .int j, k => mulOk i j ∧ k (.va (.int (i * j)))
  | .list xs, .int j, k => (j ≤ 1000000 ∧ -1000000 ≤ j ∧ xs.length * j.toNat ≤ 1000000) ∧ k (.ow (List.replicate j.toNat xs).flatten)
  | .tuple xs, .int j, k => (j ≤ 1000 ∧ -1000 ≤ j ∧ xs.length ≤ 1000) ∧ k (.va (.tuple (List.replicate j.toNat xs).flatten))
  | _, _, _ => False
def divOk (j : Int) : Prop := 0 < j ∧ j.natAbs < 2 ^ 9000
def oDiv : D → D → (Rt → Prop) → Prop
  | .int i, .int j, k => divOk j ∧ k (.va (.int (i / j)))
  | _, _, _ => False
def oMod : D → D → (Rt → Prop) → Prop
  | .int i, .int j, k => 0 < j ∧ k (.va (.int (i % j)))
  | _, _, _ => False
def oPow : D → D → (Rt → Prop) → Prop
  | .int i, .int j, k => (0 ≤ j ∧ j ≤ 1000000 ∧ i.natAbs < 2 ^ 64) ∧ k (.va (.int (i ^ j.toNat)))
  | _, _, _ => False
def oNeg : D → (Rt → Prop) → Prop
  | .int i, k => k (.va (.int (-i)))
  | _, _ => False
def oCmp (p : Int → Int → Bool) : D → D → (Rt → Prop) → Prop
  | .int i, .int j, k => k (.va (.bool (p i j)))
  | _, _, _ => False
def oLt := oCmp fun i j => decide (i < j)
def oLe := oCmp fun i j => decide (i ≤ j)
def oGt := oCmp fun i j => decide (j < i)
def oGe := oCmp fun i j => decide (j ≤ i)
def bothStr : D → D → Bool
  | .str _, .str _ => true
  | _, _ => false
def oEq (d e : D) (k : Rt → Prop) : Prop := (bothStr d e = true ∨ (SeqAt.shaped d = true ∧ SeqAt.shaped e = true)) ∧ k (.va (.bool (PyData.eqv d e)))
def oNe (d e : D) (k : Rt → Prop) : Prop := (bothStr d e = true ∨ (SeqAt.shaped d = true ∧ SeqAt.shaped e = true)) ∧ k (.va (.bool (!PyData.eqv d e)))
def isNone : D → Bool
  | .none => true
  | _ => false
def oIsN (d : D) (k : Rt → Prop) : Prop := k (.va (.bool (isNone d)))
def oNotN (d : D) (k : Rt → Prop) : Prop := k (.va (.bool (!isNone d)))

/-- the place that an index means -/
def ixOf (n : Nat) (i : Int) : Option Nat := if 0 ≤ i then (if i < n then some i.toNat else none) else if -(n : Int) ≤ i then some (i + n).toNat else none
/-- the item at a place -/
def ixAt (xs : List D) (i : Int) (P : D → Prop) : Prop := ∃ j d, ixOf xs.length i = some j ∧ xs[j]? = some d ∧ P d
def atIx (n : Nat) (i : Int) (P : Nat → Prop) : Prop := ∃ j, ixOf n i = some j ∧ P j
def oIx : D → D → (Rt → Prop) → Prop
  | .list xs, .int i, k => ixAt xs i fun d => k (.va d)
  | .tuple xs, .int i, k => ixAt xs i fun d => k (.va d)
  | _, _, _ => False
/-- a slice's bounds -/
def slAt (n d : Nat) : Option Int → Nat
  | none => d
  | some i => if i < 0 then (i + n).toNat else min i.toNat n
@[irreducible] def cutL {α : Type} (xs : List α) (lo hi : Option Int) : List α := (xs.drop (slAt xs.length 0 lo)).take (slAt xs.length xs.length hi - slAt xs.length 0 lo)
def oSl (lo hi : Option Int) : D → (Rt → Prop) → Prop
  | .list xs, k => k (.ow (cutL xs lo hi))
  | .tuple xs, k => k (.va (.tuple (cutL xs lo hi)))
  | _, _ => False
/-- the parts of a slice -/
abbrev PT2 := Ev → (Option Int → Ev → Prop) → Prop
def pNo : PT2 := fun ρ k => k none ρ
def pAt (x : XT) : PT2 := fun ρ k => x ρ fun r ρ1 => isN r.d fun i => k (some i) ρ1
def MonoP (w : PT2) : Prop := ∀ ρ (k k' : Option Int → Ev → Prop), (∀ r ρ', k r ρ' → k' r ρ') → w ρ k → w ρ k'
def xSl (a : XT) (lo hi : PT2) : XT := fun ρ k => a ρ fun x ρ1 => lo ρ1 fun l ρ2 => hi ρ2 fun h ρ3 => oSl l h x.d fun z => k z ρ3

def fLen : List D → (Rt → Prop) → Prop
  | [.list xs], k => k (.va (.int xs.length))
  | [.tuple xs], k => k (.va (.int xs.length))
  | [.str x], k => x.length ≤ 1000000 ∧ k (.va (.int x.length))
  | _, _ => False
def fInt : List D → (Rt → Prop) → Prop
  | [.int i], k => k (.va (.int i))
  | [.bool b], k => k (.va (.int (if b then 1 else 0)))
  | _, _ => False
def fAbs : List D → (Rt → Prop) → Prop
  | [.int i], k => k (.va (.int (if i < 0 then -i else i)))
  | _, _ => False
def fMax2 : List D → (Rt → Prop) → Prop
  | [.int i, .int j], k => k (.va (.int (if j > i then j else i)))
  | _, _ => False
def fMin2 : List D → (Rt → Prop) → Prop
  | [.int i, .int j], k => k (.va (.int (if j < i then j else i)))
  | _, _ => False
def fTuple : List D → (Rt → Prop) → Prop
  | [.list xs], k => k (.va (.tuple xs))
  | [.tuple xs], k => k (.va (.tuple xs))
  | _, _ => False
def fList : List D → (Rt → Prop) → Prop
  | [.list xs], k => k (.ow xs)
  | [.tuple xs], k => k (.ow xs)
  | _, _ => False
def intsOf : List D → Option (List Int)
  | [] => some []
  | .int i :: r => (intsOf r).map (i :: ·)
  | _ :: _ => none
def boolsOf : List D → Option (List Bool)
  | [] => some []
  | .bool i :: r => (boolsOf r).map (i :: ·)
  | _ :: _ => none
def fSum : List D → (Rt → Prop) → Prop
  | [.list xs], k => ∃ ns, intsOf xs = some ns ∧ k (.va (.int ns.sum))
  | _, _ => False
def fAll : List D → (Rt → Prop) → Prop
  | [.list xs], k => ∃ bs, boolsOf xs = some bs ∧ k (.va (.bool (bs.all id)))
  | _, _ => False
def fAny : List D → (Rt → Prop) → Prop
  | [.list xs], k => ∃ bs, boolsOf xs = some bs ∧ k (.va (.bool (bs.any id)))
  | _, _ => False
/-- the text of a datum, within the model's bounds -/
def fRepr : List D → (Rt → Prop) → Prop
  | [d], k => (d.showable = true ∧ d.shown.length ≤ 1000000 ∧ d.depth ≤ 40) ∧ k (.va (.str d.shown))
  | _, _ => False
/-- the built-in classes -/
inductive Ty where
  | int | bool | str | tuple | list | dict
  deriving DecidableEq
def isTy : Ty → D → Bool
  | .int, .int _ => true
  | .int, .bool _ => true
  | .bool, .bool _ => true
  | .str, .str _ => true
  | .tuple, .tuple _ => true
  | .list, .list _ => true
  | .dict, .dict _ => true
  | _, _ => false
def oIsi (t : Ty) (d : D) (k : Rt → Prop) : Prop := k (.va (.bool (isTy t d)))
/-- in, not in: a list or a tuple of flat data -/
def flatD : D → Bool
  | .none | .bool _ | .int _ | .str _ => true
  | _ => false
def seqOf : D → Option (List D)
  | .list xs => some xs
  | .tuple xs => some xs
  | _ => none
def asS (d : D) (P : List D → Prop) : Prop := ∃ xs, seqOf d = some xs ∧ P xs
def oIn (neg : Bool) (d e : D) (k : Rt → Prop) : Prop := asS e fun xs => flatD d = true ∧ xs.all flatD = true ∧
  k (.va (.bool (if neg then !(xs.any fun y => PyData.eqv y d) else xs.any fun y => PyData.eqv y d)))

def peek (ρ : Ev) (i : Nat) : Option D := match ρ[i]? with
  | some (.va d) => some d
  | some (.ow ds) => some (.list ds)
  | _ => none
def atD (ρ : Ev) (i : Nat) (P : D → Prop) : Prop := ∃ d, peek ρ i = some d ∧ P d
def hasD (ρ : Ev) (i : Nat) : Prop := ∃ d, peek ρ i = some d
def atL (ρ : Ev) (i : Nat) (P : List D → Prop) : Prop := ∃ xs, peek ρ i = some (.list xs) ∧ P xs
def hasL (ρ : Ev) (i : Nat) : Prop := ∃ xs, peek ρ i = some (.list xs)
/-- len(x), x the name of a slot -/
def xLenN (i : Nat) : XT := fun ρ k => atD ρ i fun d => fLen [d] fun z => k z ρ
/-- x[e] -/
def xIxN (i : Nat) (e : XT) : XT := fun ρ k => hasD ρ i ∧ e ρ fun r ρ1 => atD ρ1 i fun d => oIx d r.d fun z => k z ρ1
/-- x == [], x != [] -/
def xNilN (neg : Bool) (i : Nat) : XT := fun ρ k => atL ρ i fun xs => k (.va (.bool (if neg then !xs.isEmpty else xs.isEmpty))) ρ
/-- x.f(..), x the name of an own list -/
def xMth (f : List D → List D → (D → List D → Prop) → Prop) (i : Nat) (a : AT) : XT := fun ρ k => hasO ρ i ∧ a ρ fun es ρ1 => atO ρ1 i fun ds => f ds es fun d ds' => k (.va d) (ρ1.set i (.ow ds'))
def mAppend : List D → List D → (D → List D → Prop) → Prop
  | ds, [e], k => ds.length ≤ 1000000 ∧ k .none (ds ++ [e])
  | _, _, _ => False
def mExtend : List D → List D → (D → List D → Prop) → Prop
  | ds, [.list es], k => ds.length + es.length ≤ 1000000 ∧ k .none (ds ++ es)
  | _, _, _ => False
def mPop : List D → List D → (D → List D → Prop) → Prop
  | ds, [], k => ∃ d, ds.getLast? = some d ∧ k d ds.dropLast
  | ds, [.int i], k => (0 ≤ i ∧ i < 1000000000) ∧ ∃ d, ds[i.toNat]? = some d ∧ k d (ds.eraseIdx i.toNat)
  | _, _, _ => False
def mInsert : List D → List D → (D → List D → Prop) → Prop
  | ds, [.int i, e], k => (0 ≤ i ∧ i < 1000000000 ∧ ds.length ≤ 1000000) ∧ k .none (ds.take i.toNat ++ [e] ++ ds.drop i.toNat)
  | _, _, _ => False

inductive Tg where
  | nm (i : Nat) | tup (ts : List Tg)
mutual
def tgGo : Tg → D → Ev → (Ev → Prop) → Prop
  | .nm i, d, ρ, k => k (ρ.set i (.va d))
  | .tup ts, d, ρ, k => asT d fun ds => ds.length = ts.length ∧ tgsGo ts ds ρ k
def tgsGo : List Tg → List D → Ev → (Ev → Prop) → Prop
  | [], [], ρ, k => k ρ
  | t :: ts, d :: ds, ρ, k => tgGo t d ρ fun ρ1 => tgsGo ts ds ρ1 k
  | [], _ :: _, _, _ => False
  | _ :: _, [], _, _ => False
end
mutual
/-- the slots that a target stores -/
def tgIx : Tg → List Nat
  | .nm i => [i]
  | .tup ts => tgsIx ts
def tgsIx : List Tg → List Nat
  | [] => []
  | t :: ts => tgIx t ++ tgsIx ts
end
def sPass : SS := fun E ρ => E.nx ρ
def sSeq (a b : SS) : SS := fun E ρ => a { E with nx := b E } ρ
def sSet (i : Nat) (x : XT) : SS := fun E ρ => x ρ fun r ρ1 => E.nx (ρ1.set i r.en)
def sSet2 (i j : Nat) (x y : XT) : SS := fun E ρ => x ρ fun r ρ1 => y ρ1 fun q ρ2 => E.nx ((ρ2.set i r.en).set j q.en)
def sSet3 (i j l : Nat) (x y z : XT) : SS := fun E ρ => x ρ fun r ρ1 => y ρ1 fun q ρ2 => z ρ2 fun u ρ3 => E.nx (((ρ3.set i r.en).set j q.en).set l u.en)
def sUnp (t : Tg) (x : XT) : SS := fun E ρ => x ρ fun r ρ1 => tgGo t r.d ρ1 E.nx
def sExpr (x : XT) : SS := fun E ρ => x ρ fun _ ρ1 => E.nx ρ1
def sRet (x : XT) : SS := fun E ρ => x ρ fun r _ => E.rt r
def sRetN : SS := fun E _ => E.rt (.va .none)
def sIf (t : BT) (a b : SS) : SS := fun E ρ => t ρ fun c ρ1 => brb c (a E ρ1) (b E ρ1)
def sBrk : SS := fun E ρ => E.bk ρ
def sCnt : SS := fun E ρ => E.ct ρ
/-- x[e] = y -/
def sSetIx (i : Nat) (e y : XT) : SS := fun E ρ => y ρ fun r ρ1 => hasO ρ1 i ∧ e ρ1 fun q ρ2 => atO ρ2 i fun ds => isN q.d fun n => atIx ds.length n fun j => E.nx (ρ2.set i (.ow (ds.set j r.d)))
/-- a row is walked -/
def forL (t : Tg) (b : SS) : List D → SS
  | [], E, ρ => E.nx ρ
  | d :: ds, E, ρ => tgGo t d ρ fun ρ1 => b { E with nx := forL t b ds E, ct := forL t b ds E, bk := E.nx } ρ1
/-- what gives a row of data to walk -/
abbrev IT := Ev → (List D → Ev → Prop) → Prop
def MonoI (w : IT) : Prop := MonoA w
def iSeq (x : XT) : IT := fun ρ k => x ρ fun r ρ1 => asS r.d fun xs => k xs ρ1
def iEnum (x : XT) : IT := fun ρ k => x ρ fun r ρ1 => asS r.d fun xs => k (xs.zipIdx.map fun p => .tuple [.int p.2, p.1]) ρ1
def iZip (x y : XT) : IT := fun ρ k => x ρ fun r ρ1 => y ρ1 fun q ρ2 => asS r.d fun xs => asS q.d fun ys => k ((xs.zip ys).map fun p => .tuple [p.1, p.2]) ρ2
def rngL (lo hi : Int) : List D := (List.range (hi - lo).toNat).map fun i => .int (lo + (i : Nat))
def iRng1 (x : XT) : IT := fun ρ k => x ρ fun r ρ1 => isN r.d fun n => (-1000000000 ≤ n ∧ n ≤ 1000000000) ∧ k (rngL 0 n) ρ1
def iRng2 (x y : XT) : IT := fun ρ k => x ρ fun r ρ1 => y ρ1 fun q ρ2 => isN r.d fun m => isN q.d fun n => (-1000000000 ≤ m ∧ m ≤ 1000000000 ∧ n ≤ 1000000000 ∧ -1000000000 ≤ n) ∧ k (rngL m n) ρ2
def sFor (t : Tg) (it : IT) (b : SS) : SS := fun E ρ => it ρ fun ds ρ1 => forL t b ds E ρ1
/-- a while, in so many turns at most -/
def whileN (t : BT) (b : SS) : Nat → SS
  | 0, _, _ => False
  | n + 1, E, ρ => t ρ fun c ρ1 => brb c (b { E with nx := whileN t b n E, ct := whileN t b n E, bk := E.nx } ρ1) (E.nx ρ1)
def sWhile (t : BT) (b : SS) : SS := fun E ρ => ∃ n, whileN t b n E ρ
/-- [e for t in it if test], vs: the slots of its own names -/
def wipeE (ρ : Ev) : List Nat → Ev
  | [] => ρ
  | v :: vs => (wipeE ρ vs).set v .un
def unw (ρ : Ev) : List Nat → Ev
  | [] => ρ
  | v :: vs => unw (ρ.set v .un) vs
def lcL (t : Tg) (tt : BT) (e : XT) (vs : List Nat) : List D → List D → Ev → (List D → Ev → Prop) → Prop
  | [], acc, ρ, k => k acc ρ
  | d :: ds, acc, ρ, k => tgGo t d ρ fun ρ1 => tt ρ1 fun c ρ2 =>
      brb c (e ρ2 fun r ρ3 => acc.length ≤ 1000000 ∧ lcL t tt e vs ds (acc ++ [r.d]) (wipeE ρ3 vs) k) (lcL t tt e vs ds acc (wipeE ρ2 vs) k)
def xLc (t : Tg) (it : IT) (tt : BT) (e : XT) (vs : List Nat) : XT := fun ρ k => it ρ fun ds ρ1 => lcL t tt e vs ds [] (wipeE ρ1 vs) fun acc ρ2 => k (.ow acc) (unw ρ2 vs)
end DL

namespace DL
open PySem L2

def dKey : Key → D
  | .inl i => .int i
  | .inr x => .str x
mutual
/-- a value bears a datum, by a heap whose things stay as they are -/
inductive DV (B : Hp) : V → D → Prop
  | non : DV B .non .none
  | bl (b : Bool) : DV B (.bl b) (.bool b)
  | int (i : Int) : DV B (.int i) (.int i)
  | str (x : Str) : DV B (.str x) (.str x)
  | lst {a : Addr} {xs : List V} {ds : List D} : B a = some (.lst xs) → DVs B xs ds → DV B (.ref a) (.list ds)
  | tup {a : Addr} {xs : List V} {ds : List D} : B a = some (.tup xs) → DVs B xs ds → DV B (.ref a) (.tuple ds)
  | dic {a : Addr} {kvs : List (Key × V)} {ds : List (D × D)} : B a = some (.dK kvs) → DKs B kvs ds → DV B (.ref a) (.dict ds)
inductive DVs (B : Hp) : List V → List D → Prop
  | nil : DVs B [] []
  | cons {v : V} {vs : List V} {d : D} {ds : List D} : DV B v d → DVs B vs ds → DVs B (v :: vs) (d :: ds)
inductive DKs (B : Hp) : List (Key × V) → List (D × D) → Prop
  | nil : DKs B [] []
  | cons {k : Key} {v : V} {kvs : List (Key × V)} {d : D} {ds : List (D × D)} : DV B v d → DKs B kvs ds → DKs B ((k, v) :: kvs) ((dKey k, d) :: ds)
end
def Sub (B H : Hp) : Prop := ∀ a o, B a = some o → H a = some o
theorem Sub.refl (B : Hp) : Sub B B := fun _ _ h => h
theorem Sub.trans {A B C : Hp} (h : Sub A B) (k : Sub B C) : Sub A C := fun a o e => k a o (h a o e)
mutual
theorem DV.mono {B C : Hp} (hB : Sub B C) : ∀ {v : V} {d : D}, DV B v d → DV C v d
  | _, _, .non => .non
  | _, _, .bl b => .bl b
  | _, _, .int i => .int i
  | _, _, .str x => .str x
  | _, _, .lst h hs => .lst (hB _ _ h) (DVs.mono hB hs)
  | _, _, .tup h hs => .tup (hB _ _ h) (DVs.mono hB hs)
  | _, _, .dic h hs => .dic (hB _ _ h) (DKs.mono hB hs)
theorem DVs.mono {B C : Hp} (hB : Sub B C) : ∀ {v : List V} {d : List D}, DVs B v d → DVs C v d
  | _, _, .nil => .nil
  | _, _, .cons h hs => .cons (DV.mono hB h) (DVs.mono hB hs)
theorem DKs.mono {B C : Hp} (hB : Sub B C) : ∀ {v : List (Key × V)} {d : List (D × D)}, DKs B v d → DKs C v d
  | _, _, .nil => .nil
  | _, _, .cons h hs => .cons (DV.mono hB h) (DKs.mono hB hs)
end
section
variable {B : Hp} {v : V} {vs ws : List V} {ds es : List D} {d : D}
theorem DVs.length (h : DVs B vs ds) : vs.length = ds.length := by
  induction vs generalizing ds with
  | nil => cases h; rfl
  | cons a r ih => cases h with | cons _ q => simp [ih q]
theorem DVs.append (h : DVs B vs ds) (k : DVs B ws es) : DVs B (vs ++ ws) (ds ++ es) := by
  induction vs generalizing ds with
  | nil => cases h; exact k
  | cons a r ih => cases h with | cons p q => exact .cons p (ih q)
theorem DVs.get (h : DVs B vs ds) {i : Nat} {x : D} (e : ds[i]? = some x) : ∃ v, vs[i]? = some v ∧ DV B v x := by
  induction vs generalizing ds i with
  | nil => cases h; simp at e
  | cons a r ih =>
    cases h with
    | cons p q =>
      cases i with
      | zero => simp at e; subst e; exact ⟨a, by simp, p⟩
      | succ j =>
        obtain ⟨v, h1, h2⟩ := ih q (i := j) (by simpa using e)
        exact ⟨v, by simpa using h1, h2⟩
theorem DVs.getV (h : DVs B vs ds) {i : Nat} {x : V} (e : vs[i]? = some x) : ∃ d, ds[i]? = some d ∧ DV B x d := by
  induction vs generalizing ds i with
  | nil => simp at e
  | cons a r ih =>
    cases h with
    | cons p q =>
      cases i with
      | zero => simp at e; subst e; exact ⟨_, by simp, p⟩
      | succ j =>
        obtain ⟨v, h1, h2⟩ := ih q (i := j) (by simpa using e)
        exact ⟨v, by simpa using h1, h2⟩
theorem DVs.set (h : DVs B vs ds) (k : DV B v d) (i : Nat) : DVs B (vs.set i v) (ds.set i d) := by
  induction vs generalizing ds i with
  | nil => cases h; exact .nil
  | cons a r ih =>
    cases h with
    | cons p q =>
      cases i with
      | zero => exact .cons k q
      | succ j => exact .cons p (ih q j)
theorem DVs.take (h : DVs B vs ds) (n : Nat) : DVs B (vs.take n) (ds.take n) := by
  induction vs generalizing ds n with
  | nil => cases h; simpa using DVs.nil
  | cons a r ih =>
    cases h with
    | cons p q =>
      cases n with
      | zero => exact .nil
      | succ j => exact .cons p (ih q j)
theorem DVs.drop (h : DVs B vs ds) (n : Nat) : DVs B (vs.drop n) (ds.drop n) := by
  induction vs generalizing ds n with
  | nil => cases h; simpa using DVs.nil
  | cons a r ih =>
    cases h with
    | cons p q =>
      cases n with
      | zero => exact .cons p q
      | succ j => exact ih q j
theorem DV.int_inv {i : Int} (h : DV B v (.int i)) : v = .int i := by cases h; rfl
theorem DV.bool_inv {i : Bool} (h : DV B v (.bool i)) : v = .bl i := by cases h; rfl
theorem DV.str_inv {i : Str} (h : DV B v (.str i)) : v = .str i := by cases h; rfl
theorem DV.list_inv (h : DV B v (.list ds)) : ∃ a xs, v = .ref a ∧ B a = some (.lst xs) ∧ DVs B xs ds := by cases h with | lst p q => exact ⟨_, _, rfl, p, q⟩
theorem DV.tuple_inv (h : DV B v (.tuple ds)) : ∃ a xs, v = .ref a ∧ B a = some (.tup xs) ∧ DVs B xs ds := by cases h with | tup p q => exact ⟨_, _, rfl, p, q⟩
end

/-- the written part; what a deck is: at an address, with the addresses of its own objects -/
structure Zd where
  K : PySem.W.Frag
  sm : Bool
  dk : Hp → Addr → List Addr → Prop
  loc : ∀ H H' p fp, dk H p fp → (∀ a ∈ fp, H' a = H a) → dk H' p fp
abbrev Dk := Option (Addr × List Addr)
/-- the interpreter's own table of modules is held apart -/
def Smk (Z : Zd) (B : Hp) : Prop := Z.sm = true → ∃ φ, B sysModules = some (.ext φ)
theorem Smk.mono {Z : Zd} {B C : Hp} (h : Smk Z B) (s : Sub B C) : Smk Z C := fun z => let ⟨φ, e⟩ := h z; ⟨φ, s _ _ e⟩
/-- addresses whose objects may change -/
def MM (σ : L2.St) (ρ : Ev) (δ : Dk) (a : Addr) : Prop :=
  (∃ (j : Nat) (ds : List D), ρ[j]? = some (.ow ds) ∧ σ[j]? = some (some (.ref a))) ∨ ∃ p fp, δ = some (p, fp) ∧ a ∈ fp
structure Rel (Z : Zd) (δ : Dk) (σ : L2.St) (H B : Hp) (ρ : Ev) : Prop where
  len : σ.length = ρ.length
  sub : Sub B H
  va : ∀ (i : Nat) (d : D), ρ[i]? = some (.va d) → ∃ v, σ[i]? = some (some v) ∧ DV B v d
  ow : ∀ (i : Nat) (ds : List D), ρ[i]? = some (.ow ds) → ∃ p vs, σ[i]? = some (some (.ref p)) ∧ B p = none ∧ H p = some (.lst vs) ∧ DVs B vs ds
  sep : ∀ (i j : Nat) (ds es : List D) (p : Addr), ρ[i]? = some (.ow ds) → ρ[j]? = some (.ow es) → σ[i]? = some (some (.ref p)) → σ[j]? = some (some (.ref p)) → i = j
  dk : ∀ (i : Nat), ρ[i]? = some .dk → ∃ p fp, δ = some (p, fp) ∧ σ[i]? = some (some (.ref p))
  dok : ∀ p fp, δ = some (p, fp) → Z.dk H p fp ∧ (∀ a ∈ fp, B a = none ∧ H a ≠ none) ∧ ∀ a ∈ fp, ∀ (j : Nat) (ds : List D), ρ[j]? = some (.ow ds) → σ[j]? ≠ some (some (.ref a))
  sc : ∀ (i : Nat) (ns : List Int), ρ[i]? = some (.sc ns) → ∃ a : Addr, σ[i]? = some (some (.ref a)) ∧ SqL Z.K B a (ns.map V.int)
  sm : Smk Z B
/-- from one state to a later one -/
structure Stp (M M' : Addr → Prop) (H B H' B' : Hp) : Prop where
  bb : Sub B B'
  hh : ∀ a o, H a = some o → ¬ M a → H' a = some o
  nw : ∀ a, B' a ≠ none → B a ≠ none ∨ H a = none ∨ M a
  mm : ∀ a, M' a → M a ∨ H a = none
  tr : ∀ a, H' a = none → H a = none
theorem Stp.refl {M : Addr → Prop} {H B : Hp} : Stp M M H B H B := ⟨Sub.refl _, fun _ _ h _ => h, fun _ h => .inl h, fun _ h => .inl h, fun _ h => h⟩
theorem Stp.trans {M M1 M2 : Addr → Prop} {H B H1 B1 H2 B2 : Hp} (a : Stp M M1 H B H1 B1) (b : Stp M1 M2 H1 B1 H2 B2) : Stp M M2 H B H2 B2 := by
  have back : ∀ x, H1 x = none → H x = none ∨ M x := fun x e => by
    by_cases m : M x
    · exact .inr m
    · cases q : H x with
      | none => exact .inl rfl
      | some o => rw [a.hh x o q m] at e; cases e
  refine ⟨a.bb.trans b.bb, fun x o e m => b.hh x o (a.hh x o e m) fun m1 => ?_, fun x e => ?_, fun x m2 => ?_, fun x e => a.tr x (b.tr x e)⟩
  · rcases a.mm x m1 with z | z
    · exact m z
    · rw [e] at z; cases z
  · rcases b.nw x e with z | z | z
    · exact a.nw x z
    · exact .inr (back x z)
    · exact .inr (a.mm x z).symm
  · rcases b.mm x m2 with z | z
    · exact a.mm x z
    · exact (back x z).symm
/-- how an answer lies: H ahead of it, H' B' behind it -/
def RR (M : Addr → Prop) (H H' B' : Hp) (M' : Addr → Prop) (v : V) : Rt → Prop
  | .va d => DV B' v d
  | .ow ds => ∃ p vs, v = .ref p ∧ (H p = none ∨ M p) ∧ B' p = none ∧ ¬ M' p ∧ H' p = some (.lst vs) ∧ DVs B' vs ds

section
variable {Z : Zd} {δ : Dk} {σ : L2.St} {H H' B B' : Hp} {ρ : Ev}
/-- all that is tracked stays; new things are new -/
theorem Rel.ext (R : Rel Z δ σ H B ρ) (hH : Sub H H') (hB : Sub B B') (hs : Sub B' H') (nw : ∀ a, B' a ≠ none → B a ≠ none ∨ H a = none) : Rel Z δ σ H' B' ρ := by
  have keep : ∀ a o, H a = some o → B a = none → B' a = none := fun a o e n => by
    cases q : B' a with
    | none => rfl
    | some u =>
      rcases nw a (by rw [q]; simp) with z | z
      · exact absurd n z
      · rw [e] at z; cases z
  refine ⟨R.len, hs, fun i d e => ?_, fun i ds e => ?_, R.sep, R.dk, fun p fp e => ?_, fun i ns e => ?_, R.sm.mono hB⟩
  · obtain ⟨v, h1, h2⟩ := R.va i d e
    exact ⟨v, h1, h2.mono hB⟩
  · obtain ⟨p, vs, h1, h2, h3, h4⟩ := R.ow i ds e
    exact ⟨p, vs, h1, keep p _ h3 h2, hH _ _ h3, h4.mono hB⟩
  · obtain ⟨h1, h2, h3⟩ := R.dok p fp e
    refine ⟨Z.loc _ _ _ _ h1 fun a ha => ?_, fun a ha => ?_, h3⟩
    · cases q : H a with
      | none => exact absurd q (h2 a ha).2
      | some o => exact hH a o q
    · cases q : H a with
      | none => exact absurd q (h2 a ha).2
      | some o => exact ⟨keep a o q (h2 a ha).1, by rw [hH a o q]; simp⟩
  · obtain ⟨a, h1, h2⟩ := R.sc i ns e
    refine ⟨a, h1, ?_⟩
    rcases h2 with (h2 | ⟨o, h2⟩) | h2
    · exact .inl (.inl (hB _ _ h2))
    · exact .inl (.inr ⟨o, hB _ _ h2⟩)
    · exact .inr h2
theorem sub_upd {q : Addr} {o : HO} (h : H q = none) : Sub H (upd H q o) := fun a u e => by rw [upd_ne (ne_of_none e h)]; exact e
theorem upd_none {q a : Addr} {o : HO} (h : upd H q o a = none) : H a = none := by
  by_cases z : a = q
  · subst z; rw [upd_same] at h; cases h
  · rw [upd_ne z] at h; exact h
theorem Rel.free (R : Rel Z δ σ H B ρ) {q : Addr} (h : H q = none) : B q = none := by
  cases e : B q with
  | none => rfl
  | some o => rw [R.sub q o e] at h; cases h
/-- a new thing that stays -/
theorem Rel.new (R : Rel Z δ σ H B ρ) {q : Addr} {o : HO} (h : H q = none) : Rel Z δ σ (upd H q o) (upd B q o) ρ := by
  refine R.ext (sub_upd h) (sub_upd (R.free h)) (fun a u e => ?_) fun a e => ?_
  · by_cases z : a = q
    · subst z; rw [upd_same] at e ⊢; exact e
    · rw [upd_ne z] at e ⊢; exact R.sub a u e
  · by_cases z : a = q
    · subst z; exact .inr h
    · rw [upd_ne z] at e; exact .inl e
/-- a new thing that is one's own -/
theorem Rel.own (R : Rel Z δ σ H B ρ) {q : Addr} {o : HO} (h : H q = none) : Rel Z δ σ (upd H q o) B ρ :=
  R.ext (sub_upd h) (Sub.refl _) (R.sub.trans (sub_upd h)) fun _ e => .inl e
theorem MM.tracked (R : Rel Z δ σ H B ρ) {a : Addr} (m : MM σ ρ δ a) : H a ≠ none ∧ B a = none := by
  rcases m with ⟨j, ds, e1, e2⟩ | ⟨p, fp, e, ha⟩
  · obtain ⟨p, vs, h1, h2, h3, _⟩ := R.ow j ds e1
    rw [e2] at h1; cases h1
    exact ⟨by rw [h3]; simp, h2⟩
  · obtain ⟨_, h2, _⟩ := R.dok p fp e
    exact ⟨(h2 a ha).2, (h2 a ha).1⟩
theorem Stp.new (R : Rel Z δ σ H B ρ) {q : Addr} {o : HO} (h : H q = none) : Stp (MM σ ρ δ) (MM σ ρ δ) H B (upd H q o) (upd B q o) :=
  ⟨sub_upd (R.free h), fun a u e _ => sub_upd h a u e, fun a e => by
    by_cases z : a = q
    · subst z; exact .inr (.inl h)
    · rw [upd_ne z] at e; exact .inl e, fun _ m => .inl m, fun a e => upd_none e⟩
theorem Stp.own (R : Rel Z δ σ H B ρ) {q : Addr} {o : HO} (h : H q = none) : Stp (MM σ ρ δ) (MM σ ρ δ) H B (upd H q o) B :=
  ⟨Sub.refl _, fun a u e _ => sub_upd h a u e, fun a e => .inl e, fun _ m => .inl m, fun a e => upd_none e⟩
/-- an answer is given away: a list that nobody has stays as it is from now on -/
theorem freeze {M : Addr → Prop} {Hs Bs : Hp} {v : V} {r : Rt} (R : Rel Z δ σ H B ρ) (S : Stp M (MM σ ρ δ) Hs Bs H B) (q : RR M Hs H B (MM σ ρ δ) v r) :
    ∃ B', Rel Z δ σ H B' ρ ∧ Stp M (MM σ ρ δ) Hs Bs H B' ∧ DV B' v r.d := by
  cases r with
  | va d => exact ⟨B, R, S, q⟩
  | ow ds =>
    obtain ⟨p, vs, rfl, h1, h2, h3, h4, h5⟩ := q
    have hb : Sub B (upd B p (.lst vs)) := sub_upd h2
    have nw : ∀ a, upd B p (.lst vs) a ≠ none → B a ≠ none ∨ a = p := fun a e => by
      by_cases z : a = p
      · exact .inr z
      · rw [upd_ne z] at e; exact .inl e
    refine ⟨upd B p (.lst vs), ⟨R.len, fun a u e => ?_, fun i d e => ?_, fun i es e => ?_, R.sep, R.dk, fun t fp e => ?_, fun i ns e => ?_, R.sm.mono hb⟩, ⟨S.bb.trans hb, S.hh, fun a e => ?_, S.mm, S.tr⟩, .lst upd_same (h5.mono hb)⟩
    · by_cases z : a = p
      · subst z; rw [upd_same] at e; cases e; exact h4
      · rw [upd_ne z] at e; exact R.sub a u e
    · obtain ⟨v, k1, k2⟩ := R.va i d e
      exact ⟨v, k1, k2.mono hb⟩
    · obtain ⟨t, ws, k1, k2, k3, k4⟩ := R.ow i es e
      refine ⟨t, ws, k1, ?_, k3, k4.mono hb⟩
      have z : t ≠ p := fun z => h3 (.inl ⟨i, es, e, by rw [← z]; exact k1⟩)
      rw [upd_ne z]; exact k2
    · obtain ⟨k1, k2, k3⟩ := R.dok t fp e
      refine ⟨k1, fun a ha => ⟨?_, (k2 a ha).2⟩, k3⟩
      have z : a ≠ p := fun z => h3 (.inr ⟨t, fp, e, by rw [← z]; exact ha⟩)
      rw [upd_ne z]; exact (k2 a ha).1
    · obtain ⟨a, k1, k2⟩ := R.sc i ns e
      refine ⟨a, k1, ?_⟩
      rcases k2 with (k2 | ⟨o, k2⟩) | k2
      · exact .inl (.inl (hb _ _ k2))
      · exact .inl (.inr ⟨o, hb _ _ k2⟩)
      · exact .inr k2
    · rcases nw a e with z | z
      · exact S.nw a z
      · subst z; exact .inr h1
end

def LX (Z : Zd) (w : XT) : TE := fun σ H Q => ∃ δ B ρ, Rel Z δ σ H B ρ ∧ w ρ fun r ρ' => ∀ v H' B', Rel Z δ σ H' B' ρ' → Stp (MM σ ρ δ) (MM σ ρ' δ) H B H' B' → RR (MM σ ρ δ) H H' B' (MM σ ρ' δ) v r → Q v H'
def LB (Z : Zd) (w : BT) : TT := fun σ H Q => ∃ δ B ρ, Rel Z δ σ H B ρ ∧ w ρ fun c ρ' => ∀ H' B', Rel Z δ σ H' B' ρ' → Stp (MM σ ρ δ) (MM σ ρ' δ) H B H' B' → Q c H'
def LA (Z : Zd) (w : AT) : TA := fun σ H Q => ∃ δ B ρ, Rel Z δ σ H B ρ ∧ w ρ fun ds ρ' => ∀ vs H' B', Rel Z δ σ H' B' ρ' → Stp (MM σ ρ δ) (MM σ ρ' δ) H B H' B' → DVs B' vs ds → Q vs H'
/-- arguments of a def -/
inductive ArV (B : Hp) (δ : Dk) : V → Ar → Prop
  | va {v : V} {d : D} : DV B v d → ArV B δ v (.va d)
  | dk {p : Addr} {fp : List Addr} : δ = some (p, fp) → ArV B δ (.ref p) .dk
inductive ArVs (B : Hp) (δ : Dk) : List V → List Ar → Prop
  | nil : ArVs B δ [] []
  | cons {v : V} {vs : List V} {a : Ar} {as : List Ar} : ArV B δ v a → ArVs B δ vs as → ArVs B δ (v :: vs) (a :: as)
def LC (Z : Zd) (w : CT) : TA := fun σ H Q => ∃ δ B ρ, Rel Z δ σ H B ρ ∧ w ρ fun as ρ' => ∀ vs H' B', Rel Z δ σ H' B' ρ' → Stp (MM σ ρ δ) (MM σ ρ' δ) H B H' B' → ArVs B' δ vs as → Q vs H'
/-- what is wanted behind a statement, told from its start -/
def Lw (Z : Zd) (E : Ends) (δ : Dk) (σ : L2.St) (H B : Hp) (ρ : Ev) : Wd where
  nx := fun ρ' => ∀ σ' H' B', Rel Z δ σ' H' B' ρ' → Stp (MM σ ρ δ) (MM σ' ρ' δ) H B H' B' → E.nx σ' H'
  rt := fun r => ∀ v σ' ρ' H' B', Rel Z δ σ' H' B' ρ' → Stp (MM σ ρ δ) (MM σ' ρ' δ) H B H' B' → RR (MM σ ρ δ) H H' B' (MM σ' ρ' δ) v r → E.rt v H'
  bk := fun ρ' => ∀ σ' H' B', Rel Z δ σ' H' B' ρ' → Stp (MM σ ρ δ) (MM σ' ρ' δ) H B H' B' → E.bk σ' H'
  ct := fun ρ' => ∀ σ' H' B', Rel Z δ σ' H' B' ρ' → Stp (MM σ ρ δ) (MM σ' ρ' δ) H B H' B' → E.ct σ' H'
def LS (Z : Zd) (w : SS) : TS := fun E σ H => ∃ δ B ρ, Rel Z δ σ H B ρ ∧ w (Lw Z E δ σ H B ρ) ρ

structure PX (X : Cx) (Z : Zd) (e : Expr) (w : XT) : Prop where
  mono : MonoX w
  pe : PE X e (LX Z w)
structure PB (X : Cx) (Z : Zd) (e : Expr) (w : BT) : Prop where
  mono : MonoB w
  pt : PT X e (LB Z w)
structure QA (X : Cx) (Z : Zd) (es : List Expr) (w : AT) : Prop where
  mono : MonoA w
  pa : PA X es (LA Z w)
structure QC (X : Cx) (Z : Zd) (es : List Expr) (w : CT) : Prop where
  mono : MonoC w
  pa : PA X es (LC Z w)
structure QS (X : Cx) (Z : Zd) (st : Stmt) (w : SS) : Prop where
  mono : MonoS w
  ps : PS X st (LS Z w)
structure QSs (X : Cx) (Z : Zd) (st : List Stmt) (w : SS) : Prop where
  mono : MonoS w
  ps : PSs X st (LS Z w)
theorem pe_imp {X : Cx} {e : Expr} {t t' : TE} (h : PE X e t) (k : ∀ σ H Q, t' σ H Q → t σ H Q) : PE X e t' := ⟨fun pins s σ H Q I q => h.run pins s σ H Q I (k σ H Q q)⟩
theorem pt_imp {X : Cx} {e : Expr} {t t' : TT} (h : PT X e t) (k : ∀ σ H Q, t' σ H Q → t σ H Q) : PT X e t' := ⟨fun pins s σ H Q I q => h.run pins s σ H Q I (k σ H Q q)⟩
theorem pw_imp {X : Cx} {e : Expr} {t t' : TT} (h : PW X e t) (k : ∀ σ H Q, t' σ H Q → t σ H Q) : PW X e t' := ⟨fun wh pins s σ H Q I q => h.run wh pins s σ H Q I (k σ H Q q)⟩
theorem pa_imp {X : Cx} {e : List Expr} {t t' : TA} (h : PA X e t) (k : ∀ σ H Q, t' σ H Q → t σ H Q) : PA X e t' := ⟨fun pos pins s σ H Q I q => h.run pos pins s σ H Q I (k σ H Q q)⟩
theorem ps_imp {X : Cx} {e : Stmt} {t t' : TS} (h : PS X e t) (k : ∀ E σ H, t' E σ H → t E σ H) : PS X e t' := ⟨fun pins s σ H E I q => h.run pins s σ H E I (k E σ H q)⟩
theorem pss_imp {X : Cx} {e : List Stmt} {t t' : TS} (h : PSs X e t) (k : ∀ E σ H, t' E σ H → t E σ H) : PSs X e t' := ⟨fun pins s σ H E I q => h.run pins s σ H E I (k E σ H q)⟩
end DL

namespace DL
open PySem L2

section
variable {Z : Zd} {δ : Dk} {σ : L2.St} {H B H' B' : Hp} {ρ : Ev} {v : V}
theorem set_get {α : Type} {l : List α} {i j : Nat} {x y : α} (e : (l.set i x)[j]? = some y) : (i = j ∧ y = x ∧ i < l.length) ∨ (i ≠ j ∧ l[j]? = some y) := by
  rw [List.getElem?_set] at e
  by_cases z : i = j
  · rw [if_pos z] at e
    by_cases q : i < l.length
    · rw [if_pos q] at e; cases e; exact .inl ⟨z, rfl, q⟩
    · rw [if_neg q] at e; cases e
  · rw [if_neg z] at e; exact .inr ⟨z, e⟩
theorem set_at {α : Type} {l : List α} {i : Nat} {x : α} (h : i < l.length) : (l.set i x)[i]? = some x := by simp [h]
theorem set_off {α : Type} {l : List α} {i j : Nat} {x : α} (h : i ≠ j) : (l.set i x)[j]? = l[j]? := by rw [List.getElem?_set_ne h]
theorem MM.setVa {i : Nat} {x : Option V} {en : En} (hn : ∀ ds, en ≠ .ow ds) {a : Addr} (m : MM (σ.set i x) (ρ.set i en) δ a) : MM σ ρ δ a := by
  rcases m with ⟨j, ds, e1, e2⟩ | m
  · rcases set_get e1 with ⟨_, q, _⟩ | ⟨z, q⟩
    · exact absurd q.symm (hn ds)
    · exact .inl ⟨j, ds, q, by rw [set_off z] at e2; exact e2⟩
  · exact .inr m
theorem Rel.setVa (R : Rel Z δ σ H B ρ) {i : Nat} {d : D} (h : DV B v d) : Rel Z δ (σ.set i (some v)) H B (ρ.set i (.va d)) := by
  refine ⟨by simp [R.len], R.sub, fun j e q => ?_, fun j ds q => ?_, fun j l ds es p q1 q2 q3 q4 => ?_, fun j q => ?_, fun p fp q => ?_, fun j ns q => ?_, R.sm⟩
  · rcases set_get q with ⟨z, q, l⟩ | ⟨z, q⟩
    · cases q; subst z; exact ⟨v, set_at (by rw [R.len]; exact l), h⟩
    · rw [set_off z]; exact R.va j e q
  · rcases set_get q with ⟨z, q, l⟩ | ⟨z, q⟩
    · cases q
    · rw [set_off z]; exact R.ow j ds q
  · rcases set_get q1 with ⟨z, q, _⟩ | ⟨z1, q1⟩
    · cases q
    · rcases set_get q2 with ⟨z, q, _⟩ | ⟨z2, q2⟩
      · cases q
      · rw [set_off z1] at q3; rw [set_off z2] at q4; exact R.sep j l ds es p q1 q2 q3 q4
  · rcases set_get q with ⟨z, q, l⟩ | ⟨z, q⟩
    · cases q
    · rw [set_off z]; exact R.dk j q
  · obtain ⟨h1, h2, h3⟩ := R.dok p fp q
    refine ⟨h1, h2, fun a ha j ds q => ?_⟩
    rcases set_get q with ⟨z, q, l⟩ | ⟨z, q⟩
    · cases q
    · rw [set_off z]; exact h3 a ha j ds q
  · rcases set_get q with ⟨z, q, l⟩ | ⟨z, q⟩
    · cases q
    · rw [set_off z]; exact R.sc j ns q
theorem Rel.setUn (R : Rel Z δ σ H B ρ) {i : Nat} {x : Option V} : Rel Z δ (σ.set i x) H B (ρ.set i .un) := by
  refine ⟨by simp [R.len], R.sub, fun j e q => ?_, fun j ds q => ?_, fun j l ds es p q1 q2 q3 q4 => ?_, fun j q => ?_, fun p fp q => ?_, fun j ns q => ?_, R.sm⟩
  · rcases set_get q with ⟨z, q, l⟩ | ⟨z, q⟩
    · cases q
    · rw [set_off z]; exact R.va j e q
  · rcases set_get q with ⟨z, q, l⟩ | ⟨z, q⟩
    · cases q
    · rw [set_off z]; exact R.ow j ds q
  · rcases set_get q1 with ⟨z, q, _⟩ | ⟨z1, q1⟩
    · cases q
    · rcases set_get q2 with ⟨z, q, _⟩ | ⟨z2, q2⟩
      · cases q
      · rw [set_off z1] at q3; rw [set_off z2] at q4; exact R.sep j l ds es p q1 q2 q3 q4
  · rcases set_get q with ⟨z, q, l⟩ | ⟨z, q⟩
    · cases q
    · rw [set_off z]; exact R.dk j q
  · obtain ⟨h1, h2, h3⟩ := R.dok p fp q
    refine ⟨h1, h2, fun a ha j ds q => ?_⟩
    rcases set_get q with ⟨z, q, l⟩ | ⟨z, q⟩
    · cases q
    · rw [set_off z]; exact h3 a ha j ds q
  · rcases set_get q with ⟨z, q, l⟩ | ⟨z, q⟩
    · cases q
    · rw [set_off z]; exact R.sc j ns q
theorem Rel.setOw (R : Rel Z δ σ H B ρ) {i : Nat} {p : Addr} {vs : List V} {ds : List D} (h1 : B p = none) (h2 : H p = some (.lst vs)) (h3 : DVs B vs ds) (h4 : ¬ MM σ ρ δ p) :
    Rel Z δ (σ.set i (some (.ref p))) H B (ρ.set i (.ow ds)) := by
  refine ⟨by simp [R.len], R.sub, fun j e q => ?_, fun j es q => ?_, fun j l es fs t q1 q2 q3 q4 => ?_, fun j q => ?_, fun t fp q => ?_, fun j ns q => ?_, R.sm⟩
  · rcases set_get q with ⟨z, q, l⟩ | ⟨z, q⟩
    · cases q
    · rw [set_off z]; exact R.va j e q
  · rcases set_get q with ⟨z, q, l⟩ | ⟨z, q⟩
    · cases q; subst z; exact ⟨p, vs, set_at (by rw [R.len]; exact l), h1, h2, h3⟩
    · rw [set_off z]; exact R.ow j es q
  · rcases set_get q1 with ⟨z1, _, l1⟩ | ⟨z1, q1⟩
    · rcases set_get q2 with ⟨z2, _, l2⟩ | ⟨z2, q2⟩
      · exact z1.symm.trans z2
      · exfalso
        subst z1
        rw [set_at (by rw [R.len]; exact l1)] at q3; cases q3
        rw [set_off z2] at q4
        exact h4 (.inl ⟨l, fs, q2, q4⟩)
    · rcases set_get q2 with ⟨z2, _, l2⟩ | ⟨z2, q2⟩
      · exfalso
        subst z2
        rw [set_at (by rw [R.len]; exact l2)] at q4; cases q4
        rw [set_off z1] at q3
        exact h4 (.inl ⟨j, es, q1, q3⟩)
      · rw [set_off z1] at q3; rw [set_off z2] at q4; exact R.sep j l es fs t q1 q2 q3 q4
  · rcases set_get q with ⟨z, q, l⟩ | ⟨z, q⟩
    · cases q
    · rw [set_off z]; exact R.dk j q
  · obtain ⟨k1, k2, k3⟩ := R.dok t fp q
    refine ⟨k1, k2, fun a ha j es e => ?_⟩
    rcases set_get e with ⟨z, _, l⟩ | ⟨z, e⟩
    · subst z
      rw [set_at (by rw [R.len]; exact l)]
      intro w
      cases w
      exact h4 (.inr ⟨t, fp, q, ha⟩)
    · rw [set_off z]; exact k3 a ha j es e
  · rcases set_get q with ⟨z, q, l⟩ | ⟨z, q⟩
    · cases q
    · rw [set_off z]; exact R.sc j ns q
/-- an answer is stored at a slot -/
theorem Rel.put {M : Addr → Prop} {Hs Bs : Hp} {r : Rt} {i : Nat} (R : Rel Z δ σ H B ρ) (S : Stp M (MM σ ρ δ) Hs Bs H B) (q : RR M Hs H B (MM σ ρ δ) v r) :
    Rel Z δ (σ.set i (some v)) H B (ρ.set i r.en) ∧ Stp M (MM (σ.set i (some v)) (ρ.set i r.en) δ) Hs Bs H B := by
  cases r with
  | va d => exact ⟨R.setVa q, S.bb, S.hh, S.nw, fun a m => S.mm a (MM.setVa (by intro _ z; cases z) m), S.tr⟩
  | ow ds =>
    obtain ⟨p, vs, rfl, h1, h2, h3, h4, h5⟩ := q
    refine ⟨R.setOw h2 h4 h5 h3, S.bb, S.hh, S.nw, fun a m => ?_, S.tr⟩
    rcases m with ⟨j, es, e1, e2⟩ | m
    · rcases set_get e1 with ⟨z, _, l⟩ | ⟨z, e1⟩
      · subst z
        rw [show (σ.set i (some (V.ref p)))[i]? = some (some (V.ref p)) from set_at (by rw [R.len]; exact l)] at e2
        cases e2
        exact h1.symm
      · exact S.mm a (.inl ⟨j, es, e1, by rw [set_off z] at e2; exact e2⟩)
    · exact S.mm a (.inr m)
/-- an own list at a slot is given away: it stays as it is from now on -/
theorem Rel.give (R : Rel Z δ σ H B ρ) {i : Nat} {ds : List D} (e : ρ[i]? = some (.ow ds)) : ∃ p B', σ[i]? = some (some (.ref p)) ∧ Rel Z δ σ H B' (ρ.set i (.va (.list ds))) ∧
    Stp (MM σ ρ δ) (MM σ (ρ.set i (.va (.list ds))) δ) H B H B' ∧ DV B' (.ref p) (.list ds) := by
  obtain ⟨p, vs, h1, h2, h3, h4⟩ := R.ow i ds e
  have lt : i < ρ.length := (List.getElem?_eq_some_iff.mp e).1
  have hb : Sub B (upd B p (.lst vs)) := sub_upd h2
  have es : σ.set i (some (.ref p)) = σ := by
    obtain ⟨hl, he⟩ := List.getElem?_eq_some_iff.mp h1
    rw [← he]; exact List.set_getElem_self hl
  have dv : DV (upd B p (.lst vs)) (.ref p) (.list ds) := .lst upd_same (h4.mono hb)
  have R0 : Rel Z δ σ H B (ρ.set i .un) := by have q := R.setUn (i := i) (x := some (.ref p)); rw [es] at q; exact q
  have np : ¬ MM σ (ρ.set i .un) δ p := fun m => by
    rcases m with ⟨j, fs, e1, e2⟩ | ⟨t, fp, q, ha⟩
    · rcases set_get e1 with ⟨_, z, _⟩ | ⟨z, e1⟩
      · cases z
      · exact z (R.sep i j ds fs p e e1 h1 e2)
    · exact (R.dok t fp q).2.2 p ha i ds e h1
  have R1 : Rel Z δ σ H (upd B p (.lst vs)) (ρ.set i .un) := by
    refine ⟨R0.len, fun a u q => ?_, fun j d q => ?_, fun j fs q => ?_, R0.sep, R0.dk, fun t fp q => ?_, fun j ns q => ?_, R.sm.mono hb⟩
    · by_cases z : a = p
      · subst z; rw [upd_same] at q; cases q; exact h3
      · rw [upd_ne z] at q; exact R.sub a u q
    · obtain ⟨v, k1, k2⟩ := R0.va j d q
      exact ⟨v, k1, k2.mono hb⟩
    · obtain ⟨t, ws, k1, k2, k3, k4⟩ := R0.ow j fs q
      refine ⟨t, ws, k1, ?_, k3, k4.mono hb⟩
      rw [upd_ne fun z => np (.inl ⟨j, fs, q, by rw [← z]; exact k1⟩)]; exact k2
    · obtain ⟨k1, k2, k3⟩ := R0.dok t fp q
      refine ⟨k1, fun a ha => ⟨?_, (k2 a ha).2⟩, k3⟩
      rw [upd_ne fun z => np (.inr ⟨t, fp, q, by rw [← z]; exact ha⟩)]; exact (k2 a ha).1
    · obtain ⟨a, k1, k2⟩ := R0.sc j ns q
      refine ⟨a, k1, ?_⟩
      rcases k2 with (k2 | ⟨o, k2⟩) | k2
      · exact .inl (.inl (hb _ _ k2))
      · exact .inl (.inr ⟨o, hb _ _ k2⟩)
      · exact .inr k2
  have R2 := R1.setVa (i := i) dv
  rw [es, List.set_set] at R2
  refine ⟨p, _, h1, R2, ⟨hb, fun a o q _ => q, fun a q => ?_, fun a m => ?_, fun _ q => q⟩, dv⟩
  · by_cases z : a = p
    · subst z; exact .inr (.inr (.inl ⟨i, ds, e, h1⟩))
    · rw [upd_ne z] at q; exact .inl q
  · have m' : MM (σ.set i (some (.ref p))) (ρ.set i (.va (.list ds))) δ a := by rw [es]; exact m
    exact .inl (MM.setVa (by intro _ z; cases z) m')
theorem wipe_rel : ∀ (vs : List Nat), Rel Z δ σ H B ρ → Rel Z δ (wipe σ vs) H B (wipeE ρ vs)
  | [], R => R
  | i :: vs, R => (wipe_rel vs R).setUn
theorem wipe_MM {a : Addr} : ∀ (vs : List Nat), MM (wipe σ vs) (wipeE ρ vs) δ a → MM σ ρ δ a
  | [], m => m
  | i :: vs, m => wipe_MM vs (MM.setVa (by intro _ z; cases z) m)
end

section
variable {X : Cx} {Z : Zd} {pos : Pos}
theorem px_var (i : Nat) {x : Str} (hN : X.N[i]? = some x := by rfl) (hv : Vis X.env.scope x := by first | exact Or.inl rfl | exact Or.inr (Or.inl rfl) | exact Or.inr (Or.inr rfl)) (hd : (x == ("__debug__" : Str)) = false := by decide)
    (hcd : (x == ("__classdict__" : Str)) = false := by decide) : PX X Z (.Name x pos) (xVar i) := by
  refine ⟨fun ρ k k' hk h => ?_, pe_imp (pe_var hN hv hd hcd) fun σ H Q h => ?_⟩
  · unfold xVar at h ⊢
    split at h
    · exact hk _ _ h
    · exact hk _ _ h
    · exact h
  · obtain ⟨δ, B, ρ, R, h⟩ := h
    unfold xVar at h
    split at h
    · rename_i d e
      obtain ⟨v, h1, h2⟩ := R.va i d e
      exact ⟨v, h1, h v H B R Stp.refl h2⟩
    · rename_i ds e
      obtain ⟨p, B', h1, R', S', dv⟩ := R.give e
      exact ⟨_, h1, h _ H B' R' S' dv⟩
    · exact h.elim
/-- the same name, its own list handed on as one's own -/
theorem px_own (i : Nat) {x : Str} (hN : X.N[i]? = some x := by rfl) (hv : Vis X.env.scope x := by first | exact Or.inl rfl | exact Or.inr (Or.inl rfl) | exact Or.inr (Or.inr rfl)) (hd : (x == ("__debug__" : Str)) = false := by decide)
    (hcd : (x == ("__classdict__" : Str)) = false := by decide) : PX X Z (.Name x pos) (xVar i) := px_var i hN hv hd hcd
theorem px_c {e : Expr} {d : D} {v : V} (he : PE X e (tC v)) (hd : ∀ B, DV B v d) : PX X Z e (xC d) :=
  ⟨fun _ _ _ hk h => hk _ _ h, pe_imp he fun σ H Q ⟨δ, B, ρ, R, h⟩ => h v H B R Stp.refl (hd B)⟩
theorem px_int {i j} : PX X Z (.Constant (.int i) j pos) (xC (.int i)) := px_c pe_int fun _ => .int i
theorem px_bl {b j} : PX X Z (.Constant (.bool b) j pos) (xC (.bool b)) := px_c pe_bl fun _ => .bl b
theorem px_non {j} : PX X Z (.Constant .none j pos) (xC .none) := px_c pe_non fun _ => .non
theorem px_str {x j} : PX X Z (.Constant (.str x) j pos) (xC (.str x)) := px_c pe_str fun _ => .str x
/-- a constant of the module: an int -/
theorem px_gInt {x : Str} {i : Int} {t : Tok} (hg : Gl X x) (hm : X.mg x = some (.int i t)) (hd : (x == ("__debug__" : Str)) = false := by decide) : PX X Z (.Name x pos) (xC (.int i)) :=
  px_c (v := .int i) (pe_glob hg hm ⟨t, rfl⟩ hd) fun _ => .int i

/-- behind a step that makes one thing at most -/
theorem made {δ : Dk} {σ : L2.St} {H B H' B' : Hp} {ρ : Ev} {v : V} {q : Rt} (R : Rel Z δ σ H B ρ)
    (c : (H' = H ∧ B' = B) ∨ (∃ p o, H p = none ∧ H' = upd H p o ∧ (B' = B ∨ B' = upd B p o)))
    (d : match q with | .va z => DV B' v z | .ow zs => ∃ p vs, v = .ref p ∧ H p = none ∧ B' = B ∧ H' = upd H p (.lst vs) ∧ DVs B vs zs) :
    Rel Z δ σ H' B' ρ ∧ Stp (MM σ ρ δ) (MM σ ρ δ) H B H' B' ∧ RR (MM σ ρ δ) H H' B' (MM σ ρ δ) v q := by
  have fin : RR (MM σ ρ δ) H H' B' (MM σ ρ δ) v q := by
    cases q with
    | va z => exact d
    | ow zs =>
      obtain ⟨p, vs, h1, h2, h3, h4, h5⟩ := d
      subst h3 h4
      exact ⟨p, vs, h1, .inl h2, R.free h2, fun m => (MM.tracked R m).1 h2, upd_same, h5⟩
  rcases c with ⟨rfl, rfl⟩ | ⟨p, o, h1, rfl, rfl | rfl⟩
  · exact ⟨R, Stp.refl, fin⟩
  · exact ⟨R.own h1, Stp.own R h1, fin⟩
  · exact ⟨R.new h1, Stp.new R h1, fin⟩
theorem RR.back {M M' Ms : Addr → Prop} {Hs Bs H B H' B' : Hp} {v : V} {q : Rt} (S : Stp M Ms Hs Bs H B) (h : RR Ms H H' B' M' v q) : RR M Hs H' B' M' v q := by
  cases q with
  | va z => exact h
  | ow zs =>
    obtain ⟨p, vs, h1, h2, h3⟩ := h
    exact ⟨p, vs, h1, h2.elim (fun z => .inl (S.tr p z)) fun z => (S.mm p z).symm, h3⟩
end
end DL

namespace DL
open PySem L2

/-- what a step has made: nothing new, a thing that stays, a list of one's own -/
def Made (H B H' B' : Hp) (v : V) (q : Rt) : Prop :=
  ((H' = H ∧ B' = B) ∨ (∃ p o, H p = none ∧ H' = upd H p o ∧ (B' = B ∨ B' = upd B p o))) ∧
  match q with
  | .va z => DV B' v z
  | .ow zs => ∃ p vs, v = .ref p ∧ H p = none ∧ B' = B ∧ H' = upd H p (.lst vs) ∧ DVs B vs zs
theorem Made.same {H B : Hp} {v : V} {d : D} (h : DV B v d) : Made H B H B v (.va d) := ⟨.inl ⟨rfl, rfl⟩, h⟩
theorem Made.tup {H B : Hp} {p : Addr} {vs : List V} {ds : List D} (hs : Sub B H) (hp : H p = none) (h : DVs B vs ds) : Made H B (upd H p (.tup vs)) (upd B p (.tup vs)) (.ref p) (.va (.tuple ds)) := by
  have hb : B p = none := by
    cases e : B p with
    | none => rfl
    | some o => rw [hs p o e] at hp; cases hp
  exact ⟨.inr ⟨p, _, hp, rfl, .inr rfl⟩, .tup upd_same (h.mono (sub_upd hb))⟩
theorem Made.own {H B : Hp} {p : Addr} {vs : List V} {ds : List D} (hp : H p = none) (h : DVs B vs ds) : Made H B (upd H p (.lst vs)) B (.ref p) (.ow ds) :=
  ⟨.inr ⟨p, _, hp, rfl, .inl rfl⟩, p, vs, rfl, hp, rfl, rfl, h⟩
section
variable {X : Cx} {Z : Zd} {pos : Pos}
theorem Made.fin {δ : Dk} {σ : L2.St} {H B H' B' : Hp} {ρ : Ev} {v : V} {q : Rt} (m : Made H B H' B' v q) (R : Rel Z δ σ H B ρ) :
    Rel Z δ σ H' B' ρ ∧ Stp (MM σ ρ δ) (MM σ ρ δ) H B H' B' ∧ RR (MM σ ρ δ) H H' B' (MM σ ρ δ) v q := made R m.1 m.2
/-- what two values give, told by data -/
def Op2 (X : Cx) (f : D → D → (Rt → Prop) → Prop) (g : Value → Value → Sem Value) : Prop := ∃ r : R2, OpR X g r ∧
  ∀ (x y : V) (d e : D) (H B : Hp) (Q : VK) (k : Rt → Prop), Sub B H → DV B x d → DV B y e → f d e k → (∀ q v H' B', k q → Made H B H' B' v q → Q v H') → r x y H Q
def Op1 (X : Cx) (f : D → (Rt → Prop) → Prop) (g : Value → Sem Value) : Prop := ∃ r : V → Hp → VK → Prop, UnR X g r ∧
  ∀ (x : V) (d : D) (H B : Hp) (Q : VK) (k : Rt → Prop), Sub B H → DV B x d → f d k → (∀ q v H' B', k q → Made H B H' B' v q → Q v H') → r x H Q
def Fn1 (X : Cx) (f : List D → (Rt → Prop) → Prop) (g : Value) : Prop := ∃ r : List V → Hp → VK → Prop, CallR X g r ∧
  ∀ (xs : List V) (ds : List D) (H B : Hp) (Q : VK) (k : Rt → Prop), Sub B H → DVs B xs ds → f ds k → (∀ q v H' B', k q → Made H B H' B' v q → Q v H') → r xs H Q
def MonoO (f : D → D → (Rt → Prop) → Prop) : Prop := ∀ d e (k k' : Rt → Prop), (∀ r, k r → k' r) → f d e k → f d e k'
def MonoU (f : D → (Rt → Prop) → Prop) : Prop := ∀ d (k k' : Rt → Prop), (∀ r, k r → k' r) → f d k → f d k'
def MonoF (f : List D → (Rt → Prop) → Prop) : Prop := ∀ d (k k' : Rt → Prop), (∀ r, k r → k' r) → f d k → f d k'
theorem monoBin {f : D → D → (Rt → Prop) → Prop} {a b : XT} (hf : MonoO f) (ha : MonoX a) (hb : MonoX b) : MonoX (xBin f a b) :=
  fun ρ k k' hk h => ha ρ _ _ (fun r ρ1 h1 => hb ρ1 _ _ (fun q ρ2 h2 => hf _ _ _ _ (fun z h3 => hk _ _ h3) h2) h1) h
/-- the reading of two operands and what is done to them -/
theorem LX.bin {f : D → D → (Rt → Prop) → Prop} {a b : XT} {r : R2} (ha : MonoX a) (hb : MonoX b)
    (hr : ∀ (x y : V) (d e : D) (H B : Hp) (Q : VK) (k : Rt → Prop), Sub B H → DV B x d → DV B y e → f d e k → (∀ q v H' B', k q → Made H B H' B' v q → Q v H') → r x y H Q)
    {σ : L2.St} {H : Hp} {Q : VK} (h : LX Z (xBin f a b) σ H Q) : tOp r (LX Z a) (LX Z b) σ H Q := by
  obtain ⟨δ, B, ρ, R, h⟩ := h
  refine ⟨δ, B, ρ, R, ha ρ _ _ (fun x ρ1 h1 v1 H1 B1 R1 S1 q1 => ?_) h⟩
  obtain ⟨C1, R1', S1', d1⟩ := freeze R1 S1 q1
  refine ⟨δ, C1, ρ1, R1', hb ρ1 _ _ (fun y ρ2 h2 v2 H2 B2 R2 S2 q2 => ?_) h1⟩
  obtain ⟨C2, R2', S2', d2⟩ := freeze R2 S2 q2
  refine hr v1 v2 x.d y.d H2 C2 Q _ R2'.sub (d1.mono S2'.bb) d2 h2 fun q v H' B' hq m => ?_
  obtain ⟨R3, S3, q3⟩ := m.fin R2'
  exact hq v H' B' R3 ((S1'.trans S2').trans S3) (RR.back (S1'.trans S2') q3)
theorem px_bin {f : D → D → (Rt → Prop) → Prop} {op : Operator} {a b : Expr} {wa wb : XT} (ho : Op2 X f (binaryOp op)) (hf : MonoO f) (ha : PX X Z a wa) (hb : PX X Z b wb) : PX X Z (.BinOp a op b pos) (xBin f wa wb) := by
  obtain ⟨r, h1, h2⟩ := ho
  exact ⟨monoBin hf ha.mono hb.mono, pe_imp (pe_op h1 ha.pe hb.pe) fun σ H Q h => LX.bin ha.mono hb.mono h2 h⟩
theorem px_cmp {f : D → D → (Rt → Prop) → Prop} {op : CmpOp} {a b : Expr} {wa wb : XT} (ho : Op2 X f (compareOp op)) (hf : MonoO f) (ha : PX X Z a wa) (hb : PX X Z b wb) (hm : behindInMarks op b = false := by first | exact nobehind _ (by decide) (by decide) | rfl) :
    PX X Z (.Compare a [op] [b] pos) (xBin f wa wb) := by
  obtain ⟨r, h1, h2⟩ := ho
  exact ⟨monoBin hf ha.mono hb.mono, pe_imp (pe_cmpR h1 ha.pe hb.pe hm) fun σ H Q h => LX.bin ha.mono hb.mono h2 h⟩
theorem monoUn {f : D → (Rt → Prop) → Prop} {a : XT} (hf : MonoU f) (ha : MonoX a) : MonoX (xUn f a) :=
  fun ρ k k' hk h => ha ρ _ _ (fun r ρ1 h1 => hf _ _ _ (fun z h3 => hk _ _ h3) h1) h
theorem px_un {f : D → (Rt → Prop) → Prop} {op : UnaryOp} {a : Expr} {wa : XT} (ho : Op1 X f (unaryOp op)) (hf : MonoU f) (ha : PX X Z a wa) : PX X Z (.UnaryOp op a pos) (xUn f wa) := by
  obtain ⟨r, h1, h2⟩ := ho
  refine ⟨monoUn hf ha.mono, pe_imp (pe_un h1 ha.pe) fun σ H Q h => ?_⟩
  obtain ⟨δ, B, ρ, R, h⟩ := h
  refine ⟨δ, B, ρ, R, ha.mono ρ _ _ (fun x ρ1 h1 v1 H1 B1 R1 S1 q1 => ?_) h⟩
  obtain ⟨C1, R1', S1', d1⟩ := freeze R1 S1 q1
  refine h2 v1 x.d H1 C1 Q _ R1'.sub d1 h1 fun q v H' B' hq m => ?_
  obtain ⟨R3, S3, q3⟩ := m.fin R1'
  exact hq v H' B' R3 (S1'.trans S3) (RR.back S1' q3)

theorem qa_nil : QA X Z [] aNil := ⟨fun _ _ _ hk h => hk _ _ h, pa_imp pa_nil fun σ H Q ⟨δ, B, ρ, R, h⟩ => h [] H B R Stp.refl .nil⟩
theorem qa_cons {e : Expr} {es : List Expr} {w : XT} {a : AT} (he : PX X Z e w) (ha : QA X Z es a) (hs : starEach (e :: es) X.env = (false, eval e X.env) :: starEach es X.env := by rfl) : QA X Z (e :: es) (aCons w a) := by
  refine ⟨fun ρ k k' hk h => he.mono ρ _ _ (fun r ρ1 h1 => ha.mono ρ1 _ _ (fun ds ρ2 h2 => hk _ _ h2) h1) h, pa_imp (pa_cons he.pe ha.pa hs) fun σ H Q h => ?_⟩
  obtain ⟨δ, B, ρ, R, h⟩ := h
  refine ⟨δ, B, ρ, R, he.mono ρ _ _ (fun x ρ1 h1 v1 H1 B1 R1 S1 q1 => ?_) h⟩
  obtain ⟨C1, R1', S1', d1⟩ := freeze R1 S1 q1
  refine ⟨δ, C1, ρ1, R1', ha.mono ρ1 _ _ (fun ds ρ2 h2 vs H2 B2 R2 S2 q2 => ?_) h1⟩
  exact h2 (v1 :: vs) H2 B2 R2 (S1'.trans S2) (.cons (d1.mono S2.bb) q2)
theorem qc_nil : QC X Z [] cNil := ⟨fun _ _ _ hk h => hk _ _ h, pa_imp pa_nil fun σ H Q ⟨δ, B, ρ, R, h⟩ => h [] H B R Stp.refl .nil⟩
theorem ArV.mono {B C : Hp} {δ : Dk} (hB : Sub B C) {v : V} {a : Ar} (h : ArV B δ v a) : ArV C δ v a := by
  cases h with
  | va h => exact .va (h.mono hB)
  | dk h => exact .dk h
theorem ArVs.mono {B C : Hp} {δ : Dk} (hB : Sub B C) : ∀ {vs : List V} {as : List Ar}, ArVs B δ vs as → ArVs C δ vs as
  | _, _, .nil => .nil
  | _, _, .cons h hs => .cons (h.mono hB) (ArVs.mono hB hs)
theorem qc_va {e : Expr} {es : List Expr} {w : XT} {a : CT} (he : PX X Z e w) (ha : QC X Z es a) (hs : starEach (e :: es) X.env = (false, eval e X.env) :: starEach es X.env := by rfl) : QC X Z (e :: es) (cVa w a) := by
  refine ⟨fun ρ k k' hk h => he.mono ρ _ _ (fun r ρ1 h1 => ha.mono ρ1 _ _ (fun ds ρ2 h2 => hk _ _ h2) h1) h, pa_imp (pa_cons he.pe ha.pa hs) fun σ H Q h => ?_⟩
  obtain ⟨δ, B, ρ, R, h⟩ := h
  refine ⟨δ, B, ρ, R, he.mono ρ _ _ (fun x ρ1 h1 v1 H1 B1 R1 S1 q1 => ?_) h⟩
  obtain ⟨C1, R1', S1', d1⟩ := freeze R1 S1 q1
  refine ⟨δ, C1, ρ1, R1', ha.mono ρ1 _ _ (fun ds ρ2 h2 vs H2 B2 R2 S2 q2 => ?_) h1⟩
  exact h2 (v1 :: vs) H2 B2 R2 (S1'.trans S2) (.cons (.va (d1.mono S2.bb)) q2)
theorem qc_dk (i : Nat) {x : Str} {p : Pos} {es : List Expr} {a : CT} (ha : QC X Z es a) (hN : X.N[i]? = some x := by rfl) (hv : Vis X.env.scope x := by first | exact Or.inl rfl | exact Or.inr (Or.inl rfl) | exact Or.inr (Or.inr rfl))
    (hs : starEach (.Name x p :: es) X.env = (false, eval (.Name x p) X.env) :: starEach es X.env := by rfl) (hd : (x == ("__debug__" : Str)) = false := by decide) (hcd : (x == ("__classdict__" : Str)) = false := by decide) : QC X Z (.Name x p :: es) (cDk i a) := by
  refine ⟨fun ρ k k' hk h => ⟨h.1, ha.mono ρ _ _ (fun ds ρ2 h2 => hk _ _ h2) h.2⟩, pa_imp (pa_cons (pe_var hN hv hd hcd) ha.pa hs) fun σ H Q h => ?_⟩
  obtain ⟨δ, B, ρ, R, e, h⟩ := h
  obtain ⟨q, fp, e1, e2⟩ := R.dk i e
  refine ⟨_, e2, δ, B, ρ, R, ha.mono ρ _ _ (fun ds ρ2 h2 vs H2 B2 R2 S2 q2 => ?_) h⟩
  exact h2 _ H2 B2 R2 S2 (.cons (.dk e1) q2)

theorem big_le {n : Nat} (h : n ≤ 1000000) : n ≤ sizeLine := Nat.le_trans h (by decide)
theorem px_tup {es : List Expr} {x1} {a : AT} (ha : QA X Z es a) : PX X Z (.Tuple es x1 pos) (xTup a) := by
  refine ⟨fun ρ k k' hk h => ha.mono ρ _ _ (fun ds ρ1 h1 => ⟨h1.1, hk _ _ h1.2⟩) h, pe_imp (pe_tup ha.pa) fun σ H Q h => ?_⟩
  obtain ⟨δ, B, ρ, R, h⟩ := h
  refine ⟨δ, B, ρ, R, ha.mono ρ _ _ (fun ds ρ1 h1 vs H1 B1 R1 S1 q1 => ⟨by rw [q1.length]; exact big_le h1.1, fun p hp => ?_⟩) h⟩
  obtain ⟨R3, S3, q3⟩ := (Made.tup R1.sub hp q1).fin R1
  exact h1.2 _ _ _ R3 (S1.trans S3) (RR.back S1 q3)
theorem px_lst {es : List Expr} {a : AT} (ha : QA X Z es a) : PX X Z (.List es pos) (xLst a) := by
  refine ⟨fun ρ k k' hk h => ha.mono ρ _ _ (fun ds ρ1 h1 => ⟨h1.1, hk _ _ h1.2⟩) h, pe_imp (pe_lst ha.pa) fun σ H Q h => ?_⟩
  obtain ⟨δ, B, ρ, R, h⟩ := h
  refine ⟨δ, B, ρ, R, ha.mono ρ _ _ (fun ds ρ1 h1 vs H1 B1 R1 S1 q1 => ⟨by rw [q1.length]; exact big_le h1.1, fun p hp => ?_⟩) h⟩
  obtain ⟨R3, S3, q3⟩ := (Made.own hp q1).fin R1
  exact h1.2 _ _ _ R3 (S1.trans S3) (RR.back S1 q3)

theorem monoCall {f : List D → (Rt → Prop) → Prop} {a : AT} (hf : MonoF f) (ha : MonoA a) : MonoX (xCall f a) :=
  fun ρ k k' hk h => ha ρ _ _ (fun r ρ1 h1 => hf _ _ _ (fun z h3 => hk _ _ h3) h1) h
theorem LX.call {f : List D → (Rt → Prop) → Prop} {a : AT} {r : List V → Hp → VK → Prop} (ha : MonoA a)
    (hr : ∀ (xs : List V) (ds : List D) (H B : Hp) (Q : VK) (k : Rt → Prop), Sub B H → DVs B xs ds → f ds k → (∀ q v H' B', k q → Made H B H' B' v q → Q v H') → r xs H Q)
    {σ : L2.St} {H : Hp} {Q : VK} (h : LX Z (xCall f a) σ H Q) : tCB r (LA Z a) σ H Q := by
  obtain ⟨δ, B, ρ, R, h⟩ := h
  refine ⟨δ, B, ρ, R, ha ρ _ _ (fun ds ρ1 h1 vs H1 B1 R1 S1 q1 => ?_) h⟩
  refine hr vs ds H1 B1 Q _ R1.sub q1 h1 fun q v H' B' hq m => ?_
  obtain ⟨R3, S3, q3⟩ := m.fin R1
  exact hq v H' B' R3 (S1.trans S3) (RR.back S1 q3)
theorem px_callB {f : List D → (Rt → Prop) → Prop} {id : String} {x : Str} {p : Pos} {e : Expr} {es : List Expr} {a : AT} (hc : Fn1 X f (.builtin id)) (hf : MonoF f) (hg : Gl X x) (hm : X.mg x = none) (hv : bootBuiltins x = some (.builtin id)) (ha : QA X Z (e :: es) a)
    (hn : x ≠ "__name__" := by decide) (hdb : (x == ("__debug__" : Str)) = false := by decide) (he : starEach (e :: es) X.env = (false, eval e X.env) :: starEach es X.env := by rfl) (hpl : (backTo pos (starEach es X.env)).any (·.1) = false := by rfl) :
    PX X Z (.Call (.Name x p) (e :: es) [] pos) (xCall f a) := by
  obtain ⟨r, h1, h2⟩ := hc
  exact ⟨monoCall hf ha.mono, pe_imp (pe_callB h1 hg hm hv ha.pa hn hdb he hpl) fun σ H Q h => LX.call ha.mono h2 h⟩
theorem px_callT {f : List D → (Rt → Prop) → Prop} {T : String} {x : Str} {p : Pos} {e : Expr} {es : List Expr} {a : AT} (hc : Fn1 X f (.type T)) (hf : MonoF f) (hg : Gl X x) (hm : X.mg x = none) (hv : bootBuiltins x = some (.type T)) (ha : QA X Z (e :: es) a)
    (hn : x ≠ "__name__" := by decide) (hdb : (x == ("__debug__" : Str)) = false := by decide) (he : starEach (e :: es) X.env = (false, eval e X.env) :: starEach es X.env := by rfl) (hpl : (backTo pos (starEach es X.env)).any (·.1) = false := by rfl) :
    PX X Z (.Call (.Name x p) (e :: es) [] pos) (xCall f a) := by
  obtain ⟨r, h1, h2⟩ := hc
  exact ⟨monoCall hf ha.mono, pe_imp (pe_callTy h1 hg hm hv ha.pa hn hdb he hpl) fun σ H Q h => LX.call ha.mono h2 h⟩

theorem pb_x {e : Expr} {w : XT} (he : PX X Z e w) (hw : ∀ whole, isTrue e X.env whole = (do let v ← whole; standAt e.pos; holding [v] (truthy v)) := by intro _; rfl) : PB X Z e (bX w) := by
  refine ⟨fun ρ k k' hk h => he.mono ρ _ _ (fun r ρ1 ⟨c, h1, h2⟩ => ⟨c, h1, hk _ _ h2⟩) h, pt_imp (pt_val he.pe hw) fun σ H Q h => ?_⟩
  obtain ⟨δ, B, ρ, R, h⟩ := h
  refine ⟨δ, B, ρ, R, he.mono ρ _ _ (fun x ρ1 h1 v1 H1 B1 R1 S1 q1 => ?_) h⟩
  obtain ⟨c, e1, h1⟩ := h1
  obtain ⟨C1, R1', S1', d1⟩ := freeze R1 S1 q1
  rw [e1] at d1
  exact ⟨c, d1.bool_inv, h1 H1 C1 R1' S1'⟩
theorem pb_not {e : Expr} {w : BT} (he : PB X Z e w) : PB X Z (.UnaryOp .Not e pos) (bNot w) := by
  refine ⟨fun ρ k k' hk h => he.mono ρ _ _ (fun r ρ1 h1 => hk _ _ h1) h, pt_imp (pt_not he.pt) fun σ H Q h => ?_⟩
  obtain ⟨δ, B, ρ, R, h⟩ := h
  exact ⟨δ, B, ρ, R, h⟩
structure PBw (X : Cx) (Z : Zd) (e : Expr) (w : BT) : Prop where
  mono : MonoB w
  pw : PW X e (LB Z w)
theorem PBw.pb {e : Expr} {w : BT} (h : PBw X Z e w) : PB X Z e w := ⟨h.mono, h.pw.pt⟩
theorem pb_and1 {e : Expr} {w : BT} (he : PB X Z e w) : PBw X Z (.BoolOp .And [e] pos) w := ⟨he.mono, pw_and1 he.pt⟩
theorem pb_or1 {e : Expr} {w : BT} (he : PB X Z e w) : PBw X Z (.BoolOp .Or [e] pos) w := ⟨he.mono, pw_or1 he.pt⟩
theorem pb_and {a b : Expr} {rest : List Expr} {wa wb : BT} (ha : PB X Z a wa) (hb : PBw X Z (.BoolOp .And (b :: rest) pos) wb) : PBw X Z (.BoolOp .And (a :: b :: rest) pos) (bAnd wa wb) := by
  refine ⟨fun ρ k k' hk h => ha.mono ρ _ _ (fun r ρ1 h1 => ?_) h, pw_imp (pw_and ha.pt hb.pw) fun σ H Q h => ?_⟩
  · cases r with
    | true => exact hb.mono ρ1 _ _ hk h1
    | false => exact hk _ _ h1
  · obtain ⟨δ, B, ρ, R, h⟩ := h
    refine ⟨δ, B, ρ, R, ha.mono ρ _ _ (fun c ρ1 h1 H1 B1 R1 S1 => ?_) h⟩
    cases c with
    | true => exact ⟨δ, B1, ρ1, R1, hb.mono ρ1 _ _ (fun c2 ρ2 h2 H2 B2 R2 S2 => h2 H2 B2 R2 (S1.trans S2)) h1⟩
    | false => exact h1 H1 B1 R1 S1
theorem pb_or {a b : Expr} {rest : List Expr} {wa wb : BT} (ha : PB X Z a wa) (hb : PBw X Z (.BoolOp .Or (b :: rest) pos) wb) : PBw X Z (.BoolOp .Or (a :: b :: rest) pos) (bOr wa wb) := by
  refine ⟨fun ρ k k' hk h => ha.mono ρ _ _ (fun r ρ1 h1 => ?_) h, pw_imp (pw_or ha.pt hb.pw) fun σ H Q h => ?_⟩
  · cases r with
    | true => exact hk _ _ h1
    | false => exact hb.mono ρ1 _ _ hk h1
  · obtain ⟨δ, B, ρ, R, h⟩ := h
    refine ⟨δ, B, ρ, R, ha.mono ρ _ _ (fun c ρ1 h1 H1 B1 R1 S1 => ?_) h⟩
    cases c with
    | true => exact h1 H1 B1 R1 S1
    | false => exact ⟨δ, B1, ρ1, R1, hb.mono ρ1 _ _ (fun c2 ρ2 h2 H2 B2 R2 S2 => h2 H2 B2 R2 (S1.trans S2)) h1⟩
/-- a comparison as a test -/
theorem pb_cmp {f : D → D → (Rt → Prop) → Prop} {op : CmpOp} {a b : Expr} {wa wb : XT} (ho : Op2 X f (compareOp op)) (hf : MonoO f) (ha : PX X Z a wa) (hb : PX X Z b wb) (hm : behindInMarks op b = false := by first | exact nobehind _ (by decide) (by decide) | rfl) :
    PB X Z (.Compare a [op] [b] pos) (bX (xBin f wa wb)) := by
  obtain ⟨r, h1, h2⟩ := ho
  have mono := monoBin hf ha.mono hb.mono
  refine ⟨fun ρ k k' hk h => mono ρ _ _ (fun r ρ1 ⟨c, h1, h2⟩ => ⟨c, h1, hk _ _ h2⟩) h, pt_imp (pt_cmpR h1 ha.pe hb.pe hm) fun σ H Q h => ?_⟩
  refine LX.bin ha.mono hb.mono h2 ?_
  obtain ⟨δ, B, ρ, R, h⟩ := h
  refine ⟨δ, B, ρ, R, mono ρ _ _ (fun x ρ1 h1 v1 H1 B1 R1 S1 q1 => ?_) h⟩
  obtain ⟨c, e1, h1⟩ := h1
  obtain ⟨C1, R1', S1', d1⟩ := freeze R1 S1 q1
  rw [e1] at d1
  exact ⟨c, d1.bool_inv, h1 H1 C1 R1' S1'⟩

theorem px_and1 {e : Expr} {w : XT} (he : PX X Z e w) : PX X Z (.BoolOp .And [e] pos) w := ⟨he.mono, pe_one he.pe⟩
end
end DL

namespace DL
open PySem L2
section
variable {X : Cx} {Z : Zd} {pos : Pos}

theorem px_and {a b : Expr} {rest : List Expr} {wa wb : XT} (ha : PX X Z a wa) (hb : PX X Z (.BoolOp .And (b :: rest) pos) wb) : PX X Z (.BoolOp .And (a :: b :: rest) pos) (xAnd wa wb) := by
  refine ⟨fun ρ k k' hk h => ha.mono ρ _ _ (fun r ρ1 q => ?_) h, pe_imp (pe_and ha.pe hb.pe) fun σ H Q h => ?_⟩
  · obtain ⟨c, h1, h2⟩ := q
    refine ⟨c, h1, ?_⟩
    cases c with
    | true => exact hb.mono ρ1 _ _ hk h2
    | false => exact hk _ _ h2
  · obtain ⟨δ, B, ρ, R, h⟩ := h
    refine ⟨δ, B, ρ, R, ha.mono ρ _ _ (fun x ρ1 w1 v1 H1 B1 R1 S1 q1 => ?_) h⟩
    obtain ⟨c, e1, h1⟩ := w1
    obtain ⟨C1, R1', S1', d1⟩ := freeze R1 S1 q1
    rw [e1] at d1
    refine ⟨c, d1.bool_inv, ?_⟩
    cases c with
    | true => exact ⟨δ, C1, ρ1, R1', hb.mono ρ1 _ _ (fun y ρ2 h2 v2 H2 B2 R2 S2 q2 => h2 v2 H2 B2 R2 (S1'.trans S2) (RR.back S1' q2)) h1⟩
    | false => exact h1 _ H1 C1 R1' S1' (.bl false)
theorem px_or {a b : Expr} {rest : List Expr} {wa wb : XT} (ha : PX X Z a wa) (hb : PX X Z (.BoolOp .Or (b :: rest) pos) wb) : PX X Z (.BoolOp .Or (a :: b :: rest) pos) (xOr wa wb) := by
  refine ⟨fun ρ k k' hk h => ha.mono ρ _ _ (fun r ρ1 q => ?_) h, pe_imp (pe_or ha.pe hb.pe) fun σ H Q h => ?_⟩
  · obtain ⟨c, h1, h2⟩ := q
    refine ⟨c, h1, ?_⟩
    cases c with
    | true => exact hk _ _ h2
    | false => exact hb.mono ρ1 _ _ hk h2
  · obtain ⟨δ, B, ρ, R, h⟩ := h
    refine ⟨δ, B, ρ, R, ha.mono ρ _ _ (fun x ρ1 w1 v1 H1 B1 R1 S1 q1 => ?_) h⟩
    obtain ⟨c, e1, h1⟩ := w1
    obtain ⟨C1, R1', S1', d1⟩ := freeze R1 S1 q1
    rw [e1] at d1
    refine ⟨c, d1.bool_inv, ?_⟩
    cases c with
    | true => exact h1 _ H1 C1 R1' S1' (.bl true)
    | false => exact ⟨δ, C1, ρ1, R1', hb.mono ρ1 _ _ (fun y ρ2 h2 v2 H2 B2 R2 S2 q2 => h2 v2 H2 B2 R2 (S1'.trans S2) (RR.back S1' q2)) h1⟩
theorem px_one {op} {e : Expr} {w : XT} (he : PX X Z e w) : PX X Z (.BoolOp op [e] pos) w := ⟨he.mono, pe_one he.pe⟩
theorem px_not {a : Expr} {wa : XT} (ha : PX X Z a wa) : PX X Z (.UnaryOp .Not a pos) (xNot wa) := by
  refine ⟨fun ρ k k' hk h => ha.mono ρ _ _ (fun r ρ1 ⟨c, h1, h2⟩ => ⟨c, h1, hk _ _ h2⟩) h, pe_imp (pe_not ha.pe) fun σ H Q h => ?_⟩
  obtain ⟨δ, B, ρ, R, h⟩ := h
  refine ⟨δ, B, ρ, R, ha.mono ρ _ _ (fun x ρ1 w1 v1 H1 B1 R1 S1 q1 => ?_) h⟩
  obtain ⟨c, e1, h1⟩ := w1
  obtain ⟨C1, R1', S1', d1⟩ := freeze R1 S1 q1
  rw [e1] at d1
  exact ⟨c, d1.bool_inv, h1 _ H1 C1 R1' S1' (.bl _)⟩
theorem px_if {c a b : Expr} {wc : BT} {wa wb : XT} (hc : PB X Z c wc) (ha : PX X Z a wa) (hb : PX X Z b wb) : PX X Z (.IfExp c a b pos) (xIf wc wa wb) := by
  refine ⟨fun ρ k k' hk h => hc.mono ρ _ _ (fun r ρ1 h1 => ?_) h, pe_imp (pe_ifExp hc.pt ha.pe hb.pe) fun σ H Q h => ?_⟩
  · cases r with
    | true => exact ha.mono ρ1 _ _ hk h1
    | false => exact hb.mono ρ1 _ _ hk h1
  · obtain ⟨δ, B, ρ, R, h⟩ := h
    refine ⟨δ, B, ρ, R, hc.mono ρ _ _ (fun c ρ1 h1 H1 B1 R1 S1 => ?_) h⟩
    cases c with
    | true => exact ⟨δ, B1, ρ1, R1, ha.mono ρ1 _ _ (fun y ρ2 h2 v2 H2 B2 R2 S2 q2 => h2 v2 H2 B2 R2 (S1.trans S2) (RR.back S1 q2)) h1⟩
    | false => exact ⟨δ, B1, ρ1, R1, hb.mono ρ1 _ _ (fun y ρ2 h2 v2 H2 B2 R2 S2 q2 => h2 v2 H2 B2 R2 (S1.trans S2) (RR.back S1 q2)) h1⟩
/-- a comparison that makes nothing -/
def OpC (X : Cx) (f : D → D → (Rt → Prop) → Prop) (g : Value → Value → Sem Value) : Prop := ∃ r : R2, OpR X g r ∧
  ∀ (x y : V) (d e : D) (H B : Hp) (Q : VK) (k : Rt → Prop), Sub B H → DV B x d → DV B y e → f d e k → (∀ c, k (.va (.bool c)) → Q (.bl c) H) → r x y H Q
theorem OpC.op2 {f : D → D → (Rt → Prop) → Prop} {g : Value → Value → Sem Value} (h : OpC X f g) : Op2 X f g := by
  obtain ⟨r, h1, h2⟩ := h
  exact ⟨r, h1, fun x y d e H B Q k hs hx hy hf hk => h2 x y d e H B Q k hs hx hy hf fun c hc => hk _ _ _ _ hc (.same (.bl c))⟩
theorem px_chain {f g : D → D → (Rt → Prop) → Prop} {op op' : CmpOp} {a b c : Expr} {wa wb wc : XT} (ho : OpC X f (compareOp op)) (ho' : OpC X g (compareOp op')) (hf : MonoO f) (hg : MonoO g) (ha : PX X Z a wa) (hb : PX X Z b wb) (hc : PX X Z c wc)
    (hm : lastMarks [op, op'] [b, c] = false := by with_unfolding_all rfl) : PX X Z (.Compare a [op, op'] [b, c] pos) (xChain f g wa wb wc) := by
  obtain ⟨r, h1, h2⟩ := ho
  obtain ⟨r', h1', h2'⟩ := ho'
  refine ⟨fun ρ k k' hk h => ha.mono ρ _ _ (fun x ρ1 h1 => hb.mono ρ1 _ _ (fun y ρ2 h2 => hf _ _ _ _ (fun z q => ?_) h2) h1) h, pe_imp (pe_chain h1 h1' ha.pe hb.pe hc.pe hm) fun σ H Q h => ?_⟩
  · obtain ⟨t, e, h3⟩ := q
    refine ⟨t, e, ?_⟩
    cases t with
    | true => exact hc.mono ρ2 _ _ (fun u ρ3 h4 => hg _ _ _ _ (fun z h5 => hk _ _ h5) h4) h3
    | false => exact hk _ _ h3
  · obtain ⟨δ, B, ρ, R, h⟩ := h
    refine ⟨δ, B, ρ, R, ha.mono ρ _ _ (fun x ρ1 k1 v1 H1 B1 R1 S1 q1 => ?_) h⟩
    obtain ⟨C1, R1', S1', d1⟩ := freeze R1 S1 q1
    refine ⟨δ, C1, ρ1, R1', hb.mono ρ1 _ _ (fun y ρ2 k2 v2 H2 B2 R2 S2 q2 => ?_) k1⟩
    obtain ⟨C2, R2', S2', d2⟩ := freeze R2 S2 q2
    have S12 := S1'.trans S2'
    refine h2 v1 v2 x.d y.d H2 C2 _ _ R2'.sub (d1.mono S2'.bb) d2 k2 fun t0 w3 => ?_
    obtain ⟨t, e, k3⟩ := w3
    refine ⟨t0, rfl, ?_⟩
    have et : t0 = t := by cases e; rfl
    subst et
    cases t0 with
    | true =>
      refine ⟨δ, C2, ρ2, R2', hc.mono ρ2 _ _ (fun u ρ3 k4 v3 H3 B3 R3 S3 q3 => ?_) k3⟩
      obtain ⟨C3, R3', S3', d3⟩ := freeze R3 S3 q3
      exact h2' v2 v3 y.d u.d H3 C3 _ _ R3'.sub (d2.mono S3'.bb) d3 k4 fun c0 k5 => k5 _ H3 C3 R3' (S12.trans S3') (.bl c0)
    | false => exact k3 _ H2 C2 R2' S12 (.bl false)

structure QP (X : Cx) (Z : Zd) (e : Option Expr) (w : PT2) : Prop where
  mono : MonoP w
  po : PO X e (fun σ H Q => ∃ δ B ρ, Rel Z δ σ H B ρ ∧ w ρ fun o ρ' => ∀ H' B', Rel Z δ σ H' B' ρ' → Stp (MM σ ρ δ) (MM σ ρ' δ) H B H' B' → Q o H')
theorem po_imp {e : Option Expr} {t t' : TO} (h : PO X e t) (k : ∀ σ H Q, t' σ H Q → t σ H Q) : PO X e t' := ⟨fun pins s σ H Q I q => h.run pins s σ H Q I (k σ H Q q)⟩
theorem qp_no : QP X Z none pNo := ⟨fun _ _ _ hk h => hk _ _ h, po_imp po_none fun σ H Q ⟨δ, B, ρ, R, h⟩ => h H B R Stp.refl⟩
theorem qp_at {e : Expr} {w : XT} (he : PX X Z e w) : QP X Z (some e) (pAt w) := by
  refine ⟨fun ρ k k' hk h => he.mono ρ _ _ (fun r ρ1 ⟨i, h1, h2⟩ => ⟨i, h1, hk _ _ h2⟩) h, po_imp (po_some he.pe) fun σ H Q h => ?_⟩
  obtain ⟨δ, B, ρ, R, h⟩ := h
  refine ⟨δ, B, ρ, R, he.mono ρ _ _ (fun x ρ1 w1 v1 H1 B1 R1 S1 q1 => ?_) h⟩
  obtain ⟨i, e1, h1⟩ := w1
  obtain ⟨C1, R1', S1', d1⟩ := freeze R1 S1 q1
  rw [e1] at d1
  exact ⟨i, d1.int_inv, h1 H1 C1 R1' S1'⟩
theorem slAt_sIx (n d : Nat) (o : Option Int) : slAt n d o = HT.sIx n d o := by cases o <;> rfl
theorem cut_dvs {B : Hp} {vs : List V} {ds : List D} (h : DVs B vs ds) (lo hi : Option Int) : DVs B (cutV vs lo hi) (cutL ds lo hi) := by
  unfold cutV cutL
  rw [slAt_sIx, slAt_sIx, h.length]
  exact (h.drop _).take _
theorem px_sl {e : Expr} {lo hi : Option Expr} {p2 : Pos} {w : XT} {wl wh : PT2} (he : PX X Z e w) (hl : QP X Z lo wl) (hh : QP X Z hi wh) : PX X Z (.Subscript e (.Slice lo hi none p2) pos) (xSl w wl wh) := by
  have mo : ∀ l h, MonoU (oSl l h) := fun l h d k k' hk q => by
    cases d <;> first | exact q | exact hk _ q
  refine ⟨fun ρ k k' hk h => he.mono ρ _ _ (fun r ρ1 h1 => hl.mono ρ1 _ _ (fun l ρ2 h2 => hh.mono ρ2 _ _ (fun u ρ3 h3 => mo _ _ _ _ _ (fun z h4 => hk _ _ h4) h3) h2) h1) h,
    pe_imp (pe_slice (SlR.or sl_list sl_tupA) he.pe hl.po hh.po) fun σ H Q h => ?_⟩
  obtain ⟨δ, B, ρ, R, h⟩ := h
  refine ⟨δ, B, ρ, R, he.mono ρ _ _ (fun x ρ1 h1 v1 H1 B1 R1 S1 q1 => ?_) h⟩
  obtain ⟨C1, R1', S1', d1⟩ := freeze R1 S1 q1
  refine ⟨δ, C1, ρ1, R1', hl.mono ρ1 _ _ (fun l ρ2 h2 H2 B2 R2 S2 => ⟨δ, B2, ρ2, R2, hh.mono ρ2 _ _ (fun u ρ3 h3 H3 B3 R3 S3 => ?_) h2⟩) h1⟩
  have S := (S1'.trans S2).trans S3
  have dv := (d1.mono S2.bb).mono S3.bb
  generalize x.d = d at h3 dv
  cases d with
  | list ds =>
    obtain ⟨a, vs, rfl, ha, hv⟩ := dv.list_inv
    refine .inl ⟨a, vs, rfl, SqL.of (R3.sub _ _ ha), fun p hp => ?_⟩
    obtain ⟨R4, S4, q4⟩ := (Made.own hp (cut_dvs hv l u)).fin R3
    exact h3 _ _ _ R4 (S.trans S4) (RR.back S q4)
  | tuple ds =>
    obtain ⟨a, vs, rfl, ha, hv⟩ := dv.tuple_inv
    refine .inr ⟨a, vs, rfl, SqT.of (R3.sub _ _ ha), fun hw => ?_, fun hw p hp => ?_⟩
    · have e : cutL ds l u = ds := by
        unfold cutL
        rw [slAt_sIx, slAt_sIx, ← hv.length, hw.1, hw.2, List.drop_zero, Nat.sub_zero, hv.length, List.take_length]
      refine h3 _ H3 B3 R3 S (show DV B3 (.ref a) (.tuple (cutL ds l u)) from ?_)
      rw [e]; exact dv
    · obtain ⟨R4, S4, q4⟩ := (Made.tup R3.sub hp (cut_dvs hv l u)).fin R3
      exact h3 _ _ _ R4 (S.trans S4) (RR.back S q4)
  | none => exact h3.elim
  | bool b => exact h3.elim
  | int i => exact h3.elim
  | str s => exact h3.elim
  | dict s => exact h3.elim

theorem peek_dv {δ : Dk} {σ : L2.St} {H B : Hp} {ρ : Ev} (R : Rel Z δ σ H B ρ) {i : Nat} {d : D} (h : peek ρ i = some d) : ∃ v, σ[i]? = some (some v) ∧ DV H v d := by
  unfold peek at h
  split at h
  · rename_i e q
    cases h
    obtain ⟨v, h1, h2⟩ := R.va i _ q
    exact ⟨v, h1, h2.mono R.sub⟩
  · rename_i ds q
    cases h
    obtain ⟨p, vs, h1, h2, h3, h4⟩ := R.ow i _ q
    exact ⟨_, h1, .lst h3 (h4.mono R.sub)⟩
  · cases h
/-- an item of a row that lies in the heap is a datum that stays -/
theorem peek_item {δ : Dk} {σ : L2.St} {H B : Hp} {ρ : Ev} (R : Rel Z δ σ H B ρ) {i : Nat} {d : D} (h : peek ρ i = some d) : (∃ ds, d = .list ds ∧ ∃ p vs, σ[i]? = some (some (.ref p)) ∧ H p = some (.lst vs) ∧ DVs B vs ds) ∨
    ∃ v, σ[i]? = some (some v) ∧ DV B v d := by
  unfold peek at h
  split at h
  · rename_i e q
    cases h
    obtain ⟨v, h1, h2⟩ := R.va i _ q
    exact .inr ⟨v, h1, h2⟩
  · rename_i ds q
    cases h
    obtain ⟨p, vs, h1, h2, h3, h4⟩ := R.ow i _ q
    exact .inl ⟨ds, rfl, p, vs, h1, h3, h4⟩
  · cases h
end
end DL

namespace DL
open PySem L2

mutual
theorem tg_mono : ∀ (t : Tg) (d : D) (ρ : Ev) (k k' : Ev → Prop), (∀ ρ', k ρ' → k' ρ') → tgGo t d ρ k → tgGo t d ρ k'
  | .nm i, d, ρ, k, k', hk, h => by rw [tgGo] at h ⊢; exact hk _ h
  | .tup ts, d, ρ, k, k', hk, h => by
    rw [tgGo] at h ⊢
    obtain ⟨ds, h1, h2, h3⟩ := h
    exact ⟨ds, h1, h2, tgs_mono ts ds ρ k k' hk h3⟩
theorem tgs_mono : ∀ (ts : List Tg) (ds : List D) (ρ : Ev) (k k' : Ev → Prop), (∀ ρ', k ρ' → k' ρ') → tgsGo ts ds ρ k → tgsGo ts ds ρ k'
  | [], [], ρ, k, k', hk, h => by rw [tgsGo] at h ⊢; exact hk _ h
  | t :: ts, d :: ds, ρ, k, k', hk, h => by
    rw [tgsGo] at h ⊢
    exact tg_mono t d ρ _ _ (fun ρ1 h1 => tgs_mono ts ds ρ1 k k' hk h1) h
  | [], _ :: _, ρ, k, k', hk, h => by rw [tgsGo] at h; exact h.elim
  | _ :: _, [], ρ, k, k', hk, h => by rw [tgsGo] at h; exact h.elim
end
/-- what a target leaves -/
def Tgd (Z : Zd) (δ : Dk) (ix : List Nat) (σ : L2.St) (H B : Hp) (ρ : Ev) (Q : L2.St → Hp → Prop) (ρ' : Ev) : Prop :=
  ∀ σ', Rel Z δ σ' H B ρ' → (∀ a, MM σ' ρ' δ a → MM σ ρ δ a) → (∀ i, i ∉ ix → σ'[i]? = σ[i]?) → σ'.length = σ.length → Q σ' H
def LG (Z : Zd) (t : Tg) : TG := fun v σ H Q => ∃ δ B ρ d, Rel Z δ σ H B ρ ∧ DV B v d ∧ tgGo t d ρ (Tgd Z δ (tgIx t) σ H B ρ Q)
def LGs (Z : Zd) (ts : List Tg) : TGs := fun vs σ H Q => ∃ δ B ρ ds, Rel Z δ σ H B ρ ∧ DVs B vs ds ∧ tgsGo ts ds ρ (Tgd Z δ (tgsIx ts) σ H B ρ Q)
section
variable {X : Cx} {Z : Zd} {pos : Pos}
structure QG (X : Cx) (Z : Zd) (e : Expr) (t : Tg) : Prop where
  pg : PG X e (LG Z t)
structure QGs (X : Cx) (Z : Zd) (e : List Expr) (t : List Tg) : Prop where
  pg : PGs X e (LGs Z t)
theorem pg_imp {e : Expr} {t t' : TG} (h : PG X e t) (k : ∀ v σ H Q, t' v σ H Q → t v σ H Q) : PG X e t' := ⟨fun pins s σ H v u Q I r q => h.run pins s σ H v u Q I r (k v σ H Q q)⟩
theorem pgs_imp {e : List Expr} {t t' : TGs} (h : PGs X e t) (k : ∀ v σ H Q, t' v σ H Q → t v σ H Q) : PGs X e t' := ⟨fun pins s σ H v u Q I r q => h.run pins s σ H v u Q I r (k v σ H Q q)⟩
theorem qg_nm (i : Nat) {x : Str} (hN : X.N.Nodup) (hi : X.N[i]? = some x := by rfl) (hx : Loc X.env.scope x := by exact Or.inl rfl) (hf : X.fn x = true ∨ X.env.scope.names.lookup x = some .local := by first | exact .inl rfl | exact .inr rfl | assumption) : QG X Z (.Name x pos) (.nm i) := by
  refine ⟨pg_imp (pg_name hN hi hx hf) fun v σ H Q h => ?_⟩
  obtain ⟨δ, B, ρ, d, R, dv, h⟩ := h
  rw [tgGo] at h
  exact h (σ.set i (some v)) (R.setVa dv) (fun a m => MM.setVa (by intro _ z; cases z) m) (fun j hj => set_off fun z => hj (by rw [tgIx, z]; simp)) (by simp)
theorem qgs_nil : QGs X Z [] [] := by
  refine ⟨pgs_imp pgs_nil fun vs σ H Q h => ?_⟩
  obtain ⟨δ, B, ρ, ds, R, dv, h⟩ := h
  cases ds with
  | nil =>
    cases dv
    rw [tgsGo] at h
    exact ⟨rfl, h σ R (fun _ m => m) (fun _ _ => rfl) rfl⟩
  | cons d ds => rw [tgsGo] at h; exact h.elim
theorem qgs_cons {e : Expr} {es : List Expr} {t : Tg} {ts : List Tg} (h1 : QG X Z e t) (h2 : QGs X Z es ts) (hs : (assignEach (e :: es) X.env).map (·.2) = assign e X.env :: (assignEach es X.env).map (·.2) := by rfl) : QGs X Z (e :: es) (t :: ts) := by
  refine ⟨pgs_imp (pgs_cons h1.pg h2.pg hs) fun vs σ H Q h => ?_⟩
  obtain ⟨δ, B, ρ, ds, R, dv, h⟩ := h
  cases ds with
  | nil => rw [tgsGo] at h; exact h.elim
  | cons d ds =>
    rw [tgsGo] at h
    cases dv with
    | cons p q =>
      refine ⟨_, _, rfl, δ, B, ρ, d, R, p, tg_mono _ _ _ _ _ (fun ρ1 k1 σ1 R1 m1 o1 l1 => ?_) h⟩
      refine ⟨δ, B, ρ1, ds, R1, q, tgs_mono _ _ _ _ _ (fun ρ2 k2 σ2 R2 m2 o2 l2 => ?_) k1⟩
      refine k2 σ2 R2 (fun a m => m1 a (m2 a m)) (fun i hi => ?_) (l2.trans l1)
      rw [tgsIx, List.mem_append] at hi
      rw [o2 i fun z => hi (.inr z), o1 i fun z => hi (.inl z)]
theorem qg_tup {es : List Expr} {k : Nat} {ts : List Tg} (hc : X.calm = true) (h : QGs X Z es ts) (hn : (assignEach es X.env).length = ts.length := by rfl) (hst : (assignEach es X.env).findIdx? (·.1) = none := by rfl) : QG X Z (.Tuple es k pos) (.tup ts) := by
  refine ⟨pg_imp (pg_tup hc h.pg hn hst) fun v σ H Q h => ?_⟩
  obtain ⟨δ, B, ρ, d, R, dv, h⟩ := h
  rw [tgGo] at h
  obtain ⟨ds, rfl, hl, h⟩ := h
  obtain ⟨a, vs, rfl, ha, hv⟩ := dv.tuple_inv
  refine ⟨a, vs, rfl, SqT.of (R.sub _ _ ha), by rw [hv.length, hl], δ, B, ρ, ds, R, hv, ?_⟩
  exact h

theorem Lw.shift {E : Ends} {δ : Dk} {σ σ' : L2.St} {H B H' B' : Hp} {ρ ρ' : Ev} (S : Stp (MM σ ρ δ) (MM σ' ρ' δ) H B H' B') : (Lw Z E δ σ H B ρ).le (Lw Z E δ σ' H' B' ρ') :=
  ⟨fun _ h σ2 H2 B2 R2 S2 => h σ2 H2 B2 R2 (S.trans S2), fun _ h v σ2 ρ2 H2 B2 R2 S2 q2 => h v σ2 ρ2 H2 B2 R2 (S.trans S2) (RR.back S q2),
    fun _ h σ2 H2 B2 R2 S2 => h σ2 H2 B2 R2 (S.trans S2), fun _ h σ2 H2 B2 R2 S2 => h σ2 H2 B2 R2 (S.trans S2)⟩
theorem qss_nil : QSs X Z [] sPass := ⟨fun ρ E E' hE h => hE.nx _ h, pss_imp pss_nil fun E σ H ⟨δ, B, ρ, R, h⟩ => h σ H B R Stp.refl⟩
theorem qss_one {st : Stmt} {w : SS} (h : QS X Z st w) : QSs X Z [st] w := ⟨h.mono, pss_one h.ps⟩
theorem Wd.le.seq {E E' : Wd} {b : SS} (hb : MonoS b) (h : E.le E') : Wd.le { E with nx := b E } { E' with nx := b E' } := ⟨fun ρ q => hb ρ _ _ h q, h.rt, h.bk, h.ct⟩
theorem qss_cons {st : Stmt} {rest : List Stmt} {a b : SS} (ha : QS X Z st a) (hb : QSs X Z rest b) : QSs X Z (st :: rest) (sSeq a b) := by
  refine ⟨fun ρ E E' hE h => ha.mono ρ _ _ (hE.seq hb.mono) h, pss_imp (pss_cons ha.ps hb.ps) fun E σ H h => ?_⟩
  obtain ⟨δ, B, ρ, R, h⟩ := h
  have h : a { Lw Z E δ σ H B ρ with nx := b (Lw Z E δ σ H B ρ) } ρ := h
  refine ⟨δ, B, ρ, R, ha.mono ρ { Lw Z E δ σ H B ρ with nx := b (Lw Z E δ σ H B ρ) } _ ⟨fun ρ1 h1 σ1 H1 B1 R1 S1 => ?_, fun _ q => q, fun _ q => q, fun _ q => q⟩ h⟩
  exact ⟨δ, B1, ρ1, R1, hb.mono ρ1 _ _ (Lw.shift S1) h1⟩
theorem qs_pass : QS X Z (.Pass pos) sPass := ⟨fun ρ E E' hE h => hE.nx _ h, ps_imp ps_pass fun E σ H ⟨δ, B, ρ, R, h⟩ => h σ H B R Stp.refl⟩
theorem qs_brk : QS X Z (.Break pos) sBrk := ⟨fun ρ E E' hE h => hE.bk _ h, ps_imp ps_break fun E σ H ⟨δ, B, ρ, R, h⟩ => h σ H B R Stp.refl⟩
theorem qs_cnt : QS X Z (.Continue pos) sCnt := ⟨fun ρ E E' hE h => hE.ct _ h, ps_imp ps_continue fun E σ H ⟨δ, B, ρ, R, h⟩ => h σ H B R Stp.refl⟩
theorem qs_if {c : Expr} {a b : List Stmt} {wc : BT} {wa wb : SS} (hc : PB X Z c wc) (ha : QSs X Z a wa) (hb : QSs X Z b wb) : QS X Z (.If c a b pos) (sIf wc wa wb) := by
  refine ⟨fun ρ E E' hE h => hc.mono ρ _ _ (fun r ρ1 h1 => ?_) h, ps_imp (ps_if hc.pt ha.ps hb.ps) fun E σ H h => ?_⟩
  · cases r with
    | true => exact ha.mono ρ1 _ _ hE h1
    | false => exact hb.mono ρ1 _ _ hE h1
  · obtain ⟨δ, B, ρ, R, h⟩ := h
    refine ⟨δ, B, ρ, R, hc.mono ρ _ _ (fun c ρ1 h1 H1 B1 R1 S1 => ?_) h⟩
    cases c with
    | true => exact ⟨δ, B1, ρ1, R1, ha.mono ρ1 _ _ (Lw.shift S1) h1⟩
    | false => exact ⟨δ, B1, ρ1, R1, hb.mono ρ1 _ _ (Lw.shift S1) h1⟩
theorem qs_ret {e : Expr} {w : XT} (he : PX X Z e w) : QS X Z (.Return (some e) pos) (sRet w) := by
  refine ⟨fun ρ E E' hE h => he.mono ρ _ _ (fun r ρ1 h1 => hE.rt _ h1) h, ps_imp (ps_ret he.pe) fun E σ H h => ?_⟩
  obtain ⟨δ, B, ρ, R, h⟩ := h
  exact ⟨δ, B, ρ, R, he.mono ρ _ _ (fun x ρ1 h1 v1 H1 B1 R1 S1 q1 => h1 v1 σ ρ1 H1 B1 R1 S1 q1) h⟩
theorem qs_retN : QS X Z (.Return none pos) sRetN :=
  ⟨fun ρ E E' hE h => hE.rt _ h, ps_imp ps_retN fun E σ H ⟨δ, B, ρ, R, h⟩ => h .non σ ρ H B R Stp.refl .non⟩
theorem qs_expr {e : Expr} {w : XT} (he : PX X Z e w) (hs : swapsWith e none pos.line X.env = pure false := by rfl) : QS X Z (.Expr e pos) (sExpr w) := by
  refine ⟨fun ρ E E' hE h => he.mono ρ _ _ (fun r ρ1 h1 => hE.nx _ h1) h, ps_imp (ps_expr he.pe hs) fun E σ H h => ?_⟩
  obtain ⟨δ, B, ρ, R, h⟩ := h
  exact ⟨δ, B, ρ, R, he.mono ρ _ _ (fun x ρ1 h1 v1 H1 B1 R1 S1 q1 => h1 σ H1 B1 R1 S1) h⟩
theorem qs_set (i : Nat) {x : Str} {e : Expr} {w : XT} {p : Pos} (hN : X.N.Nodup) (he : PX X Z e w) (hi : X.N[i]? = some x := by rfl) (hx : Loc X.env.scope x := by exact Or.inl rfl) (hs : swapsWith e (some (.Name x p)) pos.line X.env = pure false := by rfl)
    (hf : X.fn x = true ∨ X.env.scope.names.lookup x = some .local := by first | exact .inl rfl | exact .inr rfl | assumption) : QS X Z (.Assign [.Name x p] e pos) (sSet i w) := by
  refine ⟨fun ρ E E' hE h => he.mono ρ _ _ (fun r ρ1 h1 => hE.nx _ h1) h, ps_imp (ps_set hN hi hx he.pe hs hf) fun E σ H h => ?_⟩
  obtain ⟨δ, B, ρ, R, h⟩ := h
  refine ⟨δ, B, ρ, R, he.mono ρ _ _ (fun x ρ1 h1 v1 H1 B1 R1 S1 q1 => ?_) h⟩
  obtain ⟨R2, S2⟩ := R1.put (i := i) S1 q1
  exact h1 _ H1 B1 R2 S2
theorem qs_unp {tg e : Expr} {t : Tg} {w : XT} (he : PX X Z e w) (hg : QG X Z tg t) (hs : swapsWithSole [tg] e pos.line X.env = pure false := by rfl) (hw : swappedStores [tg] e X.env = pure none := by rfl)
    (h1 : (assignEach [tg] X.env).map (·.2) = [assign tg X.env] := by rfl) : QS X Z (.Assign [tg] e pos) (sUnp t w) := by
  refine ⟨fun ρ E E' hE h => he.mono ρ _ _ (fun r ρ1 h1 => tg_mono _ _ _ _ _ (fun ρ2 h2 => hE.nx _ h2) h1) h, ps_imp (ps_asg he.pe hg.pg hs hw h1) fun E σ H h => ?_⟩
  obtain ⟨δ, B, ρ, R, h⟩ := h
  refine ⟨δ, B, ρ, R, he.mono ρ _ _ (fun x ρ1 h1 v1 H1 B1 R1 S1 q1 => ?_) h⟩
  obtain ⟨C1, R1', S1', d1⟩ := freeze R1 S1 q1
  refine ⟨δ, C1, ρ1, x.d, R1', d1, tg_mono _ _ _ _ _ (fun ρ2 h2 σ2 R2 m2 o2 l2 => ?_) h1⟩
  exact h2 σ2 H1 C1 R2 ⟨S1'.bb, S1'.hh, S1'.nw, fun a m => S1'.mm a (m2 a m), S1'.tr⟩
/-- an answer that waits while more is reckoned -/
theorem RR.later {δ : Dk} {σ : L2.St} {M : Addr → Prop} {Hs H B H' B' : Hp} {ρ ρ' : Ev} {v : V} {r : Rt} (q : RR M Hs H B (MM σ ρ δ) v r) (S : Stp (MM σ ρ δ) (MM σ ρ' δ) H B H' B') : RR M Hs H' B' (MM σ ρ' δ) v r := by
  cases r with
  | va d => exact DV.mono S.bb q
  | ow ds =>
    obtain ⟨p, vs, h1, h2, h3, h4, h5, h6⟩ := q
    refine ⟨p, vs, h1, h2, ?_, fun m => ?_, S.hh p _ h5 h4, h6.mono S.bb⟩
    · cases e : B' p with
      | none => rfl
      | some o =>
        rcases S.nw p (by rw [e]; simp) with z | z | z
        · exact absurd h3 z
        · rw [h5] at z; cases z
        · exact absurd z h4
    · rcases S.mm p m with z | z
      · exact h4 z
      · rw [h5] at z; cases z
/-- .. while another one is stored -/
theorem RR.beside {δ : Dk} {σ : L2.St} {M M1 : Addr → Prop} {H0 H1 H B : Hp} {ρ : Ev} {v w : V} {r q : Rt} {i : Nat} (hr : RR M H0 H B (MM σ ρ δ) v r) (hq : RR M1 H1 H B (MM σ ρ δ) w q) (ht : ∀ p, v = .ref p → (∃ ds, r = .ow ds) → H1 p ≠ none ∧ ¬ M1 p) :
    RR M1 H1 H B (MM (σ.set i (some v)) (ρ.set i r.en) δ) w q := by
  cases q with
  | va d => exact hq
  | ow ds =>
    obtain ⟨p, vs, h1, h2, h3, h4, h5, h6⟩ := hq
    refine ⟨p, vs, h1, h2, h3, fun m => ?_, h5, h6⟩
    cases r with
    | va d => exact h4 (MM.setVa (by intro _ z; cases z) m)
    | ow es =>
      obtain ⟨t, ws, k1, _⟩ := hr
      rcases m with ⟨j, fs, e1, e2⟩ | m
      · rcases set_get e1 with ⟨z, _, l⟩ | ⟨z, e1⟩
        · subst z
          rcases set_get e2 with ⟨_, e2, _⟩ | ⟨z, _⟩
          · cases e2
            obtain ⟨n1, n2⟩ := ht p rfl ⟨es, rfl⟩
            rcases h2 with h2 | h2
            · exact n1 h2
            · exact n2 h2
          · exact z rfl
        · exact h4 (.inl ⟨j, fs, e1, by rw [set_off z] at e2; exact e2⟩)
      · exact h4 (.inr m)
theorem RR.there {M M' : Addr → Prop} {Hs H B : Hp} {v : V} {r : Rt} (q : RR M Hs H B M' v r) : ∀ p, v = .ref p → (∃ ds, r = .ow ds) → H p ≠ none ∧ ¬ M' p := by
  intro p e w
  obtain ⟨ds, rfl⟩ := w
  obtain ⟨t, vs, h1, h2, h3, h4, h5, h6⟩ := q
  rw [h1] at e; cases e
  exact ⟨by rw [h5]; simp, h4⟩
theorem qs_set2 (i j : Nat) {x y : Str} {a b : Expr} {wa wb : XT} {px py pt : Pos} {kt k2 pt2} (hc : X.calm = true) (hN : X.N.Nodup) (ha : PX X Z a wa) (hb : PX X Z b wb) (hi : X.N[i]? = some x := by rfl) (hj : X.N[j]? = some y := by rfl) (hij : i ≠ j := by decide)
    (hx : X.env.scope.names.lookup x = some .local := by rfl) (hy : X.env.scope.names.lookup y = some .local := by rfl)
    (hw : swappedStores [.Tuple [.Name x px, .Name y py] kt pt] (.Tuple [a, b] k2 pt2) X.env = pure (some [x, y]) := by rfl)
    (hs : swapsWithSole [.Tuple [.Name x px, .Name y py] kt pt] (.Tuple [a, b] k2 pt2) pos.line X.env = pure false := by rfl)
    (s1 : starEach [a, b] X.env = (false, eval a X.env) :: starEach [b] X.env := by rfl) (s2 : starEach [b] X.env = (false, eval b X.env) :: starEach [] X.env := by rfl) :
    QS X Z (.Assign [.Tuple [.Name x px, .Name y py] kt pt] (.Tuple [a, b] k2 pt2) pos) (sSet2 i j wa wb) := by
  refine ⟨fun ρ E E' hE h => ha.mono ρ _ _ (fun r ρ1 h1 => hb.mono ρ1 _ _ (fun q ρ2 h2 => hE.nx _ h2) h1) h, ps_imp (ps_par hc hN hi hj hij hx hy (pa_cons ha.pe (pa_cons hb.pe pa_nil s2) s1) hw hs) fun E σ H h => ?_⟩
  obtain ⟨δ, B, ρ, R, h⟩ := h
  refine ⟨δ, B, ρ, R, ha.mono ρ _ _ (fun r ρ1 h1 v1 H1 B1 R1 S1 q1 => ?_) h⟩
  refine ⟨δ, B1, ρ1, R1, hb.mono ρ1 _ _ (fun q ρ2 h2 v2 H2 B2 R2 S2 q2 => ⟨v1, v2, rfl, ?_⟩) h1⟩
  have q1' := q1.later S2
  obtain ⟨R3, S3⟩ := R2.put (i := i) (S1.trans S2) q1'
  have q2' := RR.beside (i := i) q1' q2 q1.there
  obtain ⟨R4, S4⟩ := R3.put (i := j) S3 (RR.back S1 q2')
  exact h2 _ H2 B2 R4 S4
theorem qs_set3 (i j l : Nat) {x y z : Str} {a b c : Expr} {wa wb wc : XT} {px py pz pt : Pos} {kt k2 pt2} (hc : X.calm = true) (hN : X.N.Nodup) (ha : PX X Z a wa) (hb : PX X Z b wb) (hcc : PX X Z c wc) (hi : X.N[i]? = some x := by rfl) (hj : X.N[j]? = some y := by rfl) (hl : X.N[l]? = some z := by rfl)
    (hij : i ≠ j := by decide) (hil : i ≠ l := by decide) (hjl : j ≠ l := by decide)
    (hx : X.env.scope.names.lookup x = some .local := by rfl) (hy : X.env.scope.names.lookup y = some .local := by rfl) (hz : X.env.scope.names.lookup z = some .local := by rfl)
    (hw : swappedStores [.Tuple [.Name x px, .Name y py, .Name z pz] kt pt] (.Tuple [a, b, c] k2 pt2) X.env = pure (some [x, y, z]) := by rfl)
    (hs : swapsWithSole [.Tuple [.Name x px, .Name y py, .Name z pz] kt pt] (.Tuple [a, b, c] k2 pt2) pos.line X.env = pure false := by rfl)
    (s1 : starEach [a, b, c] X.env = (false, eval a X.env) :: starEach [b, c] X.env := by rfl) (s2 : starEach [b, c] X.env = (false, eval b X.env) :: starEach [c] X.env := by rfl) (s3 : starEach [c] X.env = (false, eval c X.env) :: starEach [] X.env := by rfl) :
    QS X Z (.Assign [.Tuple [.Name x px, .Name y py, .Name z pz] kt pt] (.Tuple [a, b, c] k2 pt2) pos) (sSet3 i j l wa wb wc) := by
  refine ⟨fun ρ E E' hE h => ha.mono ρ _ _ (fun r ρ1 h1 => hb.mono ρ1 _ _ (fun q ρ2 h2 => hcc.mono ρ2 _ _ (fun u ρ3 h3 => hE.nx _ h3) h2) h1) h,
    ps_imp (ps_par3 hc hN hi hj hl hij hil hjl hx hy hz (pa_cons ha.pe (pa_cons hb.pe (pa_cons hcc.pe pa_nil s3) s2) s1) hw hs) fun E σ H h => ?_⟩
  obtain ⟨δ, B, ρ, R, h⟩ := h
  refine ⟨δ, B, ρ, R, ha.mono ρ _ _ (fun r ρ1 h1 v1 H1 B1 R1 S1 q1 => ?_) h⟩
  refine ⟨δ, B1, ρ1, R1, hb.mono ρ1 _ _ (fun q ρ2 h2 v2 H2 B2 R2 S2 q2 => ?_) h1⟩
  refine ⟨δ, B2, ρ2, R2, hcc.mono ρ2 _ _ (fun u ρ3 h3 v3 H3 B3 R3 S3 q3 => ⟨v1, v2, v3, rfl, ?_⟩) h2⟩
  have k1 := (q1.later S2).later S3
  have k2 := q2.later S3
  obtain ⟨R4, S4⟩ := R3.put (i := i) ((S1.trans S2).trans S3) k1
  have k2' := RR.beside (i := i) k1 k2 q1.there
  have k3' := RR.beside (i := i) k1 q3 (q1.later S2).there
  obtain ⟨R5, S5⟩ := R4.put (i := j) S4 (RR.back S1 k2')
  have k3'' := RR.beside (i := j) k2' k3' q2.there
  obtain ⟨R6, S6⟩ := R5.put (i := l) S5 (RR.back (S1.trans S2) k3'')
  exact h3 _ H3 B3 R6 S6
end
end DL

namespace DL
open PySem L2
section
variable {X : Cx} {Z : Zd} {pos : Pos}

theorem Rel.updOw {δ : Dk} {σ : L2.St} {H B : Hp} {ρ : Ev} (R : Rel Z δ σ H B ρ) {i : Nat} {ds es : List D} {p : Addr} {ws : List V} (e : ρ[i]? = some (.ow ds)) (h1 : σ[i]? = some (some (.ref p))) (hw : DVs B ws es) :
    Rel Z δ σ (upd H p (.lst ws)) B (ρ.set i (.ow es)) ∧ Stp (MM σ ρ δ) (MM σ (ρ.set i (.ow es)) δ) H B (upd H p (.lst ws)) B := by
  have lt : i < ρ.length := (List.getElem?_eq_some_iff.mp e).1
  obtain ⟨p', vs, h1', h2, h3, h4⟩ := R.ow i ds e
  rw [h1] at h1'; cases h1'
  have oth : ∀ {j : Nat} {fs : List D} {t : Addr}, i ≠ j → ρ[j]? = some (.ow fs) → σ[j]? = some (some (.ref t)) → t ≠ p := fun {j fs t} z q1 q2 q3 => by
    subst q3; exact z (R.sep i j ds fs t e q1 h1 q2)
  have mback : ∀ a, MM σ (ρ.set i (.ow es)) δ a → MM σ ρ δ a := fun a m => by
    rcases m with ⟨j, fs, e1, e2⟩ | m
    · rcases set_get e1 with ⟨z, _, _⟩ | ⟨z, e1⟩
      · subst z; exact .inl ⟨i, ds, e, e2⟩
      · exact .inl ⟨j, fs, e1, e2⟩
    · exact .inr m
  refine ⟨⟨by simp [R.len], fun a u q => ?_, fun j d q => ?_, fun j fs q => ?_, fun j l fs gs t q1 q2 q3 q4 => ?_, fun j q => ?_, fun t fp q => ?_, fun j ns q => ?_, R.sm⟩, ⟨Sub.refl _, fun a o q m => ?_, fun a q => .inl q, fun a m => .inl (mback a m), fun a q => upd_none q⟩⟩
  · rw [upd_ne fun z => by rw [z, h2] at q; cases q]; exact R.sub a u q
  · rcases set_get q with ⟨_, z, _⟩ | ⟨z, q⟩
    · cases z
    · exact R.va j d q
  · rcases set_get q with ⟨z, z2, _⟩ | ⟨z, q⟩
    · cases z2; subst z
      exact ⟨p, ws, h1, h2, upd_same, hw⟩
    · obtain ⟨t, us, k1, k2, k3, k4⟩ := R.ow j fs q
      exact ⟨t, us, k1, k2, by rw [upd_ne (oth z q k1)]; exact k3, k4⟩
  · have back : ∀ {j : Nat} {fs : List D}, (ρ.set i (.ow es))[j]? = some (.ow fs) → ∃ gs, ρ[j]? = some (.ow gs) := fun {j fs} q => by
      rcases set_get q with ⟨z, _, _⟩ | ⟨z, q⟩
      · subst z; exact ⟨_, e⟩
      · exact ⟨_, q⟩
    obtain ⟨_, w1⟩ := back q1
    obtain ⟨_, w2⟩ := back q2
    exact R.sep j l _ _ t w1 w2 q3 q4
  · rcases set_get q with ⟨_, z, _⟩ | ⟨z, q⟩
    · cases z
    · exact R.dk j q
  · obtain ⟨k1, k2, k3⟩ := R.dok t fp q
    have ne : ∀ a ∈ fp, a ≠ p := fun a ha z => k3 a ha i ds e (by rw [z]; exact h1)
    refine ⟨Z.loc _ _ _ _ k1 fun a ha => upd_ne (ne a ha), fun a ha => ⟨(k2 a ha).1, by rw [upd_ne (ne a ha)]; exact (k2 a ha).2⟩, fun a ha j fs q2 => ?_⟩
    rcases set_get q2 with ⟨z, _, _⟩ | ⟨z, q2⟩
    · subst z; exact k3 a ha i ds e
    · exact k3 a ha j fs q2
  · rcases set_get q with ⟨_, z, _⟩ | ⟨z, q⟩
    · cases z
    · exact R.sc j ns q
  · rw [upd_ne fun z => m (.inl ⟨i, ds, e, by rw [z]; exact h1⟩)]; exact q
/-- what a method of a list does -/
def Mt1 (X : Cx) (f : List D → List D → (D → List D → Prop) → Prop) (id : String) : Prop := ∃ r : V → List V → Hp → VK → Prop, MtR X id r ∧
  ∀ (l : Addr) (vs xs : List V) (ds es : List D) (H B : Hp) (Q : VK) (k : D → List D → Prop), Sub B H → H l = some (.lst vs) → DVs B vs ds → DVs B xs es → f ds es k →
    (∀ d ds' v vs', k d ds' → DV B v d → DVs B vs' ds' → Q v (upd H l (.lst vs'))) → r (.ref l) xs H Q
def MonoM (f : List D → List D → (D → List D → Prop) → Prop) : Prop := ∀ ds es (k k' : D → List D → Prop), (∀ d r, k d r → k' d r) → f ds es k → f ds es k'
theorem monoMth {f : List D → List D → (D → List D → Prop) → Prop} {i : Nat} {a : AT} (hf : MonoM f) (ha : MonoA a) : MonoX (xMth f i a) :=
  fun ρ k k' hk ⟨h0, h⟩ => ⟨h0, ha ρ _ _ (fun es ρ1 ⟨ds, h1, h2⟩ => ⟨ds, h1, hf _ _ _ _ (fun d r h3 => hk _ _ h3) h2⟩) h⟩
theorem px_mth {f : List D → List D → (D → List D → Prop) → Prop} (i : Nat) {x m : Str} {id : String} {p apos : Pos} {e : Expr} {es : List Expr} {a : AT} (hm : Mt1 X f id) (hf : MonoM f) (slot : Slot "list" m id) (hty : typeOf (.builtin id) = pure (.type "method_descriptor")) (ha : QA X Z (e :: es) a)
    (hN : X.N[i]? = some x := by rfl) (hv : Vis X.env.scope x := by first | exact Or.inl rfl | exact Or.inr (Or.inl rfl) | exact Or.inr (Or.inr rfl)) (hd : (x == ("__debug__" : Str)) = false := by decide) (hcd : (x == ("__classdict__" : Str)) = false := by decide)
    (hbase : attributeBase (.Name x p) m X.env (eval (.Name x p) X.env) = eval (.Name x p) X.env := by rfl)
    (hfew : ((backTo pos (starEach (e :: es) X.env)).all (fun x => !x.1) && (backToKw pos (keywordEach [] X.env)).all (fun x => x.1.isSome) && decide ((e :: es).length + ([] : List Keyword).length + (if ([] : List Keyword).isEmpty then 0 else 1) < 30)) = true := by rfl)
    (hline : (apos.endLine == pos.line) = true := by rfl) (hs : starEach (e :: es) X.env = (false, eval e X.env) :: starEach es X.env := by rfl) (hplain : (backTo pos (starEach es X.env)).any (·.1) = false := by rfl) :
    PX X Z (.Call (.Attribute (.Name x p) m apos) (e :: es) [] pos) (xMth f i a) := by
  obtain ⟨r, h1, h2⟩ := hm
  refine ⟨monoMth hf ha.mono, pe_imp (pe_bm PySem.F.plainAttrs_list slot hty h1 (pe_var hN hv hd hcd) ha.pa hbase hfew hline hs hplain) fun σ H Q h => ?_⟩
  obtain ⟨δ, B, ρ, R, ⟨ds0, e0⟩, h⟩ := h
  obtain ⟨l, vs0, k1, k2, k3, k4⟩ := R.ow i ds0 e0
  refine ⟨_, k1, .inl ⟨rfl, vs0, SqL.of k3⟩, δ, B, ρ, R, ha.mono ρ _ _ (fun as ρ1 q1 us H1 B1 R1 S1 hus => ?_) h⟩
  obtain ⟨ds, e1, q1⟩ := q1
  obtain ⟨l', vs, j1, j2, j3, j4⟩ := R1.ow i ds e1
  rw [k1] at j1; cases j1
  refine h2 l vs us ds as H1 B1 Q _ R1.sub j3 j4 hus q1 fun d ds' v vs' w1 w2 w3 => ?_
  obtain ⟨R2, S2⟩ := R1.updOw e1 k1 w3
  exact w1 v _ B1 R2 (S1.trans S2) w2
theorem px_mth0 {f : List D → List D → (D → List D → Prop) → Prop} (i : Nat) {x m : Str} {id : String} {p apos : Pos} (hm : Mt1 X f id) (hf : MonoM f) (slot : Slot "list" m id) (hty : typeOf (.builtin id) = pure (.type "method_descriptor"))
    (hN : X.N[i]? = some x := by rfl) (hv : Vis X.env.scope x := by first | exact Or.inl rfl | exact Or.inr (Or.inl rfl) | exact Or.inr (Or.inr rfl)) (hd : (x == ("__debug__" : Str)) = false := by decide) (hcd : (x == ("__classdict__" : Str)) = false := by decide)
    (hbase : attributeBase (.Name x p) m X.env (eval (.Name x p) X.env) = eval (.Name x p) X.env := by rfl) (hline : (apos.endLine == pos.line) = true := by rfl) :
    PX X Z (.Call (.Attribute (.Name x p) m apos) [] [] pos) (xMth f i aNil) := by
  obtain ⟨r, h1, h2⟩ := hm
  refine ⟨monoMth hf (fun _ _ _ hk h => hk _ _ h), pe_imp (pe_bm0 PySem.F.plainAttrs_list slot hty h1 (pe_var hN hv hd hcd) hbase hline) fun σ H Q h => ?_⟩
  obtain ⟨δ, B, ρ, R, ⟨ds0, e0⟩, ds, e1, h⟩ := h
  obtain ⟨l, vs, k1, k2, k3, k4⟩ := R.ow i ds e1
  refine ⟨_, k1, .inl ⟨rfl, vs, SqL.of k3⟩, h2 l vs [] ds [] H B Q _ R.sub k3 k4 .nil h fun d ds' v vs' w1 w2 w3 => ?_⟩
  obtain ⟨R2, S2⟩ := R.updOw e1 k1 w3
  exact w1 v _ B R2 S2 w2
theorem ixOf_ixN (n : Nat) (i : Int) : ixOf n i = ixN n i := rfl
/-- x[e] = y, x the name of an own list -/
theorem qs_setIx (i : Nat) {x : Str} {p sp : Pos} {ie y : Expr} {we wy : XT} (hy : PX X Z y wy) (he : PX X Z ie we) (hN : X.N[i]? = some x := by rfl) (hv : Vis X.env.scope x := by first | exact Or.inl rfl | exact Or.inr (Or.inl rfl) | exact Or.inr (Or.inr rfl))
    (hd : (x == ("__debug__" : Str)) = false := by decide) (hcd : (x == ("__classdict__" : Str)) = false := by decide)
    (hsub : ∀ v, assign (.Subscript (.Name x p) ie sp) X.env v = (do
      let ov ← holding [v] (eval (.Name x p) X.env)
      let iv ← holding [v, ov] (eval ie X.env)
      standAt sp
      holding [v, ov, iv] (setItem ov iv v)
      release [v, ov, iv] []) := by intro _; rfl)
    (hs : swapsWithSole [.Subscript (.Name x p) ie sp] y pos.line X.env = pure false := by rfl) (hw : swappedStores [.Subscript (.Name x p) ie sp] y X.env = pure none := by rfl)
    (h1 : (assignEach [.Subscript (.Name x p) ie sp] X.env).map (·.2) = [assign (.Subscript (.Name x p) ie sp) X.env] := by rfl) : QS X Z (.Assign [.Subscript (.Name x p) ie sp] y pos) (sSetIx i we wy) := by
  refine ⟨fun ρ E E' hE h => hy.mono ρ _ _ (fun r ρ1 ⟨h0, h1⟩ => ⟨h0, he.mono ρ1 _ _ (fun q ρ2 ⟨ds, k1, n, k2, j, k3, k4⟩ => ⟨ds, k1, n, k2, j, k3, hE.nx _ k4⟩) h1⟩) h,
    ps_imp (ps_asg hy.pe (pg_sub (pe_var hN hv hd hcd) he.pe set_list hsub) hs hw h1) fun E σ H h => ?_⟩
  obtain ⟨δ, B, ρ, R, h⟩ := h
  refine ⟨δ, B, ρ, R, hy.mono ρ _ _ (fun r ρ1 w1 v1 H1 B1 R1 S1 q1 => ?_) h⟩
  obtain ⟨⟨ds0, e0⟩, w1⟩ := w1
  obtain ⟨C1, R1', S1', d1⟩ := freeze R1 S1 q1
  obtain ⟨l, vs0, k1, k2, k3, k4⟩ := R1'.ow i ds0 e0
  refine ⟨_, k1, δ, C1, ρ1, R1', he.mono ρ1 _ _ (fun q ρ2 w2 v2 H2 B2 R2 S2 q2 => ?_) w1⟩
  obtain ⟨ds, e1, n, e2, j, e3, w2⟩ := w2
  obtain ⟨C2, R2', S2', d2⟩ := freeze R2 S2 q2
  rw [e2] at d2
  obtain ⟨l', vs, j1, j2, j3, j4⟩ := R2'.ow i ds e1
  rw [k1] at j1; cases j1
  refine ⟨l, vs, n, j, rfl, d2.int_inv, j3, by rw [← ixOf_ixN, j4.length]; exact e3, ?_⟩
  obtain ⟨R3, S3⟩ := R2'.updOw e1 k1 (j4.set (d1.mono S2'.bb) j)
  exact w2 σ _ C2 R3 ((S1'.trans S2').trans S3)
theorem atI_of {ds : List D} {vs : List V} {B : Hp} (h : DVs B vs ds) {i : Int} {j : Nat} {d : D} (h1 : ixOf ds.length i = some j) (h2 : ds[j]? = some d) : ∃ v, atI vs i = some v ∧ DV B v d := by
  obtain ⟨v, k1, k2⟩ := h.get h2
  refine ⟨v, ?_, k2⟩
  unfold atI
  rw [h.length, ← ixOf_ixN, h1]
  exact k1
theorem monoIx : MonoO oIx := fun d e k k' hk h => by
  cases d with
  | list ds =>
    cases e with
    | int i => obtain ⟨j, d, a, b, c⟩ := h; exact ⟨j, d, a, b, hk _ c⟩
    | none => exact h.elim
    | bool _ => exact h.elim
    | str _ => exact h.elim
    | list _ => exact h.elim
    | tuple _ => exact h.elim
    | dict _ => exact h.elim
  | tuple ds =>
    cases e with
    | int i => obtain ⟨j, d, a, b, c⟩ := h; exact ⟨j, d, a, b, hk _ c⟩
    | none => exact h.elim
    | bool _ => exact h.elim
    | str _ => exact h.elim
    | list _ => exact h.elim
    | tuple _ => exact h.elim
    | dict _ => exact h.elim
  | none => exact h.elim
  | bool _ => exact h.elim
  | str _ => exact h.elim
  | int _ => exact h.elim
  | dict _ => exact h.elim
/-- what an item is, by data over any heap in which the row lies; its item by the frozen part -/
theorem ix_read {H B : Hp} {v u : V} {d e : D} {k : Rt → Prop} {Q : VK} (hv : (∃ ds, d = .list ds ∧ ∃ p vs, v = .ref p ∧ H p = some (.lst vs) ∧ DVs B vs ds) ∨ DV B v d) (hs : Sub B H) (hu : DV B u e) (h : oIx d e k)
    (hq : ∀ z w, k (.va z) → DV B w z → Q w H) : rIx X.K v u H Q := by
  rcases hv with ⟨ds, rfl, p, vs, rfl, h1, h2⟩ | hv
  · cases e with
    | int i =>
      obtain ⟨j, z, a, b, c⟩ := h
      obtain ⟨w, k1, k2⟩ := atI_of h2 a b
      exact .inl ⟨p, vs, i, w, rfl, hu.int_inv, SqL.of h1, k1, hq z w c k2⟩
    | none => exact h.elim
    | bool _ => exact h.elim
    | str _ => exact h.elim
    | list _ => exact h.elim
    | tuple _ => exact h.elim
    | dict _ => exact h.elim
  · cases d with
    | list ds =>
      obtain ⟨p, vs, rfl, h1, h2⟩ := hv.list_inv
      cases e with
      | int i =>
        obtain ⟨j, z, a, b, c⟩ := h
        obtain ⟨w, k1, k2⟩ := atI_of h2 a b
        exact .inl ⟨p, vs, i, w, rfl, hu.int_inv, SqL.of (hs _ _ h1), k1, hq z w c k2⟩
      | none => exact h.elim
      | bool _ => exact h.elim
      | str _ => exact h.elim
      | list _ => exact h.elim
      | tuple _ => exact h.elim
      | dict _ => exact h.elim
    | tuple ds =>
      obtain ⟨p, vs, rfl, h1, h2⟩ := hv.tuple_inv
      cases e with
      | int i =>
        obtain ⟨j, z, a, b, c⟩ := h
        obtain ⟨w, k1, k2⟩ := atI_of h2 a b
        exact .inr (.inl ⟨p, vs, i, w, rfl, hu.int_inv, SqT.of (hs _ _ h1), k1, hq z w c k2⟩)
      | none => exact h.elim
      | bool _ => exact h.elim
      | str _ => exact h.elim
      | list _ => exact h.elim
      | tuple _ => exact h.elim
      | dict _ => exact h.elim
    | none => exact h.elim
    | bool _ => exact h.elim
    | str _ => exact h.elim
    | int _ => exact h.elim
    | dict _ => exact h.elim
theorem px_ix {a b : Expr} {wa wb : XT} (ha : PX X Z a wa) (hb : PX X Z b wb) (hs : PlainIx b := by exact fun _ _ => rfl) : PX X Z (.Subscript a b pos) (xBin oIx wa wb) := by
  refine ⟨monoBin monoIx ha.mono hb.mono, pe_imp (pe_ix ix_seq ha.pe hb.pe hs) fun σ H Q h => LX.bin ha.mono hb.mono ?_ h⟩
  exact fun x y d e H B Q k hs hx hy hf hk => ix_read (.inr hx) hs hy hf fun z w h1 h2 => hk _ _ _ _ h1 (.same h2)
theorem px_ixN (i : Nat) {x : Str} {p : Pos} {b : Expr} {wb : XT} (hb : PX X Z b wb) (hN : X.N[i]? = some x := by rfl) (hv : Vis X.env.scope x := by first | exact Or.inl rfl | exact Or.inr (Or.inl rfl) | exact Or.inr (Or.inr rfl)) (hd : (x == ("__debug__" : Str)) = false := by decide)
    (hcd : (x == ("__classdict__" : Str)) = false := by decide) (hs : PlainIx b := by exact fun _ _ => rfl) : PX X Z (.Subscript (.Name x p) b pos) (xIxN i wb) := by
  refine ⟨fun ρ k k' hk ⟨h0, h⟩ => ⟨h0, hb.mono ρ _ _ (fun r ρ1 ⟨d, h1, h2⟩ => ⟨d, h1, monoIx _ _ _ _ (fun z h3 => hk _ _ h3) h2⟩) h⟩, pe_imp (pe_ix ix_seq (pe_var hN hv hd hcd) hb.pe hs) fun σ H Q h => ?_⟩
  obtain ⟨δ, B, ρ, R, ⟨d0, e0⟩, h⟩ := h
  obtain ⟨v, k1, _⟩ := peek_dv R e0
  refine ⟨v, k1, δ, B, ρ, R, hb.mono ρ _ _ (fun r ρ1 w1 v1 H1 B1 R1 S1 q1 => ?_) h⟩
  obtain ⟨d, e1, w1⟩ := w1
  obtain ⟨C1, R1', S1', d1⟩ := freeze R1 S1 q1
  refine ix_read (B := C1) ?_ R1'.sub d1 w1 fun z w h1 h2 => h1 w H1 C1 R1' S1' h2
  rcases peek_item R1' e1 with ⟨ds, rfl, p, vs, j1, j2, j3⟩ | ⟨v', j1, j2⟩
  · rw [k1] at j1; cases j1
    exact .inl ⟨ds, rfl, p, vs, rfl, j2, j3⟩
  · rw [k1] at j1; cases j1
    exact .inr j2
end
end DL

namespace DL
open PySem L2 PyProof.Rows
/-- an iterator gives these data, whatever else is made meanwhile -/
structure Wk (J : It) (B : Hp) (ds : List D) : Prop where
  go : ∀ i H, Sub B H → i < ds.length → J.go i H
  stop : ∀ H, Sub B H → J.stop ds.length H
  yld : ∀ i H x H' d, Sub B H → ds[i]? = some d → J.yld i H x H' → (H' = H ∧ DV B x d) ∨ ∃ T xs es, x = .ref T ∧ H T = none ∧ H' = upd H T (.tup xs) ∧ d = .tuple es ∧ DVs B xs es
def LI (Z : Zd) (w : IT) : TI := fun σ H R => ∃ δ B ρ, Rel Z δ σ H B ρ ∧ w ρ fun ds ρ' => ∀ J H' B', Rel Z δ σ H' B' ρ' → Stp (MM σ ρ δ) (MM σ ρ' δ) H B H' B' → Wk J B' ds → R J H'
structure QI (X : Cx) (Z : Zd) (tg e : Expr) (w : IT) : Prop where
  mono : MonoA w
  pi : PI X tg e (LI Z w)
theorem Wk.mono {J : It} {B C : Hp} {ds : List D} (h : Wk J B ds) (hs : Sub B C) : Wk J C ds :=
  ⟨fun i H s => h.go i H (hs.trans s), fun H s => h.stop H (hs.trans s), fun i H x H' d s e y => by
    rcases h.yld i H x H' d (hs.trans s) e y with ⟨a, b⟩ | ⟨T, xs, es, a, b, c, d, e⟩
    · exact .inl ⟨a, b.mono hs⟩
    · exact .inr ⟨T, xs, es, a, b, c, d, e.mono hs⟩⟩
section
variable {X : Cx} {Z : Zd} {pos : Pos} {tg : Expr}
theorem pi_imp {e : Expr} {t t' : TI} (h : PI X tg e t) (k : ∀ σ H Q, t' σ H Q → t σ H Q) : PI X tg e t' := ⟨fun pins s σ H Q I q => h.run pins s σ H Q I (k σ H Q q)⟩
theorem wk_list {K : PySem.W.Frag} {B : Hp} {a : Addr} {vs : List V} {ds : List D} (ha : B a = some (.lst vs)) (hv : DVs B vs ds) : Wk (Itl K a) B ds := by
  refine ⟨fun i H s hi => ⟨vs, vs[i]'(by rw [hv.length]; exact hi), SqL.of (s _ _ ha), by simp [hv.length, hi]⟩, fun H s => ⟨vs, SqL.of (s _ _ ha), by rw [hv.length]; exact Nat.le_refl _⟩, fun i H x H' d s e y => ?_⟩
  obtain ⟨v, k1, k2⟩ := hv.get e
  have q := y.2 vs (SqL.of (s _ _ ha))
  rw [k1] at q; cases q
  exact .inl ⟨y.1, k2⟩
theorem wk_tup {K : PySem.W.Frag} {B : Hp} {a : Addr} {vs : List V} {ds : List D} (ha : B a = some (.tup vs)) (hv : DVs B vs ds) : Wk (Itt K a) B ds := by
  refine ⟨fun i H s hi => ⟨vs, vs[i]'(by rw [hv.length]; exact hi), SqT.of (s _ _ ha), by simp [hv.length, hi]⟩, fun H s => ⟨vs, SqT.of (s _ _ ha), by rw [hv.length]; exact Nat.le_refl _⟩, fun i H x H' d s e y => ?_⟩
  obtain ⟨v, k1, k2⟩ := hv.get e
  have q := y.2 vs (SqT.of (s _ _ ha))
  rw [k1] at q; cases q
  exact .inl ⟨y.1, k2⟩
theorem wk_rng {B : Hp} {lo hi : Int} : Wk (Itr lo (hi - lo).toNat) B (rngL lo hi) := by
  have hl : (rngL lo hi).length = (hi - lo).toNat := by unfold rngL; simp
  refine ⟨fun i H s h => by rw [hl] at h; exact h, fun H s => by rw [hl]; exact Nat.le_refl _, fun i H x H' d s e y => ?_⟩
  obtain ⟨y1, y2⟩ := y
  subst y1 y2
  refine .inl ⟨rfl, ?_⟩
  unfold rngL at e
  rw [List.getElem?_map] at e
  cases q : (List.range (hi - lo).toNat)[i]? with
  | none => rw [q] at e; cases e
  | some j =>
    rw [q] at e; cases e
    rw [List.getElem?_range (by have := (List.getElem?_eq_some_iff.mp q).1; simpa using this)] at q
    cases q
    exact .int _
/-- a list or a tuple is walked: which of both, the program's text does not tell -/
theorem qi_list {e : Expr} {w : XT} (he : PX X Z e w) : QI X Z tg e (fun ρ k => w ρ fun r ρ1 => ∃ xs, r.d = .list xs ∧ k xs ρ1) := by
  refine ⟨fun ρ k k' hk h => he.mono ρ _ _ (fun r ρ1 ⟨xs, h1, h2⟩ => ⟨xs, h1, hk _ _ h2⟩) h, pi_imp (pi_list he.pe) fun σ H Q h => ?_⟩
  obtain ⟨δ, B, ρ, R, h⟩ := h
  refine ⟨δ, B, ρ, R, he.mono ρ _ _ (fun r ρ1 w1 v1 H1 B1 R1 S1 q1 => ?_) h⟩
  obtain ⟨xs, e1, w1⟩ := w1
  obtain ⟨C1, R1', S1', d1⟩ := freeze R1 S1 q1
  rw [e1] at d1
  obtain ⟨a, vs, rfl, ha, hv⟩ := d1.list_inv
  exact ⟨a, rfl, ⟨vs, SqL.of (R1'.sub _ _ ha)⟩, w1 _ H1 C1 R1' S1' (wk_list ha hv)⟩
theorem qi_tup {e : Expr} {w : XT} (he : PX X Z e w) : QI X Z tg e (fun ρ k => w ρ fun r ρ1 => ∃ xs, r.d = .tuple xs ∧ k xs ρ1) := by
  refine ⟨fun ρ k k' hk h => he.mono ρ _ _ (fun r ρ1 ⟨xs, h1, h2⟩ => ⟨xs, h1, hk _ _ h2⟩) h, pi_imp (pi_tup he.pe) fun σ H Q h => ?_⟩
  obtain ⟨δ, B, ρ, R, h⟩ := h
  refine ⟨δ, B, ρ, R, he.mono ρ _ _ (fun r ρ1 w1 v1 H1 B1 R1 S1 q1 => ?_) h⟩
  obtain ⟨xs, e1, w1⟩ := w1
  obtain ⟨C1, R1', S1', d1⟩ := freeze R1 S1 q1
  rw [e1] at d1
  obtain ⟨a, vs, rfl, ha, hv⟩ := d1.tuple_inv
  exact ⟨a, rfl, ⟨vs, SqT.of (R1'.sub _ _ ha)⟩, w1 _ H1 C1 R1' S1' (wk_tup ha hv)⟩
theorem PI.or {e : Expr} {t : TE} (he : PE X e t) : PI X tg e (fun σ H R => t σ H fun x H1 => ∃ a, x = .ref a ∧ ((∃ xs, SqL X.K H1 a xs ∧ R (Itl X.K a) H1) ∨ ∃ xs, SqT X.K H1 a xs ∧ R (Itt X.K a) H1)) := by
  refine ⟨fun pins s σ H R I h => ?_⟩
  refine thn (he.run pins s σ H _ I h) fun v s1 ⟨x, H1, I1, r1, a, e1, q⟩ => ?_
  subst e1
  cases r1
  rcases q with ⟨xs, hq, q⟩ | ⟨xs, hq, q⟩
  · obtain ⟨its, rv, p, hz⟩ := I1.list hq
    refine wpAny_pyIter_list p.isList ?_
    refine ⟨s1.heap.objs.size, [s1.heap.objs.size], _, _, H1, rfl, I1.kept (t' := s1.toks) fun b o e => Heap.get?_push_of_some _ e, turn_list a _, ⟨_, Heap.get?_push_size _ rfl, rfl, rfl⟩, fun b hb => ?_, q⟩
    obtain rfl : b = s1.heap.objs.size := by simpa using hb
    exact I1.fpOk (Nat.le_refl _) (I1.hok.fresh (Nat.le_refl _))
  · obtain ⟨its, rv, p, hz⟩ := I1.tuple hq
    refine wpAny_pyIter_tuple (show s1.heap.IsTuple a its.toArray from p) ?_
    refine ⟨s1.heap.objs.size, [s1.heap.objs.size], _, _, H1, rfl, I1.kept (t' := s1.toks) fun b o e => Heap.get?_push_of_some _ e, turn_tuple a _, ⟨_, Heap.get?_push_size _ rfl, rfl, rfl⟩, fun b hb => ?_, q⟩
    obtain rfl : b = s1.heap.objs.size := by simpa using hb
    exact I1.fpOk (Nat.le_refl _) (I1.hok.fresh (Nat.le_refl _))
theorem qi_seq {e : Expr} {w : XT} (he : PX X Z e w) : QI X Z tg e (iSeq w) := by
  refine ⟨fun ρ k k' hk h => he.mono ρ _ _ (fun r ρ1 ⟨xs, h1, h2⟩ => ⟨xs, h1, hk _ _ h2⟩) h, pi_imp (PI.or he.pe) fun σ H Q h => ?_⟩
  obtain ⟨δ, B, ρ, R, h⟩ := h
  refine ⟨δ, B, ρ, R, he.mono ρ _ _ (fun r ρ1 w1 v1 H1 B1 R1 S1 q1 => ?_) h⟩
  obtain ⟨xs, e1, w1⟩ := w1
  obtain ⟨C1, R1', S1', d1⟩ := freeze R1 S1 q1
  generalize r.d = d at e1 d1
  cases d with
  | list ds =>
    cases e1
    obtain ⟨a, vs, rfl, ha, hv⟩ := d1.list_inv
    exact ⟨a, rfl, .inl ⟨vs, SqL.of (R1'.sub _ _ ha), w1 _ H1 C1 R1' S1' (wk_list ha hv)⟩⟩
  | tuple ds =>
    cases e1
    obtain ⟨a, vs, rfl, ha, hv⟩ := d1.tuple_inv
    exact ⟨a, rfl, .inr ⟨vs, SqT.of (R1'.sub _ _ ha), w1 _ H1 C1 R1' S1' (wk_tup ha hv)⟩⟩
  | none => cases e1
  | bool _ => cases e1
  | int _ => cases e1
  | str _ => cases e1
  | dict _ => cases e1
theorem qi_rng1 {a : Expr} {w : XT} {p : Pos} (hg : Gl X "range") (hm : X.mg "range" = none) (ha : PX X Z a w) (hs : starEach [a] X.env = (false, eval a X.env) :: starEach [] X.env := by rfl) : QI X Z tg (.Call (.Name "range" p) [a] [] pos) (iRng1 w) := by
  refine ⟨fun ρ k k' hk h => ha.mono ρ _ _ (fun r ρ1 ⟨n, h1, h2, h3⟩ => ⟨n, h1, h2, hk _ _ h3⟩) h, pi_imp (pi_range1 hg hm (pa_cons ha.pe pa_nil hs) hs) fun σ H Q h => ?_⟩
  obtain ⟨δ, B, ρ, R, h⟩ := h
  refine ⟨δ, B, ρ, R, ha.mono ρ _ _ (fun r ρ1 w1 v1 H1 B1 R1 S1 q1 => ?_) h⟩
  obtain ⟨n, e1, hn, w1⟩ := w1
  obtain ⟨C1, R1', S1', d1⟩ := freeze R1 S1 q1
  rw [e1] at d1
  have wk : Wk (Itr 0 (n - 0).toNat) C1 (rngL 0 n) := wk_rng
  rw [Int.sub_zero] at wk
  exact ⟨n, by rw [d1.int_inv], by omega, by omega, w1 _ H1 C1 R1' S1' wk⟩
theorem qi_rng2 {a b : Expr} {wa wb : XT} {p : Pos} (hg : Gl X "range") (hm : X.mg "range" = none) (ha : PX X Z a wa) (hb : PX X Z b wb) (hs : starEach [a, b] X.env = (false, eval a X.env) :: starEach [b] X.env := by rfl) (hs2 : starEach [b] X.env = (false, eval b X.env) :: starEach [] X.env := by rfl) :
    QI X Z tg (.Call (.Name "range" p) [a, b] [] pos) (iRng2 wa wb) := by
  refine ⟨fun ρ k k' hk h => ha.mono ρ _ _ (fun r ρ1 h1 => hb.mono ρ1 _ _ (fun q ρ2 ⟨m, h1, n, h2, h3, h4⟩ => ⟨m, h1, n, h2, h3, hk _ _ h4⟩) h1) h,
    pi_imp (pi_range2 hg hm (pa_cons ha.pe (pa_cons hb.pe pa_nil hs2) hs) (by rw [hs, hs2]; rfl) hs2) fun σ H Q h => ?_⟩
  obtain ⟨δ, B, ρ, R, h⟩ := h
  refine ⟨δ, B, ρ, R, ha.mono ρ _ _ (fun r ρ1 w1 v1 H1 B1 R1 S1 q1 => ?_) h⟩
  obtain ⟨C1, R1', S1', d1⟩ := freeze R1 S1 q1
  refine ⟨δ, C1, ρ1, R1', hb.mono ρ1 _ _ (fun q ρ2 w2 v2 H2 B2 R2 S2 q2 => ?_) w1⟩
  obtain ⟨m, e1, n, e2, hn, w2⟩ := w2
  obtain ⟨C2, R2', S2', d2⟩ := freeze R2 S2 q2
  rw [e1] at d1
  rw [e2] at d2
  have f1 := d1.int_inv
  have f2 := d2.int_inv
  subst f1 f2
  exact ⟨m, n, rfl, ⟨by omega, by omega, by omega, by omega⟩, w2 _ H2 C2 R2' (S1'.trans S2') wk_rng⟩
theorem enum_ix {ds : List D} {i : Nat} {d : D} (e : (ds.zipIdx.map fun p => PyData.tuple [.int p.2, p.1])[i]? = some d) : ∃ x, ds[i]? = some x ∧ d = .tuple [.int (i : Nat), x] := by
  rw [List.getElem?_map, List.getElem?_zipIdx] at e
  cases q : ds[i]? with
  | none => rw [q] at e; cases e
  | some x =>
    rw [q] at e
    simp only [Option.map_some, Option.some.injEq] at e
    refine ⟨x, rfl, ?_⟩
    rw [← e]; simp
theorem wk_enumL {K : PySem.W.Frag} {B : Hp} {a : Addr} {vs : List V} {ds : List D} (ha : B a = some (.lst vs)) (hv : DVs B vs ds) : Wk (Ite K a) B (ds.zipIdx.map fun p => PyData.tuple [.int p.2, p.1]) := by
  refine ⟨fun i H s hi => ?_, fun H s => ⟨vs, SqL.of (s _ _ ha), by simp [hv.length]⟩, fun i H x H' d s e y => ?_⟩
  · rw [List.length_map, List.length_zipIdx] at hi
    exact ⟨vs, vs[i]'(by rw [hv.length]; exact hi), SqL.of (s _ _ ha), by simp [hv.length, hi]⟩
  · obtain ⟨z, e1, rfl⟩ := enum_ix e
    obtain ⟨v, k1, k2⟩ := hv.get e1
    obtain ⟨T, u, h1, h2, h3, h4⟩ := y
    have q := h4 vs (SqL.of (s _ _ ha))
    rw [k1] at q; cases q
    exact .inr ⟨T, _, _, h1, h2, h3, rfl, .cons (.int _) (.cons k2 .nil)⟩
/-- the tuple at a, each item in a new pair -/
def ItE (K : PySem.W.Frag) (a : Addr) : It :=
  ⟨fun i H => ∃ (xs : List V) (x : V), SqT K H a xs ∧ xs[i]? = some x,
    fun i H v H' => ∃ T x, v = .ref T ∧ H T = none ∧ H' = upd H T (.tup [.int (i : Nat), x]) ∧ ∀ xs, SqT K H a xs → xs[i]? = some x,
    fun i H => ∃ xs : List V, SqT K H a xs ∧ xs.length = i⟩
theorem wk_enumT {K : PySem.W.Frag} {B : Hp} {a : Addr} {vs : List V} {ds : List D} (ha : B a = some (.tup vs)) (hv : DVs B vs ds) : Wk (ItE K a) B (ds.zipIdx.map fun p => PyData.tuple [.int p.2, p.1]) := by
  refine ⟨fun i H s hi => ?_, fun H s => ⟨vs, SqT.of (s _ _ ha), by simp [hv.length]⟩, fun i H x H' d s e y => ?_⟩
  · rw [List.length_map, List.length_zipIdx] at hi
    exact ⟨vs, vs[i]'(by rw [hv.length]; exact hi), SqT.of (s _ _ ha), by simp [hv.length, hi]⟩
  · obtain ⟨z, e1, rfl⟩ := enum_ix e
    obtain ⟨v, k1, k2⟩ := hv.get e1
    obtain ⟨T, u, h1, h2, h3, h4⟩ := y
    have q := h4 vs (SqT.of (s _ _ ha))
    rw [k1] at q; cases q
    exact .inr ⟨T, _, _, h1, h2, h3, rfl, .cons (.int _) (.cons k2 .nil)⟩
end
section
open AutoSeq1 (wpAny_loadPart')
theorem meets_enum_one {v : Value} {o : Obj} {H : Heap → Prop} (B : Begins v o H) :
    Meets (Builtin.«enumerate.__new__» ⟨[.type "enumerate", v], []⟩) (fun _ R s => H s.heap ∧
      R (.ok (.ret (.ref (s.heap.push o).objs.size))) { s with heap := (s.heap.push o).push { cls := .type "enumerate", data := .fields #[.none, .bool false, .ref s.heap.objs.size, rawInt 0, .none, .none] } }) :=
  .of_wp fun prog w A R s h => by
    obtain ⟨hp, g, d, tk, os⟩ := s
    obtain ⟨h1, h⟩ := h
    have hsub := sub_enumerate
    have it1 : ∀ {A' : Around} {E : Value → Shared → Prop} {Q : Value → Shared → Prop}, Q (.ref hp.objs.size) ⟨hp.push o, g, d, tk, os⟩ → wpAny (model prog w) A' (pyIter v) Q E ⟨hp, g, d, tk, os⟩ :=
      fun q => B.iter prog w _ _ ⟨hp, g, d, tk, os⟩ _ h1 q
    wp_walk using it1
    refine wpAny_stack_any fun st => wpAny_pure ?_
    split
    · rename_i c _ _ _ _ _
      cases (c == Value.type "enumerate")
      · wp_walk using it1
        exact ⟨_, rfl, h⟩
      · wp_walk using it1
        exact ⟨_, rfl, h⟩
    · wp_walk using it1
      exact ⟨_, rfl, h⟩
end
section
variable {prog : Program} {w : World} {A : Around} {E : Value → Shared → Prop} {s : Shared}
theorem enum_one {v : Value} {o : Obj} {H : Heap → Prop} {Q : Value → Shared → Prop} (B : Begins v o H) (h1 : H s.heap)
    (h : ∀ h', IsEnum h' (s.heap.objs.size + 1) s.heap.objs.size 0 .none → h'.get? s.heap.objs.size = some o → h'.objs.size = s.heap.objs.size + 2 →
      (∀ b o, s.heap.get? b = some o → h'.get? b = some o) → Q (.ref (s.heap.objs.size + 1)) { s with heap := h' }) : wpAny (model prog w) A (call (.type "enumerate") [v]) Q E s := by
  refine callType_new F.called_enumerate (by decide) (F.typeCall_enumerate_1 _) (F.newCall_enumerate_1 _) (fun obj => F.args_object_init_2 obj _) F.entry_enumerate_new (meets_enum_one B) ⟨h1, ?_⟩
  have hz : (s.heap.push o).objs.size = s.heap.objs.size + 1 := Heap.size_push ..
  show _ ∧ _
  rw [hz]
  have he : IsEnum ((s.heap.push o).push { cls := .type "enumerate", data := .fields #[.none, .bool false, .ref s.heap.objs.size, rawInt 0, .none, .none] }) (s.heap.objs.size + 1) s.heap.objs.size 0 .none := by
    have := Heap.get?_push_size (s.heap.push o) (o := { cls := .type "enumerate", data := .fields #[.none, .bool false, .ref s.heap.objs.size, rawInt 0, .none, .none] }) rfl
    rw [hz] at this; exact this
  exact ⟨⟨_, he, rfl⟩, h _ he (Heap.get?_push_of_some _ (Heap.get?_push_size _ B.free)) (by rw [Heap.size_push, hz]) fun b o x => Heap.get?_push_of_some _ (Heap.get?_push_of_some _ x)⟩
end
theorem turn_enT {P : Program} {w : World} {K : PySem.W.Frag} {elts : List Expr} {kk : Nat} {tpos : Pos} (a e it : Addr) (hae : a ≠ it) :
    Turn P w K (.Tuple elts kk tpos) (ItE K a) [e, it] e (fun i h => (∃ old, IsEnum h e it ((i : Nat) : Int) old) ∧ h.IsTupleIter it a i ∧ e ≠ it ∧ e ≠ a) where
  mem := by simp
  obj := fun i h st b hb => by
    obtain ⟨⟨old, he⟩, ⟨o, ho, hc, hd⟩, _⟩ := st
    rcases (show b = e ∨ b = it by simpa using hb) with z | z
    · rw [z]; exact ⟨_, he, fun v q => nomatch q⟩
    · rw [z]; exact ⟨o, ho, fun v q => by rw [hd] at q; cases q⟩
  keep := fun i h h' st k => let ⟨⟨old, he⟩, hi, hne⟩ := st; ⟨⟨old, k e (by simp) _ he⟩, hi.at fun o q => k it (by simp) o q, hne⟩
  item := by
    intro X hP hw hK hc i pins s σ H E I hf st hg
    subst hP hw hK
    obtain ⟨⟨old, he⟩, hit, hne, hea⟩ := st
    obtain ⟨xs, x, hq, hx⟩ := hg
    obtain ⟨its, rv, p, hz⟩ := I.tuple hq
    obtain ⟨u, hu, ru⟩ := rv.get hx
    have hel : e < s.heap.objs.size := Heap.lt_size he
    have hil : it < s.heap.objs.size := by obtain ⟨_, q, _⟩ := hit; exact Heap.lt_size q
    have hlt : i < its.toArray.size := by rw [List.size_toArray]; exact (List.getElem?_eq_some_iff.mp hu).1
    have Dr := Draws.tuple (prog := X.prog) (w := X.w) (A := X.A.in1) (I.ok.hd hc) it a hae its.toArray
    refine wpAny_pyNext_enum_itemC Dr he ⟨hit, p⟩ hlt hne (by simp [hne, hea]) fun y h' tk hy ho hst' hT hsz hk => ?_
    have ey : y = u := by
      have q1 : its.toArray[i]? = some y := hy
      have q2 : its[i]? = some y := by simpa using q1
      rw [hu] at q2; cases q2; rfl
    subst ey
    refine ⟨_, rfl, wpAny_letOwnedTupleGo_enum (s := { s with heap := h', toks := tk + 1 }) ho fun h'' he' sb => ?_⟩
    have hT2 : h''.get? s.heap.objs.size = some { cls := .type "tuple", data := .seq #[.int i tk, y] } := (sb.2 _ (Nat.ne_of_gt hel)).trans hT
    have new : ObjOk X.prog X.w (upd H s.heap.objs.size (.tup [.int (i : Nat), x])) h'' s.heap.objs.size (.tup [.int (i : Nat), x]) :=
      ⟨by show 2 ≤ sizeLine; decide, [.int i tk, y], .cons ⟨_, rfl⟩ (.cons ru .nil), ⟨_, hT2, rfl, _, rfl⟩⟩
    have I1 : Inv X pins σ (upd H s.heap.objs.size (.tup [.int (i : Nat), x])) { s with heap := h'', toks := tk + 1 } :=
      I.turnedNew (ch := [e, it]) (fun b ob hb q => (sb.2 b (fun z => hb (by simp [z]))).trans (hk b ob (fun z => hb (by simp [z])) (fun z => hb (by simp [z])) q)) hf (Nat.le_refl _) new
    refine ⟨.ref s.heap.objs.size, _, I1, rfl, ⟨_, x, rfl, I.hok.fresh (Nat.le_refl _), rfl, fun ys hy => by rw [I.tuple_inj hy hq]; exact hx⟩, ⟨⟨y, ?_⟩, hst'.1.at fun o q => (sb.2 it (Ne.symm hne)).trans q, hne, hea⟩, fun b hb => ?_⟩
    · have e1 : ((i + 1 : Nat) : Int) = (i : Int) + 1 := by omega
      rw [e1]; exact he'
    · have hb' : b < s.heap.objs.size := by
        rcases (show b = e ∨ b = it by simpa using hb) with z | z
        · rw [z]; exact hel
        · rw [z]; exact hil
      rw [upd_ne (Nat.ne_of_lt hb')]
      exact (hf b hb).1
  done := by
    intro X hP hw hK hc i pins s σ H E I hf st hg
    subst hP hw hK
    obtain ⟨⟨old, he⟩, hit, hne, hea⟩ := st
    obtain ⟨xs, hq, hx⟩ := hg
    obtain ⟨its, rv, p, hz⟩ := I.tuple hq
    obtain ⟨f0, f1, f2, f3, f4, f5⟩ := hf it (by simp)
    have hl : its.toArray.size = i := by rw [List.size_toArray, ← rv.length]; exact hx
    have Dr := Draws.tuple (prog := X.prog) (w := X.w) (A := X.A.in1) (I.ok.hd hc) it a hae its.toArray
    rw [hl] at Dr
    exact wpAny_pyNext_enum_endD Dr he ⟨hit, p⟩ fun h' eb => ⟨rfl, I.turned (t' := s.toks) (fun b o hb q => eb b o hb q) f0 f1 f3 f4 f5⟩
  self := fun A i s Q E st h => let ⟨⟨_, he⟩, _⟩ := st; wpAny_pyIter_enum he h
section
variable {X : Cx} {Z : Zd} {pos : Pos} {tg : Expr}
theorem pi_enumA {e : Expr} {t : TE} {p tpos : Pos} {elts : List Expr} {kk : Nat} (hg : Gl X "enumerate") (hm : X.mg "enumerate" = none) (he : PE X e t) (hs : starEach [e] X.env = (false, eval e X.env) :: starEach [] X.env := by rfl) :
    PI X (.Tuple elts kk tpos) (.Call (.Name "enumerate" p) [e] [] pos) (fun σ H R => t σ H fun x H1 => ∃ a, [x] = [V.ref a] ∧ ((∃ xs, SqL X.K H1 a xs ∧ R (Ite X.K a) H1) ∨ ∃ xs, SqT X.K H1 a xs ∧ R (ItE X.K a) H1)) := by
  refine ⟨fun pins s σ H R I h => ?_⟩
  refine Call_ (ld_blt I hg hm boot_enumerate (PyProof.Rows.callWith_type1 (thn ((pa_cons he pa_nil hs).run pos pins s σ H (fun vs H1 => ∃ a, vs = [V.ref a] ∧ ((∃ xs, SqL X.K H1 a xs ∧ R (Ite X.K a) H1) ∨ ∃ xs, SqT X.K H1 a xs ∧ R (ItE X.K a) H1)) I h)
    fun us s1 ⟨vs, H1, I1, r1, q1⟩ => ?_) hs rfl))
  obtain ⟨a, rfl, q1⟩ := q1
  obtain ⟨u, rfl, ru⟩ := r1.one
  cases ru
  have fresh2 : ∀ b, b ∈ [s1.heap.objs.size + 1, s1.heap.objs.size] → FpOk X pins H1 b := fun b hb => by
    have hle : s1.heap.objs.size ≤ b := by
      rcases (show b = s1.heap.objs.size + 1 ∨ b = s1.heap.objs.size by simpa using hb) with z | z
      · rw [z]; exact Nat.le_succ _
      · rw [z]; exact Nat.le_refl _
    exact I1.fpOk hle (I1.hok.fresh hle)
  rcases q1 with ⟨xs, hq, q⟩ | ⟨xs, hq, q⟩
  · obtain ⟨its, rv, p', hz⟩ := I1.list hq
    refine call_enumerate_list p'.isList fun h' he hit hsz hk => wpAny_pyIter_enum he ?_
    exact ⟨s1.heap.objs.size + 1, [s1.heap.objs.size + 1, s1.heap.objs.size], _, _, H1, rfl, I1.kept (t' := s1.toks) hk, turn_enum a (s1.heap.objs.size + 1) s1.heap.objs.size, ⟨⟨.none, he⟩, hit, Nat.succ_ne_self _⟩, fresh2, q⟩
  · obtain ⟨its, rv, p', hz⟩ := I1.tuple hq
    have lt : a < s1.heap.objs.size := by obtain ⟨_, z, _⟩ := p'; exact Heap.lt_size z
    refine enum_one (begins_tuple a its.toArray) p' fun h' he hit hsz hk => wpAny_pyIter_enum he ?_
    exact ⟨s1.heap.objs.size + 1, [s1.heap.objs.size + 1, s1.heap.objs.size], _, _, H1, rfl, I1.kept (t' := s1.toks) hk, turn_enT a (s1.heap.objs.size + 1) s1.heap.objs.size (Nat.ne_of_lt lt),
      ⟨⟨.none, he⟩, ⟨_, hit, rfl, rfl⟩, Nat.succ_ne_self _, Ne.symm (Nat.ne_of_lt (Nat.lt_succ_of_lt lt))⟩, fresh2, q⟩
theorem qi_enum {e : Expr} {w : XT} {p tpos : Pos} {elts : List Expr} {kk : Nat} (hg : Gl X "enumerate") (hm : X.mg "enumerate" = none) (he : PX X Z e w) (hs : starEach [e] X.env = (false, eval e X.env) :: starEach [] X.env := by rfl) :
    QI X Z (.Tuple elts kk tpos) (.Call (.Name "enumerate" p) [e] [] pos) (iEnum w) := by
  refine ⟨fun ρ k k' hk h => he.mono ρ _ _ (fun r ρ1 ⟨xs, h1, h2⟩ => ⟨xs, h1, hk _ _ h2⟩) h, pi_imp (pi_enumA hg hm he.pe hs) fun σ H Q h => ?_⟩
  obtain ⟨δ, B, ρ, R, h⟩ := h
  refine ⟨δ, B, ρ, R, he.mono ρ _ _ (fun r ρ1 w1 v1 H1 B1 R1 S1 q1 => ?_) h⟩
  obtain ⟨xs, e1, w1⟩ := w1
  obtain ⟨C1, R1', S1', d1⟩ := freeze R1 S1 q1
  generalize r.d = d at e1 d1
  cases d with
  | list ds =>
    cases e1
    obtain ⟨a, vs, rfl, ha, hv⟩ := d1.list_inv
    exact ⟨a, rfl, .inl ⟨vs, SqL.of (R1'.sub _ _ ha), w1 _ H1 C1 R1' S1' (wk_enumL ha hv)⟩⟩
  | tuple ds =>
    cases e1
    obtain ⟨a, vs, rfl, ha, hv⟩ := d1.tuple_inv
    exact ⟨a, rfl, .inr ⟨vs, SqT.of (R1'.sub _ _ ha), w1 _ H1 C1 R1' S1' (wk_enumT ha hv)⟩⟩
  | none => cases e1
  | bool _ => cases e1
  | int _ => cases e1
  | str _ => cases e1
  | dict _ => cases e1
end
end DL

namespace DL
open PySem L2 PyProof.Rows

theorem forL_mono {t : Tg} {b : SS} (hb : MonoS b) : ∀ (ds : List D), MonoS (forL t b ds)
  | [] => fun ρ E E' hE h => hE.nx _ h
  | d :: ds => fun ρ E E' hE h => by
    rw [forL] at h ⊢
    exact tg_mono _ _ _ _ _ (fun ρ1 h1 => hb ρ1 { E with nx := forL t b ds E, ct := forL t b ds E, bk := E.nx } _ ⟨fun ρ2 h2 => forL_mono hb ds ρ2 _ _ hE h2, hE.rt, hE.nx, fun ρ2 h2 => forL_mono hb ds ρ2 _ _ hE h2⟩ h1) h
theorem whileN_mono {t : BT} {b : SS} (ht : MonoB t) (hb : MonoS b) : ∀ (n : Nat), MonoS (whileN t b n)
  | 0 => fun ρ E E' hE h => h
  | n + 1 => fun ρ E E' hE h => by
    rw [whileN] at h ⊢
    refine ht ρ _ _ (fun c ρ1 h1 => ?_) h
    cases c with
    | true => exact hb ρ1 { E with nx := whileN t b n E, ct := whileN t b n E, bk := E.nx } _ ⟨fun ρ2 h2 => whileN_mono ht hb n ρ2 _ _ hE h2, hE.rt, hE.nx, fun ρ2 h2 => whileN_mono ht hb n ρ2 _ _ hE h2⟩ h1
    | false => exact hE.nx _ h1
theorem lcL_mono {t : Tg} {tt : BT} {e : XT} {vs : List Nat} (ht : MonoB tt) (he : MonoX e) : ∀ (ds acc : List D) (ρ : Ev) (k k' : List D → Ev → Prop), (∀ a ρ', k a ρ' → k' a ρ') → lcL t tt e vs ds acc ρ k → lcL t tt e vs ds acc ρ k'
  | [], acc, ρ, k, k', hk, h => by rw [lcL] at h ⊢; exact hk _ _ h
  | d :: ds, acc, ρ, k, k', hk, h => by
    rw [lcL] at h ⊢
    refine tg_mono _ _ _ _ _ (fun ρ1 h1 => ht ρ1 _ _ (fun c ρ2 h2 => ?_) h1) h
    cases c with
    | true => exact he ρ2 _ _ (fun r ρ3 h3 => ⟨h3.1, lcL_mono ht he ds _ _ k k' hk h3.2⟩) h2
    | false => exact lcL_mono ht he ds _ _ k k' hk h2
/-- what is wanted of one turn, by what is wanted of the loop -/
theorem turn_le {Z : Zd} {D0 : Ends} {N : L2.St → Hp → Prop} {δ : Dk} {σ σ' : L2.St} {H B H' B' : Hp} {ρ ρ' : Ev} {G : SS} (S : Stp (MM σ ρ δ) (MM σ' ρ' δ) H B H' B')
    (hN : ∀ σ2 H2 B2 ρ2, Rel Z δ σ2 H2 B2 ρ2 → Stp (MM σ ρ δ) (MM σ2 ρ2 δ) H B H2 B2 → Sub B' B2 → G (Lw Z D0 δ σ H B ρ) ρ2 → N σ2 H2) :
    Wd.le { Lw Z D0 δ σ H B ρ with nx := G (Lw Z D0 δ σ H B ρ), ct := G (Lw Z D0 δ σ H B ρ), bk := (Lw Z D0 δ σ H B ρ).nx } (Lw Z { D0 with nx := N, ct := N, bk := D0.nx } δ σ' H' B' ρ') :=
  ⟨fun ρ2 h σ2 H2 B2 R2 S2 => hN σ2 H2 B2 ρ2 R2 (S.trans S2) S2.bb h, fun r h v σ2 ρ2 H2 B2 R2 S2 q => h v σ2 ρ2 H2 B2 R2 (S.trans S2) (RR.back S q),
    fun ρ2 h σ2 H2 B2 R2 S2 => h σ2 H2 B2 R2 (S.trans S2), fun ρ2 h σ2 H2 B2 R2 S2 => hN σ2 H2 B2 ρ2 R2 (S.trans S2) S2.bb h⟩
section
variable {X : Cx} {Z : Zd} {pos : Pos}
theorem qs_for {tg iter : Expr} {body : List Stmt} {t : Tg} {it : IT} {b : SS} (hp : PassesOwn (model X.prog X.w) X.A X.env X.xe) (hc : X.calm = true) (hi : QI X Z tg iter it) (hg : QG X Z tg t) (hb : QSs X Z body b)
    (hs : ∀ x, foldedSetIterable iter X.env x = pure x := by intro _; rfl) : QS X Z (.For tg iter body [] pos) (sFor t it b) := by
  refine ⟨fun ρ E E' hE h => hi.mono ρ _ _ (fun ds ρ1 h1 => forL_mono hb.mono ds ρ1 _ _ hE h1) h, ps_imp (ps_for hp hc hi.pi hg.pg hb.ps hs) fun E σ H h => ?_⟩
  obtain ⟨δ, B, ρ, R, h⟩ := h
  refine ⟨δ, B, ρ, R, hi.mono ρ _ _ (fun ds ρ1 w1 J H1 B1 R1 S1 wk => ?_) h⟩
  refine ⟨fun i m σ' H' => m = ds.length - i ∧ i ≤ ds.length ∧ ∃ B' ρ', Rel Z δ σ' H' B' ρ' ∧ Stp (MM σ ρ δ) (MM σ' ρ' δ) H B H' B' ∧ Sub B1 B' ∧ forL t b (ds.drop i) (Lw Z E δ σ H B ρ) ρ', ⟨_, rfl, Nat.zero_le _, B1, ρ1, R1, S1, Sub.refl _, w1⟩, ?_⟩
  rintro i m σ' H' ⟨rfl, hil, B', ρ', R', S', sb, hw⟩
  by_cases hlt : i < ds.length
  · have ed : ds.drop i = ds[i] :: ds.drop (i + 1) := List.drop_eq_getElem_cons hlt
    rw [ed, forL] at hw
    have hN : ∀ σ2 H2 B2 ρ2, Rel Z δ σ2 H2 B2 ρ2 → Stp (MM σ ρ δ) (MM σ2 ρ2 δ) H B H2 B2 → Sub B' B2 → forL t b (ds.drop (i + 1)) (Lw Z E δ σ H B ρ) ρ2 →
        (ds.length - (i + 1) = ds.length - (i + 1) ∧ i + 1 ≤ ds.length ∧ ∃ B' ρ', Rel Z δ σ2 H2 B' ρ' ∧ Stp (MM σ ρ δ) (MM σ2 ρ' δ) H B H2 B' ∧ Sub B1 B' ∧ forL t b (ds.drop (i + 1)) (Lw Z E δ σ H B ρ) ρ') :=
      fun σ2 H2 B2 ρ2 R2 S2 s2 q => ⟨rfl, hlt, B2, ρ2, R2, S2, sb.trans s2, q⟩
    refine .inr ⟨wk.go i H' (sb.trans R'.sub) hlt, fun σ2 H2 => (ds.length - (i + 1) = ds.length - (i + 1) ∧ i + 1 ≤ ds.length ∧ ∃ B' ρ', Rel Z δ σ2 H2 B' ρ' ∧ Stp (MM σ ρ δ) (MM σ2 ρ' δ) H B H2 B' ∧ Sub B1 B' ∧ forL t b (ds.drop (i + 1)) (Lw Z E δ σ H B ρ) ρ'),
      fun σ2 H2 q => ⟨ds.length - (i + 1), by omega, q⟩, fun x H2 y => ?_⟩
    have go : ∀ B2, Rel Z δ σ' H2 B2 ρ' → Stp (MM σ ρ δ) (MM σ' ρ' δ) H B H2 B2 → Sub B' B2 → DV B2 x ds[i] →
        LG Z t x σ' H2 (fun σ3 H3 => LS Z b { E with nx := fun σ2 H2 => (ds.length - (i + 1) = ds.length - (i + 1) ∧ i + 1 ≤ ds.length ∧ ∃ B' ρ', Rel Z δ σ2 H2 B' ρ' ∧ Stp (MM σ ρ δ) (MM σ2 ρ' δ) H B H2 B' ∧ Sub B1 B' ∧ forL t b (ds.drop (i + 1)) (Lw Z E δ σ H B ρ) ρ'), ct := fun σ2 H2 => (ds.length - (i + 1) = ds.length - (i + 1) ∧ i + 1 ≤ ds.length ∧ ∃ B' ρ', Rel Z δ σ2 H2 B' ρ' ∧ Stp (MM σ ρ δ) (MM σ2 ρ' δ) H B H2 B' ∧ Sub B1 B' ∧ forL t b (ds.drop (i + 1)) (Lw Z E δ σ H B ρ) ρ'), bk := E.nx } σ3 H3) := fun B2 R2 S2 s2 dv => by
      refine ⟨δ, B2, ρ', ds[i], R2, dv, tg_mono _ _ _ _ _ (fun ρ3 h3 σ3 R3 m3 o3 l3 => ?_) hw⟩
      have S3 : Stp (MM σ ρ δ) (MM σ3 ρ3 δ) H B H2 B2 := ⟨S2.bb, S2.hh, S2.nw, fun a m => S2.mm a (m3 a m), S2.tr⟩
      exact ⟨δ, B2, ρ3, R3, hb.mono ρ3 _ _ (turn_le (G := forL t b (ds.drop (i + 1))) S3 fun σ4 H4 B4 ρ4 R4 S4 s4 q => hN σ4 H4 B4 ρ4 R4 S4 (s2.trans s4) q) h3⟩
    rcases wk.yld i H' x H2 ds[i] (sb.trans R'.sub) (by simp [hlt]) y with ⟨rfl, dv⟩ | ⟨T, xs, es, rfl, hT, rfl, ed2, dvs⟩
    · exact go B' R' S' (Sub.refl _) (dv.mono sb)
    · have bT : B' T = none := R'.free hT
      refine go _ (R'.new hT) (S'.trans (Stp.new R' hT)) (sub_upd bT) ?_
      rw [ed2]
      exact .tup upd_same ((dvs.mono sb).mono (sub_upd bT))
  · have e : i = ds.length := by omega
    subst e
    rw [List.drop_length, forL] at hw
    exact .inl ⟨wk.stop H' (sb.trans R'.sub), hw σ' H' B' R' S'⟩
theorem qs_while {c : Expr} {body : List Stmt} {t : BT} {b : SS} (hp : PassesOwn (model X.prog X.w) X.A X.env X.xe) (hc : PB X Z c t) (hb : QSs X Z body b) : QS X Z (.While c body [] pos) (sWhile t b) := by
  refine ⟨fun ρ E E' hE ⟨n, h⟩ => ⟨n, whileN_mono hc.mono hb.mono n ρ _ _ hE h⟩, ps_imp (ps_while hp hc.pt hb.ps) fun E σ H h => ?_⟩
  obtain ⟨δ, B, ρ, R, n, h⟩ := h
  refine ⟨fun m σ' H' => ∃ B' ρ', Rel Z δ σ' H' B' ρ' ∧ Stp (MM σ ρ δ) (MM σ' ρ' δ) H B H' B' ∧ whileN t b m (Lw Z E δ σ H B ρ) ρ', ⟨n, B, ρ, R, Stp.refl, h⟩, ?_⟩
  rintro m σ' H' ⟨B', ρ', R', S', hw⟩
  cases m with
  | zero => exact False.elim hw
  | succ m =>
    rw [whileN] at hw
    refine ⟨δ, B', ρ', R', hc.mono ρ' _ _ (fun k ρ1 h1 H1 B1 R1 S1 => ?_) hw⟩
    cases k with
    | true =>
      refine ⟨fun σ2 H2 => ∃ B' ρ', Rel Z δ σ2 H2 B' ρ' ∧ Stp (MM σ ρ δ) (MM σ2 ρ' δ) H B H2 B' ∧ whileN t b m (Lw Z E δ σ H B ρ) ρ', fun σ2 H2 q => ⟨m, Nat.lt_succ_self _, q⟩, ?_⟩
      exact ⟨δ, B1, ρ1, R1, hb.mono ρ1 _ _ (turn_le (G := whileN t b m) (S'.trans S1) fun σ4 H4 B4 ρ4 R4 S4 s4 q => ⟨B4, ρ4, R4, S4, q⟩) h1⟩
    | false => exact h1 σ' H1 B1 R1 (S'.trans S1)

theorem wipe_get (σ : L2.St) : ∀ (vs : List Nat) (i : Nat), (i ∉ vs → (wipe σ vs)[i]? = σ[i]?) ∧ (i ∈ vs → i < σ.length → (wipe σ vs)[i]? = some none)
  | [], i => ⟨fun _ => rfl, fun h => by simp at h⟩
  | v :: vs, i => by
    obtain ⟨h1, h2⟩ := wipe_get σ vs i
    refine ⟨fun h => ?_, fun h l => ?_⟩
    · rw [List.mem_cons] at h
      show ((wipe σ vs).set v none)[i]? = _
      rw [set_off fun z => h (.inl z.symm)]; exact h1 fun z => h (.inr z)
    · show ((wipe σ vs).set v none)[i]? = _
      by_cases z : v = i
      · subst z; rw [set_at (by rw [wipe_length]; exact l)]
      · rw [set_off z]
        rcases List.mem_cons.mp h with q | q
        · exact absurd q.symm z
        · exact h2 q l
theorem wipe_eq {σ σ' : L2.St} {vs : List Nat} (hl : σ'.length = σ.length) (h : ∀ i, i ∉ vs → σ'[i]? = σ[i]?) : wipe σ' vs = wipe σ vs := by
  apply List.ext_getElem?
  intro i
  by_cases z : i ∈ vs
  · by_cases l : i < σ.length
    · rw [(wipe_get σ vs i).2 z l, (wipe_get σ' vs i).2 z (by rw [hl]; exact l)]
    · rw [List.getElem?_eq_none (by rw [wipe_length, hl]; omega), List.getElem?_eq_none (by rw [wipe_length]; omega)]
  · rw [(wipe_get σ vs i).1 z, (wipe_get σ' vs i).1 z]; exact h i z
theorem unwipe {δ : Dk} {H B : Hp} : ∀ (vs : List Nat) {σ : L2.St} {ρ : Ev}, Rel Z δ (wipe σ vs) H B ρ → Rel Z δ σ H B (unw ρ vs) ∧ ∀ a, MM σ (unw ρ vs) δ a → MM (wipe σ vs) ρ δ a
  | [], σ, ρ, R => ⟨R, fun _ m => m⟩
  | v :: vs, σ, ρ, R => by
    have e : ((wipe σ vs).set v none).set v ((wipe σ vs)[v]?.getD none) = wipe σ vs := by
      rw [List.set_set]
      apply List.ext_getElem?
      intro i
      by_cases z : v = i
      · subst z
        by_cases l : v < (wipe σ vs).length
        · rw [set_at l, List.getElem?_eq_getElem l]; rfl
        · rw [List.getElem?_eq_none (by simpa using l), List.getElem?_eq_none (by simpa using l)]
      · rw [set_off z]
    have R1 : Rel Z δ (wipe σ vs) H B (ρ.set v .un) := by
      have q := Rel.setUn (i := v) (x := (wipe σ vs)[v]?.getD none) (show Rel Z δ ((wipe σ vs).set v none) H B ρ from R)
      rw [e] at q
      exact q
    obtain ⟨h1, h2⟩ := unwipe vs R1
    refine ⟨h1, fun a m => ?_⟩
    have m2 := h2 a m
    rcases m2 with ⟨j, ds, e1, e2⟩ | m2
    · rcases set_get e1 with ⟨_, z, _⟩ | ⟨z, e1⟩
      · cases z
      · exact .inl ⟨j, ds, e1, by show ((wipe σ vs).set v none)[j]? = _; rw [set_off z]; exact e2⟩
    · exact .inr m2
/-- tests of a comprehension -/
structure QTs (X : Cx) (Z : Zd) (ifs : List Expr) (w : BT) : Prop where
  mono : MonoB w
  pt : PTs X ifs (LB Z w)
theorem pts_imp {e : List Expr} {t t' : TT} (h : PTs X e t) (k : ∀ σ H Q, t' σ H Q → t σ H Q) : PTs X e t' := ⟨fun pins s σ H Q I q => h.run pins s σ H Q I (k σ H Q q)⟩
theorem qts_nil : QTs X Z [] bYes := ⟨fun _ _ _ hk h => hk _ _ h, pts_imp pts_nil fun σ H Q ⟨δ, B, ρ, R, h⟩ => h H B R Stp.refl⟩
theorem qts_one {c : Expr} {w : BT} (h : PB X Z c w) : QTs X Z [c] w := ⟨h.mono, pts_one h.pt⟩
theorem LX.lc {t : Tg} {it : IT} {tt : BT} {e : XT} {vs : List Nat} (hi : MonoA it) (ht : MonoB tt) (he : MonoX e) (hv : ∀ i ∈ tgIx t, i ∈ vs) {σ : L2.St} {H : Hp} {Q : VK} (h : LX Z (xLc t it tt e vs) σ H Q) :
    tLc (LI Z it) (LG Z t) (LB Z tt) (LX Z e) vs σ H Q := by
  obtain ⟨δ, B, ρ, R, h⟩ := h
  refine ⟨δ, B, ρ, R, hi ρ _ _ (fun ds ρ1 w1 J H1 B1 R1 S1 wk => ?_) h⟩
  intro L hL
  have noL : ¬ MM σ ρ1 δ L := fun m => (MM.tracked R1 m).1 hL
  let K : List D → Ev → Prop := fun acc ρ2 => ∀ v H' B', Rel Z δ σ H' B' (unw ρ2 vs) → Stp (MM σ ρ δ) (MM σ (unw ρ2 vs) δ) H B H' B' → RR (MM σ ρ δ) H H' B' (MM σ (unw ρ2 vs) δ) v (.ow acc) → Q v H'
  have w1 : lcL t tt e vs ds [] (wipeE ρ1 vs) K := w1
  let W : Nat → Hp → Prop := fun i H' => i ≤ ds.length ∧ ∃ B' ρ' acc us, Rel Z δ (wipe σ vs) H' B' ρ' ∧ Stp (MM σ ρ δ) (MM (wipe σ vs) ρ' δ) H B H' B' ∧ Sub B1 B' ∧ B' L = none ∧ ¬ MM (wipe σ vs) ρ' δ L ∧ H' L = some (.lst us) ∧ DVs B' us acc ∧ lcL t tt e vs (ds.drop i) acc ρ' K
  refine ⟨fun i m H' => m = ds.length - i ∧ W i H', ⟨_, rfl, Nat.zero_le _, B1, wipeE ρ1 vs, [], [], wipe_rel vs (R1.own hL), ?_, Sub.refl _, R1.free hL, fun m => noL (wipe_MM vs m), upd_same, .nil, w1⟩, ?_⟩
  · have S := S1.trans (Stp.own R1 (o := .lst []) hL)
    exact ⟨S.bb, S.hh, S.nw, fun a m => S.mm a (wipe_MM vs m), S.tr⟩
  rintro i m H' ⟨rfl, hil, B', ρ', acc, us, R', S', sb, bL, mL, eL, dL, hw⟩
  by_cases hlt : i < ds.length
  · have ed : ds.drop i = ds[i] :: ds.drop (i + 1) := List.drop_eq_getElem_cons hlt
    rw [ed, lcL] at hw
    refine .inr ⟨wk.go i H' (sb.trans R'.sub) hlt, fun H2 => ds.length - (i + 1) = ds.length - (i + 1) ∧ W (i + 1) H2, fun H2 q => ⟨ds.length - (i + 1), by omega, q⟩, fun x H2 y => ?_⟩
    have go : ∀ B2, Rel Z δ (wipe σ vs) H2 B2 ρ' → Stp (MM (wipe σ vs) ρ' δ) (MM (wipe σ vs) ρ' δ) H' B' H2 B2 → DV B2 x ds[i] →
        LG Z t x (wipe σ vs) H2 (fun σ2 H2 => wipe σ2 vs = wipe σ vs ∧ LB Z tt σ2 H2 fun b H3 => if b = true then LX Z e σ2 H3 fun y H4 => ∃ acc, H4 L = some (.lst acc) ∧ acc.length < sizeLine ∧
          (ds.length - (i + 1) = ds.length - (i + 1) ∧ W (i + 1) (upd H4 L (.lst (acc ++ [y])))) else (ds.length - (i + 1) = ds.length - (i + 1) ∧ W (i + 1) H3)) := fun B2 R2 S2 dv => by
      refine ⟨δ, B2, ρ', ds[i], R2, dv, tg_mono _ _ _ _ _ (fun ρ3 h3 σ3 R3 m3 o3 l3 => ?_) hw⟩
      have ew : wipe σ3 vs = wipe σ vs := by
        have q : wipe σ3 vs = wipe (wipe σ vs) vs := wipe_eq l3 fun j hj => o3 j fun z => hj (hv j z)
        rw [q]
        exact wipe_eq (wipe_length σ vs) fun j hj => (wipe_get σ vs j).1 hj
      have S3 : Stp (MM (wipe σ vs) ρ' δ) (MM σ3 ρ3 δ) H' B' H2 B2 := ⟨S2.bb, S2.hh, S2.nw, fun a m => S2.mm a (m3 a m), S2.tr⟩
      -- the list in the making stays as it is while more is reckoned
      have stay : ∀ {H4 B4 : Hp} {M4 : Addr → Prop}, Stp (MM (wipe σ vs) ρ' δ) M4 H' B' H4 B4 → H4 L = some (.lst us) ∧ B4 L = none ∧ ¬ M4 L := fun {H4 B4 M4} S4 => by
        refine ⟨S4.hh L _ eL mL, ?_, fun z => ?_⟩
        · cases q : B4 L with
          | none => rfl
          | some o =>
            rcases S4.nw L (by rw [q]; simp) with z | z | z
            · exact absurd bL z
            · rw [eL] at z; cases z
            · exact absurd z mL
        · rcases S4.mm L z with z | z
          · exact mL z
          · rw [eL] at z; cases z
      refine ⟨ew, δ, B2, ρ3, R3, ht ρ3 _ _ (fun c ρ4 h4 H4 B4 R4 S4 => ?_) h3⟩
      have S34 := S3.trans S4
      cases c with
      | true =>
        refine ⟨δ, B4, ρ4, R4, he ρ4 _ _ (fun r ρ5 h5 v5 H5 B5 R5 S5 q5 => ?_) h4⟩
        obtain ⟨C5, R5', S5', d5⟩ := freeze R5 S5 q5
        have S35 := S34.trans S5'
        obtain ⟨k1, k2, k3⟩ := stay S35
        have lu : us.length ≤ 1000000 := by rw [dL.length]; exact h5.1
        refine ⟨us, k1, Nat.lt_of_le_of_lt lu (by decide), rfl, hlt, C5, wipeE ρ5 vs, acc ++ [r.d], us ++ [v5], ?_, ?_, ?_, k2, fun m => k3 (wipe_MM vs (by rw [← ew] at m; exact m)), upd_same, (dL.mono S35.bb).append (.cons d5 .nil), h5.2⟩
        · have R6 : Rel Z δ σ3 (upd H5 L (.lst (us ++ [v5]))) C5 ρ5 := by
            refine ⟨R5'.len, fun a o q => ?_, R5'.va, fun j fs q => ?_, R5'.sep, R5'.dk, fun p fp q => ?_, R5'.sc, R5'.sm⟩
            · rw [upd_ne fun z => by rw [z, k2] at q; cases q]; exact R5'.sub a o q
            · obtain ⟨p, ws, j1, j2, j3, j4⟩ := R5'.ow j fs q
              refine ⟨p, ws, j1, j2, ?_, j4⟩
              rw [upd_ne fun z => k3 (.inl ⟨j, fs, q, by rw [← z]; exact j1⟩)]; exact j3
            · obtain ⟨j1, j2, j3⟩ := R5'.dok p fp q
              have ne : ∀ a ∈ fp, a ≠ L := fun a ha z => k3 (.inr ⟨p, fp, q, by rw [← z]; exact ha⟩)
              exact ⟨Z.loc _ _ _ _ j1 fun a ha => upd_ne (ne a ha), fun a ha => ⟨(j2 a ha).1, by rw [upd_ne (ne a ha)]; exact (j2 a ha).2⟩, j3⟩
          have q := wipe_rel vs R6
          rw [ew] at q
          exact q
        · have S := S'.trans S35
          refine ⟨S.bb, fun a o q m => ?_, S.nw, fun a m => S.mm a (wipe_MM vs (by rw [← ew] at m; exact m)), fun a q => S.tr a (upd_none q)⟩
          have nL : a ≠ L := fun z => by
            subst z
            have z1 := S1.hh a o q m
            rw [hL] at z1; cases z1
          rw [upd_ne nL]
          exact S.hh a o q m
        · exact sb.trans S35.bb
      | false =>
        obtain ⟨k1, k2, k3⟩ := stay S34
        refine ⟨rfl, hlt, B4, wipeE ρ4 vs, acc, us, ?_, ?_, sb.trans S34.bb, k2, fun m => k3 (wipe_MM vs (by rw [← ew] at m; exact m)), k1, dL.mono S34.bb, h4⟩
        · have q := wipe_rel vs R4
          rw [ew] at q
          exact q
        · have S := S'.trans S34
          exact ⟨S.bb, S.hh, S.nw, fun a m => S.mm a (wipe_MM vs (by rw [← ew] at m; exact m)), S.tr⟩
    rcases wk.yld i H' x H2 ds[i] (sb.trans R'.sub) (by simp [hlt]) y with ⟨rfl, dv⟩ | ⟨T, xs, es, rfl, hT, rfl, ed2, dvs⟩
    · exact go B' R' Stp.refl (dv.mono sb)
    · have bT : B' T = none := R'.free hT
      refine go _ (R'.new hT) (Stp.new R' hT) ?_
      rw [ed2]
      exact .tup upd_same ((dvs.mono sb).mono (sub_upd bT))
  · have e : i = ds.length := by omega
    subst e
    rw [List.drop_length, lcL] at hw
    obtain ⟨R2, m2⟩ := unwipe vs R'
    refine .inl ⟨wk.stop H' (sb.trans R'.sub), hw (.ref L) H' B' R2 ⟨S'.bb, S'.hh, S'.nw, fun a m => S'.mm a (m2 a m), S'.tr⟩ ⟨L, us, rfl, .inl (S1.tr L hL), bL, fun m => mL (m2 L m), eL, dL⟩⟩
theorem monoLc {t : Tg} {it : IT} {tt : BT} {e : XT} {vs : List Nat} (hi : MonoA it) (ht : MonoB tt) (he : MonoX e) : MonoX (xLc t it tt e vs) :=
  fun ρ k k' hk h => hi ρ _ _ (fun ds ρ1 h1 => lcL_mono ht he ds _ _ _ _ (fun a ρ2 h2 => hk _ _ h2) h1) h
theorem px_lc {elt tg iter : Expr} {ifs : List Expr} {scope : Scope} {own : List (Str × Nat)} {t : Tg} {it : IT} {tt : BT} {w : XT} (hc : X.calm = true) (hN : X.N.Nodup) (hi : QI X Z tg iter it) (ok : BlkOk X.N X.env.scope scope own)
    (hg : ∀ (s : Shared) (H : Hp) (C : Addr) (cl : List (Str × Addr)) (fp : List Addr), QG (X.blk s H scope (compEnvC scope cl C X.env) fp) Z tg t) (ht : ∀ (s : Shared) (H : Hp) (C : Addr) (cl : List (Str × Addr)) (fp : List Addr), QTs (X.blk s H scope (compEnvC scope cl C X.env) fp) Z ifs tt)
    (he : ∀ (s : Shared) (H : Hp) (C : Addr) (cl : List (Str × Addr)) (fp : List Addr), PX (X.blk s H scope (compEnvC scope cl C X.env) fp) Z elt w) (hv : ∀ i ∈ tgIx t, i ∈ own.map (·.2) := by decide) (hs : ∀ x, foldedSetIterable iter X.env x = pure x := by intro _; rfl) :
    PX X Z (.ListComp elt [⟨tg, iter, ifs, 0⟩] scope pos) (xLc t it tt w (own.map (·.2))) :=
  have mt : MonoB tt := (ht X.s_0 (fun _ => none) 0 [] []).mono
  have mw : MonoX w := (he X.s_0 (fun _ => none) 0 [] []).mono
  ⟨monoLc hi.mono mt mw, pe_imp (pe_lc hc hN hi.pi ok (fun s H C cl fp => (hg s H C cl fp).pg) (fun s H C cl fp => (ht s H C cl fp).pt) (fun s H C cl fp => (he s H C cl fp).pe) hs) fun σ H Q h => LX.lc hi.mono mt mw hv h⟩
end
end DL

namespace DL
open PySem L2 PyProof.Rows

/-- a def's promise where no repr is under way -/
structure FnG (P : Program) (w : World) (K : PySem.W.Frag) (mg : Str → Option Value) (base : Heap) (CX : CXT) (k : Nat) (f : Addr) (fd : FuncData) (ps : List Str) (sp : Sp) : Prop where
  len : ∀ vs H Q E, sp vs H Q E → vs.length = ps.length
  run : ∀ (A : Around), Room k A → A.guards = some [] → ∀ (outer : List Env) (s : Shared) (H : Hp), Env0 P w K mg base A outer s H →
    ∀ (args : Args) (us : List Value) (vs : List V), BindsTo s fd args (ps.zip us) → Vals vs us → ∀ (Q : VK) (E : XK), sp vs H Q E →
    codeAny (model P w) A (.call (.ref f) args) (CR CX outer P w H s Q E) s
theorem FnG.up {P : Program} {w : World} {K : PySem.W.Frag} {mg : Str → Option Value} {base : Heap} {CX : CXT} {j k : Nat} {f : Addr} {fd : FuncData} {ps : List Str} {sp : Sp} (F : FnG P w K mg base CX j f fd ps sp) (h : j ≤ k) : FnG P w K mg base CX k f fd ps sp :=
  ⟨F.len, fun A hr => F.run A (hr.mono h)⟩

def Md (δ : Dk) (a : Addr) : Prop := ∃ p fp, δ = some (p, fp) ∧ a ∈ fp
def DkOk (Z : Zd) (δ : Dk) (H B : Hp) : Prop := ∀ p fp, δ = some (p, fp) → Z.dk H p fp ∧ ∀ a ∈ fp, B a = none ∧ H a ≠ none
def spOf (Z : Zd) (C : Con) : Sp := fun vs H Q _ => ∃ δ B as, Sub B H ∧ ArVs B δ vs as ∧ DkOk Z δ H B ∧ Smk Z B ∧
  C as fun r => ∀ v H' B', Sub B' H' → DkOk Z δ H' B' → Stp (Md δ) (Md δ) H B H' B' → RR (Md δ) H H' B' (Md δ) v r → Q v H'
@[reducible] def Ar.en : Ar → En
  | .va d => .va d
  | .dk => .dk
theorem ArVs.length {B : Hp} {δ : Dk} {vs : List V} {as : List Ar} (h : ArVs B δ vs as) : vs.length = as.length := by
  induction vs generalizing as with
  | nil => cases h; rfl
  | cons a r ih => cases h with | cons _ q => simp [ih q]
theorem ArVs.get {B : Hp} {δ : Dk} {vs : List V} {as : List Ar} (h : ArVs B δ vs as) {i : Nat} {a : Ar} (e : as[i]? = some a) : ∃ v, vs[i]? = some v ∧ ArV B δ v a := by
  induction vs generalizing as i with
  | nil => cases h; simp at e
  | cons x r ih =>
    cases h with
    | cons p q =>
      cases i with
      | zero => simp at e; subst e; exact ⟨x, by simp, p⟩
      | succ j =>
        obtain ⟨v, h1, h2⟩ := ih q (i := j) (by simpa using e)
        exact ⟨v, by simpa using h1, h2⟩
section
variable {Z : Zd} {δ : Dk} {H B : Hp}
theorem entry_get {as : List Ar} {n i : Nat} {en : En} (hn : en ≠ .un) (e : (as.map Ar.en ++ List.replicate n En.un)[i]? = some en) : ∃ a, as[i]? = some a ∧ a.en = en := by
  by_cases l : i < as.length
  · rw [List.getElem?_append_left (by simpa using l), List.getElem?_map] at e
    cases q : as[i]? with
    | none => rw [q] at e; cases e
    | some a => rw [q] at e; cases e; exact ⟨a, rfl, rfl⟩
  · rw [List.getElem?_append_right (by simpa using l), List.getElem?_replicate] at e
    split at e
    · cases e; exact absurd rfl hn
    · cases e
theorem entry_rel {as : List Ar} {vs : List V} {n : Nat} (hs : Sub B H) (ha : ArVs B δ vs as) (hk : DkOk Z δ H B) (hm : Smk Z B) : Rel Z δ (vs.map some ++ List.replicate n none) H B (as.map Ar.en ++ List.replicate n En.un) := by
  have atv : ∀ {i : Nat} {v : V}, vs[i]? = some v → (vs.map some ++ List.replicate n none)[i]? = some (some v) := fun {i v} e => by
    rw [List.getElem?_append_left (by simpa using (List.getElem?_eq_some_iff.mp e).1), List.getElem?_map, e]; rfl
  have noow : ∀ {i : Nat} {ds : List D}, (as.map Ar.en ++ List.replicate n En.un)[i]? ≠ some (.ow ds) := fun {i ds} e => by
    obtain ⟨a, _, h2⟩ := entry_get (by intro z; cases z) e
    cases a <;> cases h2
  refine ⟨by simp [ha.length], hs, fun i d e => ?_, fun i ds e => absurd e noow, fun i j ds es p e _ _ _ => absurd e noow, fun i e => ?_, fun p fp e => ?_, fun i ns e => ?_, hm⟩
  · obtain ⟨a, h1, h2⟩ := entry_get (by intro z; cases z) e
    cases a with
    | va d' =>
      cases h2
      obtain ⟨v, k1, k2⟩ := ha.get h1
      cases k2 with
      | va k2 => exact ⟨v, atv k1, k2⟩
    | dk => cases h2
  · obtain ⟨a, h1, h2⟩ := entry_get (by intro z; cases z) e
    cases a with
    | va d' => cases h2
    | dk =>
      obtain ⟨v, k1, k2⟩ := ha.get h1
      cases k2 with
      | dk k2 => exact ⟨_, _, k2, atv k1⟩
  · obtain ⟨h1, h2⟩ := hk p fp e
    exact ⟨h1, h2, fun a ha j ds q => absurd q noow⟩
  · obtain ⟨a, h1, h2⟩ := entry_get (by intro z; cases z) e
    cases a <;> cases h2
theorem entry_MM {as : List Ar} {σ : L2.St} {n : Nat} {a : Addr} : MM σ (as.map Ar.en ++ List.replicate n En.un) δ a ↔ Md δ a := by
  refine ⟨fun m => ?_, fun m => .inr m⟩
  rcases m with ⟨j, ds, e, _⟩ | m
  · obtain ⟨b, _, h2⟩ := entry_get (by intro z; cases z) e
    cases b <;> cases h2
  · exact m
theorem Stp.md {M M' : Addr → Prop} {H' B' : Hp} (h1 : ∀ a, M a ↔ Md δ a) (h2 : ∀ a, Md δ a → M' a) (S : Stp M M' H B H' B') : Stp (Md δ) (Md δ) H B H' B' :=
  ⟨S.bb, fun a o e m => S.hh a o e fun z => m ((h1 a).mp z), fun a e => by
    rcases S.nw a e with z | z | z
    · exact .inl z
    · exact .inr (.inl z)
    · exact .inr (.inr ((h1 a).mp z)), fun a m => .inl m, S.tr⟩
theorem RR.md {M M' : Addr → Prop} {H' B' : Hp} {v : V} {r : Rt} (h1 : ∀ a, M a ↔ Md δ a) (h2 : ∀ a, Md δ a → M' a) (q : RR M H H' B' M' v r) : RR (Md δ) H H' B' (Md δ) v r := by
  cases r with
  | va d => exact q
  | ow ds =>
    obtain ⟨p, vs, k1, k2, k3, k4, k5⟩ := q
    exact ⟨p, vs, k1, k2.imp id (h1 p).mp, k3, fun z => k4 (h2 p z), k5⟩
theorem Rel.dkok {σ : L2.St} {ρ : Ev} (R : Rel Z δ σ H B ρ) : DkOk Z δ H B := fun p fp e => let ⟨h1, h2, _⟩ := R.dok p fp e; ⟨h1, h2⟩
/-- a body's reading keeps the promise -/
theorem body_keeps {C : Con} {w : SS} {n : Nat} {vs : List V} {Q : VK} {E : XK} (mw : MonoS w) (hC : ∀ as k, C as k → w { nx := fun _ => k (.va .none), rt := k } (as.map Ar.en ++ List.replicate n En.un)) (h : spOf Z C vs H Q E) :
    LS Z w { nx := fun _ H' => Q .non H', rt := Q } (vs.map some ++ List.replicate n none) H := by
  obtain ⟨δ, B, as, hs, ha, hk, hm, h⟩ := h
  have R := entry_rel (n := n) hs ha hk hm
  refine ⟨δ, B, _, R, mw _ _ _ ⟨fun ρ1 k1 σ1 H1 B1 R1 S1 => ?_, fun r k1 v σ1 ρ1 H1 B1 R1 S1 q1 => ?_, fun _ z => False.elim z, fun _ z => False.elim z⟩ (hC as _ h)⟩
  · exact k1 .non H1 B1 R1.sub R1.dkok (S1.md (fun a => entry_MM) fun a m => .inr m) .non
  · exact k1 v H1 B1 R1.sub R1.dkok (S1.md (fun a => entry_MM) fun a m => .inr m) (q1.md (fun a => entry_MM) fun a m => .inr m)
/-- behind a def's call -/
theorem call_after {σ : L2.St} {H' B' : Hp} {ρ : Ev} {v : V} {r : Rt} (R : Rel Z δ σ H B ρ) (hs : Sub B' H') (hk : DkOk Z δ H' B') (S : Stp (Md δ) (Md δ) H B H' B') (q : RR (Md δ) H H' B' (Md δ) v r) :
    Rel Z δ σ H' B' ρ ∧ Stp (MM σ ρ δ) (MM σ ρ δ) H B H' B' ∧ RR (MM σ ρ δ) H H' B' (MM σ ρ δ) v r := by
  have notd : ∀ {i : Nat} {ds : List D} {p : Addr}, ρ[i]? = some (.ow ds) → σ[i]? = some (some (.ref p)) → ¬ Md δ p := fun {i ds p} e1 e2 m => by
    obtain ⟨t, fp, e, ha⟩ := m
    exact (R.dok t fp e).2.2 p ha i ds e1 e2
  refine ⟨⟨R.len, hs, fun i d e => ?_, fun i ds e => ?_, R.sep, R.dk, fun p fp e => ?_, fun i ns e => ?_, R.sm.mono S.bb⟩, ⟨S.bb, fun a o e m => S.hh a o e fun z => m (.inr z), fun a e => ?_, fun a m => .inl m, S.tr⟩, ?_⟩
  · obtain ⟨u, h1, h2⟩ := R.va i d e
    exact ⟨u, h1, h2.mono S.bb⟩
  · obtain ⟨p, us, h1, h2, h3, h4⟩ := R.ow i ds e
    refine ⟨p, us, h1, ?_, S.hh p _ h3 (notd e h1), h4.mono S.bb⟩
    cases z : B' p with
    | none => rfl
    | some o =>
      rcases S.nw p (by rw [z]; simp) with z | z | z
      · exact absurd h2 z
      · rw [h3] at z; cases z
      · exact absurd z (notd e h1)
  · obtain ⟨h1, h2⟩ := hk p fp e
    exact ⟨h1, h2, (R.dok p fp e).2.2⟩
  · obtain ⟨a, h1, h2⟩ := R.sc i ns e
    refine ⟨a, h1, ?_⟩
    rcases h2 with (h2 | ⟨o, h2⟩) | h2
    · exact .inl (.inl (S.bb _ _ h2))
    · exact .inl (.inr ⟨o, S.bb _ _ h2⟩)
    · exact .inr h2
  · rcases S.nw a e with z | z | z
    · exact .inl z
    · exact .inr (.inl z)
    · exact .inr (.inr (.inr z))
  · cases r with
    | va d => exact q
    | ow ds =>
      obtain ⟨p, us, k1, k2, k3, k4, k5, k6⟩ := q
      have hn : H p = none := k2.elim id fun z => absurd z k4
      exact ⟨p, us, k1, .inl hn, k3, fun m => (MM.tracked R m).1 hn, k5, k6⟩
end

section
variable {X : Cx} {Z : Zd} {k : Nat} {f : Addr} {fd : FuncData} {ps ks : List Str} {C : Con} {x : Str} {p pos : Pos} {e : Expr} {es : List Expr} {kws : List Keyword} {a b : CT}
theorem fin_call {sp : Sp} {pins : List (Addr × Obj)} {σ : L2.St} {H : Hp} {s : Shared} {Q : VK} {us ws : List Value} {vs : List V} {kk : List (Str × Value)} (F : FnG X.prog X.w X.K X.mg X.base CX0 k f fd ps sp) (hr : Room k X.A) (hG : X.A.guards = some [])
    (I : L2.Inv X pins σ H s) (hb : BindsTo s fd ⟨us, kk⟩ (ps.zip ws)) (r : Vals vs ws) (h : sp vs H Q E0) : wpAny (model X.prog X.w) X.A (call (.ref f) us kk) (EP X pins σ Q) X.xe s := by
  have go := F.run X.A hr hG X.stack s H I.env0 ⟨us, kk⟩ ws vs hb r Q E0 h
  refine wpAny_call (codeAny_mono go fun z s' hq => ?_)
  match z, hq with
  | .error e, hq => exact False.elim hq
  | .ok (.ret u), hq => exact I.after hq
  | .ok .next, hq => exact False.elim hq
  | .ok .brk, hq => exact False.elim hq
  | .ok .cont, hq => exact False.elim hq
/-- what a call of a def reads as -/
theorem spOf_of {σ : L2.St} {H : Hp} {vs : List V} {Q : VK} {as : List Ar} {δ0 : Dk} {B0 : Hp} {ρ0 ρ : Ev} {H0 B : Hp} {δ : Dk} {kk : Rt → Prop} {E : XK} (mC : MonoK C) (R : Rel Z δ σ H B ρ) (ha : ArVs B δ vs as) (h : C as kk)
    (fin : ∀ r, kk r → ∀ v H' B', Rel Z δ σ H' B' ρ → Stp (MM σ ρ δ) (MM σ ρ δ) H B H' B' → RR (MM σ ρ δ) H H' B' (MM σ ρ δ) v r → Q v H') : spOf Z C vs H Q E :=
  ⟨δ, B, as, R.sub, ha, R.dkok, R.sm, mC as _ _ (fun r hk v H' B' hs hd S q => by
    obtain ⟨R', S', q'⟩ := call_after R hs hd S q
    exact fin r hk v H' B' R' S' q') h⟩
theorem monoDef {a : CT} (mC : MonoK C) (ha : MonoC a) : MonoX (xDef C a) := fun ρ k k' hk h => ha ρ _ _ (fun as ρ1 h1 => mC as _ _ (fun r h2 => hk _ _ h2) h1) h
theorem px_def (F : FnG X.prog X.w X.K X.mg X.base CX0 k f fd ps (spOf Z C)) (mC : MonoK C) (hr : Room k X.A) (hG : X.A.guards = some []) (hg : Gl X x) (hm : X.mg x = some (.ref f)) (hk : PySem.W.keepIn X.K (.ref f) = true) (hb : Binds X.K fd ps [])
    (ha : QC X Z (e :: es) a) (hdb : (x == ("__debug__" : Str)) = false := by decide) (he : starEach (e :: es) X.env = (false, eval e X.env) :: starEach es X.env := by rfl) (hpl : (backTo pos (starEach es X.env)).any (·.1) = false := by rfl) :
    PX X Z (.Call (.Name x p) (e :: es) [] pos) (xDef C a) := by
  refine ⟨monoDef mC ha.mono, ⟨fun pins s σ H Q I h => ?_⟩⟩
  obtain ⟨δ, B, ρ, R, h⟩ := h
  refine wpAny_Call_Name_kw (ld_glob I hg hm ?_ hdb)
  have args := ha.pa.run pos pins s σ H (fun vs H1 => spOf Z C vs H1 Q E0) I ⟨δ, B, ρ, R, ha.mono ρ _ _ (fun as ρ1 h1 vs H1 B1 R1 S1 q1 => ?_) h⟩
  · refine PySem.W.callWith_K (h₀ := X.base) I.ok.mod.kin hk (thn args fun us s1 ⟨vs, H1, I1, r, q⟩ => ⟨I1.kIn, ?_⟩) he hpl
    have l1 : (us ++ []).length = ps.length := by rw [List.append_nil, ← r.length]; exact F.len _ _ _ _ q
    have bd := hb s1 us I1.kIn l1
    rw [List.append_nil] at bd
    exact fin_call F hr hG I1 bd r q
  · exact spOf_of (δ0 := δ) (B0 := B) (ρ0 := ρ) (H0 := H) mC R1 q1 h1 fun r hk v H' B' R' S' q' => hk v H' B' R' (S1.trans S') (RR.back S1 q')
structure QK (X : Cx) (Z : Zd) (kws : List Keyword) (w : CT) : Prop where
  mono : MonoC w
  pk : PK X kws (LC Z w)
theorem pk_imp {e : List Keyword} {t t' : TA} (h : PK X e t) (q : ∀ σ H Q, t' σ H Q → t σ H Q) : PK X e t' := ⟨fun pos pins s σ H Q I z => h.run pos pins s σ H Q I (q σ H Q z)⟩
theorem qk_nil : QK X Z [] cNil := ⟨fun _ _ _ hk h => hk _ _ h, pk_imp pk_nil fun σ H Q ⟨δ, B, ρ, R, h⟩ => h [] H B R Stp.refl .nil⟩
theorem qk_va {nm : Option Str} {kpos : Pos} {w : XT} (he : PX X Z e w) (ha : QK X Z kws a) : QK X Z (⟨nm, e, kpos⟩ :: kws) (cVa w a) := by
  refine ⟨fun ρ k k' hk h => he.mono ρ _ _ (fun r ρ1 h1 => ha.mono ρ1 _ _ (fun ds ρ2 h2 => hk _ _ h2) h1) h, pk_imp (pk_cons he.pe ha.pk) fun σ H Q h => ?_⟩
  obtain ⟨δ, B, ρ, R, h⟩ := h
  refine ⟨δ, B, ρ, R, he.mono ρ _ _ (fun x ρ1 h1 v1 H1 B1 R1 S1 q1 => ?_) h⟩
  obtain ⟨C1, R1', S1', d1⟩ := freeze R1 S1 q1
  refine ⟨δ, C1, ρ1, R1', ha.mono ρ1 _ _ (fun ds ρ2 h2 vs H2 B2 R2 S2 q2 => ?_) h1⟩
  exact h2 (v1 :: vs) H2 B2 R2 (S1'.trans S2) (.cons (.va (d1.mono S2.bb)) q2)
/-- how keywords bind -/
def KwB (fd : FuncData) (ps ks : List Str) (π : List Nat) : Prop := π.length = ps.length ∧ (∀ i ∈ π, i < ks.length) ∧ ∀ ws : List Value, ws.length = ks.length → bindArgs fd ⟨[], ks.zip ws⟩ = pure (ps.zip (π.map fun i => ws.getD i .none))
theorem picked {B : Hp} {δ : Dk} {vs : List V} {us : List Value} {as : List Ar} (r : Vals vs us) (h : ArVs B δ vs as) : ∀ (π : List Nat), (∀ i ∈ π, i < as.length) →
    ∃ ws, Vals ws (π.map fun i => us.getD i .none) ∧ ArVs B δ ws (π.map fun i => as.getD i (.va .none))
  | [], _ => ⟨[], .nil, .nil⟩
  | i :: π, hi => by
    obtain ⟨ws, h1, h2⟩ := picked r h π fun j hj => hi j (List.mem_cons_of_mem _ hj)
    have l := hi i List.mem_cons_self
    obtain ⟨v, k1, k2⟩ := h.get (i := i) (a := as[i]) (by simp [l])
    obtain ⟨u, k3, k4⟩ := r.get k1
    refine ⟨v :: ws, .cons ?_ h1, .cons ?_ h2⟩
    · show RelV v (us.getD i .none)
      rw [List.getD_eq_getElem?_getD, k3]; exact k4
    · show ArV B δ v (as.getD i (.va .none))
      rw [List.getD_eq_getElem?_getD, List.getElem?_eq_getElem l]; exact k2
theorem px_defK {π : List Nat} (F : FnG X.prog X.w X.K X.mg X.base CX0 k f fd ps (spOf Z C)) (mC : MonoK C) (hr : Room k X.A) (hG : X.A.guards = some []) (hg : Gl X x) (hm : X.mg x = some (.ref f)) (hk : PySem.W.keepIn X.K (.ref f) = true) (hb : KwB fd ps ks π)
    (ha : QK X Z kws a) (hl : ∀ ρ (q : List Ar → Ev → Prop), a ρ q → a ρ fun as ρ' => as.length = ks.length ∧ q as ρ') (hdb : (x == ("__debug__" : Str)) = false := by decide) (hall : (backToKw pos (keywordEach kws X.env)).all (·.1.isSome) = true := by rfl) (hks : (backToKw pos (keywordEach kws X.env)).filterMap (·.1) = ks := by rfl)
    (hpl : ((backTo pos (starEach [] X.env)).any (·.1) || (backToKw pos (keywordEach kws X.env)).any (·.1.isNone)) = false := by rfl) : PX X Z (.Call (.Name x p) [] kws pos) (xDefK C π a) := by
  obtain ⟨b1, b2, b3⟩ := hb
  refine ⟨fun ρ q q' hq h => ha.mono ρ _ _ (fun as ρ1 h1 => mC _ _ _ (fun r h2 => hq _ _ h2) h1) h, ⟨fun pins s σ H Q I h => ?_⟩⟩
  obtain ⟨δ, B, ρ, R, h⟩ := h
  refine wpAny_Call_Name_kw (ld_glob I hg hm ?_ hdb)
  have args := ha.pk.run pos pins s σ H (fun vs H1 => ∃ B1 as, ArVs B1 δ vs as ∧ as.length = ks.length ∧ ∀ ws, ArVs B1 δ ws (π.map fun i => as.getD i (.va .none)) → spOf Z C ws H1 Q E0) I
    ⟨δ, B, ρ, R, ha.mono ρ _ _ (fun as ρ1 h1 vs H1 B1 R1 S1 q1 => ⟨B1, as, q1, h1.1, fun ws hw => ?_⟩) (hl ρ _ h)⟩
  · refine PySem.W.callWith_KW0 (h₀ := X.base) I.ok.mod.kin hk hall (thn args fun us s1 ⟨vs, H1, I1, r, B1, as, q1, l1, q⟩ => ⟨I1.kIn, ?_⟩) hpl
    rw [hks]
    obtain ⟨ws, r2, w2⟩ := picked r q1 π fun i hi => by rw [l1]; exact b2 i hi
    exact fin_call F hr hG I1 (.of_eq (b3 us (by rw [← r.length, q1.length, l1]))) r2 (q ws w2)
  · exact spOf_of (δ0 := δ) (B0 := B) (ρ0 := ρ) (H0 := H) mC R1 hw h1.2 fun r hk v H' B' R' S' q' => hk v H' B' R' (S1.trans S') (RR.back S1 q')
end
section
variable {P : Program} {w : World} {K : PySem.W.Frag} {mg : Str → Option Value} {base : Heap}
theorem fnG_of {x qual : Str} {st : Stmt} {f : Addr} {fd : FuncData} {N ps : List Str} {k : Nat} {sp : Sp} (F : Fun K x qual st f fd) (S : FnScope N ps (defScope st)) (len : ∀ vs H Q E, sp vs H Q E → vs.length = ps.length)
    (hbody : ∀ (cdv : Value) (A : Around) (outer : List Env) (s : Shared) (H : Hp) (vs : List V) (Q : VK) (E : XK), Room k (A.deeper (envOfC qual (defScope st) s.heap.objs.size f cdv)) → A.guards = some [] → sp vs H Q E →
      ∃ t, PSs (cxOf CX0 P w K mg base N qual (defScope st) f cdv A outer s H E).nox (defBody st) t ∧ t { nx := fun _ H' => Q .non H', rt := Q } (L2.start N vs) H) : FnG P w K mg base CX0 (k + 1) f fd ps sp := by
  obtain ⟨oc, od, kV, doc, pm, an, cdv, ct, osl, rfl, lk, hcd⟩ := F.ex
  refine ⟨len, fun A hr hG outer s H e0 args us vs hb r Q E hsp => ?_⟩
  have hlen := len _ _ _ _ hsp
  have KX : K.In s.heap := e0.mod.kin.keeps fun b o e => (e0.bs b o e).1
  have nolim : s.heap.NoLimit := e0.mod.nolimit.keeps fun b o e => (e0.bs b o e).1
  have kinds : ∀ y ∈ ps.zip us, (defScope st).names.lookup y.1 = some .local ∨ ((defScope st).names.lookup y.1 = some .cell ∧ ((cellsFrom (s.heap.objs.size + 1) (defScope st).names []).lookup y.1).isSome = true) := by
    rintro ⟨n, v⟩ hy
    rcases S.par n (List.of_mem_zip hy).1 with q | q
    · exact .inl q
    · exact .inr ⟨q, PySem.W.cellsFrom_some _ _ _ (.inl q)⟩
  refine codeAny_call_function hr.depth (KX _ _ lk) rfl S.co S.gen rfl (PySem.W.codeRec_of KX hcd) (hb _ _ _ _ ?_)
  refine wpAny_newFunctionEnv_cells S.kind kinds fun env he s1 x => ?_
  subst he
  refine ⟨nolim.keeps x.toInCall.keep, codeAny_func ?_⟩
  obtain ⟨t, ht, hq⟩ := hbody cdv A outer s H vs Q E (hr.deeper _) hG hsp
  have I0 := inv_start (CX := CX0) (E := E) S hr.hd e0 hlen r x
  refine wpAny_mono (ht.nox.run [] s1 (L2.start N vs) H _ I0 hq) (fun fl s' hs => ?_) fun e s' hs => hs
  have done : ∀ {σ' : L2.St} {H' : Hp} {v : V} {u : Value}, L2.Inv (cxOf CX0 P w K mg base N qual (defScope st) f cdv A outer s H E) [] σ' H' s' → RelV v u → Q v H' → CE outer P w H s Q u s' :=
    fun J rv q => ⟨_, _, J.os, J.bare, J.base, J.hok, rv, q⟩
  match fl, hs with
  | .ret u, ⟨v, σ', H', J, rv, q⟩ => exact done J rv q
  | .next, ⟨σ', H', J, q⟩ => exact done (v := V.non) (u := Value.none) J rfl q
  | .brk, ⟨_, _, _, q⟩ => exact False.elim q
  | .cont, ⟨_, _, _, q⟩ => exact False.elim q
/-- THE RULE: a def by its body's reading w and its own contract C -/
theorem def_ok {Z : Zd} {x qual : Str} {st : Stmt} {f : Addr} {fd : FuncData} {N ps : List Str} {k n : Nat} {C : Con} {r : SS} (F : Fun K x qual st f fd) (S : FnScope N ps (defScope st)) (hn : N.length = ps.length + n)
    (hC : ∀ as q, C as q → as.length = ps.length ∧ r { nx := fun _ => q (.va .none), rt := q } (as.map Ar.en ++ List.replicate n .un))
    (hbody : ∀ (cdv : Value) (A : Around) (outer : List Env) (s : Shared) (H : Hp) (E : XK), Room k (A.deeper (envOfC qual (defScope st) s.heap.objs.size f cdv)) → A.guards = some [] →
      QSs (cxOf CX0 P w K mg base N qual (defScope st) f cdv A outer s H E).nox Z (defBody st) r) : FnG P w K mg base CX0 (k + 1) f fd ps (spOf Z C) := by
  have len : ∀ vs H Q E, spOf Z C vs H Q E → vs.length = ps.length := fun vs H Q E ⟨δ, B, as, _, ha, _, _, h⟩ => by rw [ha.length]; exact (hC as _ h).1
  refine fnG_of F S len fun cdv A outer s H vs Q E hr hG h => ?_
  have q := hbody cdv A outer s H E hr hG
  refine ⟨_, q.ps, ?_⟩
  have e : L2.start N vs = vs.map some ++ List.replicate n none := by
    unfold L2.start
    rw [len _ _ _ _ h, hn, Nat.add_sub_cancel_left]
  rw [e]
  exact body_keeps q.mono (fun as q h => (hC as q h).2) h
end
end DL

namespace DL
open PySem L2 PyProof.Rows
section
variable {X : Cx} {Z : Zd} {pos : Pos}
theorem OpR.or {f : Value → Value → Sem Value} {r r' : R2} (h : OpR X f r) (h' : OpR X f r') : OpR X f (fun x y H Q => r x y H Q ∨ r' x y H Q) :=
  fun pins s σ H x y v u Q I rx ry q => q.elim (h pins s σ H x y v u Q I rx ry) (h' pins s σ H x y v u Q I rx ry)
theorem cat_eq {xs ys : List V} {ds es : List D} {B : Hp} (h : DVs B xs ds) (k : DVs B ys es) : DVs B (xs ++ ys) (ds ++ es) := h.append k
theorem o_add : Op2 X oAdd (binaryOp .Add) := by
  refine ⟨_, OpR.or op_add (OpR.or op_cat (OpR.or op_catA op_add_str)), fun x y d e H B Q k hs hx hy hf hk => ?_⟩
  cases d <;> cases e <;> first | exact hf.elim | skip
  · cases hx; cases hy
    exact .inl ⟨_, _, rfl, rfl, hk _ _ _ _ hf (.same (.int _))⟩
  · cases hx; cases hy
    exact .inr (.inr (.inr ⟨_, _, rfl, rfl, big_le hf.1, hk _ _ _ _ hf.2 (.same (.str _))⟩))
  · obtain ⟨a, vs, rfl, ha, hv⟩ := hx.list_inv
    obtain ⟨b, ws, rfl, hb, hw⟩ := hy.list_inv
    exact .inr (.inl ⟨a, b, vs, ws, rfl, rfl, hs _ _ ha, hs _ _ hb, by rw [hv.length, hw.length]; exact big_le hf.1, fun p hp => hk _ _ _ _ hf.2 (.own hp (hv.append hw))⟩)
  · have hx' := hx
    have hy' := hy
    obtain ⟨a, vs, rfl, ha, hv⟩ := hx.tuple_inv
    obtain ⟨b, ws, rfl, hb, hw⟩ := hy.tuple_inv
    refine .inr (.inr (.inl ⟨a, b, vs, ws, rfl, rfl, SqT.of (hs _ _ ha), SqT.of (hs _ _ hb), by rw [hv.length, hw.length]; exact big_le hf.1, fun e => ?_, fun _ e => ?_, fun _ _ p hp => hk _ _ _ _ hf.2 (.tup hs hp (hv.append hw))⟩))
    · refine hk _ _ _ _ hf.2 (.same ?_)
      subst e
      cases hv
      exact hy'
    · refine hk _ _ _ _ hf.2 (.same ?_)
      subst e
      cases hw
      rw [List.append_nil]
      exact hx'
theorem mo_add : MonoO oAdd := fun d e k k' hk h => by
  cases d <;> cases e <;> first | exact h.elim | exact hk _ h | exact ⟨h.1, hk _ h.2⟩
theorem o_sub : Op2 X oSub (binaryOp .Sub) := by
  refine ⟨_, op_sub, fun x y d e H B Q k hs hx hy hf hk => ?_⟩
  cases d <;> cases e <;> first | exact hf.elim | skip
  cases hx; cases hy
  exact ⟨_, _, rfl, rfl, hk _ _ _ _ hf (.same (.int _))⟩
theorem mo_sub : MonoO oSub := fun d e k k' hk h => by
  cases d <;> cases e <;> first | exact h.elim | exact hk _ h
theorem mul_ok {i j : Int} (h : mulOk i j) : IntMulOk i j := by
  rcases h with h | h | ⟨h1, h2⟩
  · exact CMul.ok (.inl h)
  · exact CMul.ok (.inr h)
  · exact CMulW.ok (wide_mul h1 h2 (by decide) (by decide) (by decide))
theorem op_mulA : OpR X (binaryOp .Mult) (rI mulOk fun i j => .int (i * j)) := opI fun _ _ _ _ _ _ _ hc q => mul_int q (mul_ok hc)
end
section
open AutoSeq1 (wpAny_loadPart')
theorem tup_times_same (l : Addr) (items : Array Value) (n : Nat) (dd : Option Addr) (sl : Array (Option Value)) (x : Int) (u : Tok) (c0 : (decide (x < -(2 ^ 63)) || decide (x ≥ 2 ^ 63)) = false) (c1 : (items.isEmpty || x == 1) = true) :
    Meets (Builtin.«tuple.__mul__» ⟨[.ref l, .int x u], []⟩) (fun _ R s => s.heap.get? l = some { cls := .type "tuple", dict := dd, data := .seq items n, slots := sl } ∧ R (.ok (.ret (Value.ref l))) s) :=
  .of_wp fun prog w A R s h => by
    obtain ⟨hp, g, d, tk, os⟩ := s
    obtain ⟨hl, h⟩ := h
    have ty : (Shared.mk hp g d tk os).TypeIs (.ref l) "tuple" := ⟨_, hl, rfl⟩
    have f1 := AutoSeq1.idx_int
    wp_walk using wpAny_loadPart' hl
    repeat (first
      | (refine wpAny_ite_false (decide_eq_false (by rw [c0]; exact Bool.false_ne_true)) ?_; wp_walk using wpAny_loadPart' hl, wpAny_typeOf ty)
      | (refine wpAny_ite_true (decide_eq_true (by rw [c1])) ?_; wp_walk using wpAny_loadPart' hl, wpAny_typeOf ty))
    exact ⟨_, rfl, h⟩
end
section
open AutoSeq1 (wpAny_loadPart')
theorem tup_times_none (l : Addr) (items : Array Value) (n : Nat) (dd : Option Addr) (sl : Array (Option Value)) (x : Int) (u : Tok) (c0 : (decide (x < -(2 ^ 63)) || decide (x ≥ 2 ^ 63)) = false) (c1 : (items.isEmpty || x == 1) = false) (c2 : (decide (x ≤ 0) || items.isEmpty) = true) :
    Meets (Builtin.«tuple.__mul__» ⟨[.ref l, .int x u], []⟩) (fun _ R s => s.heap.get? l = some { cls := .type "tuple", dict := dd, data := .seq items n, slots := sl } ∧
      R (.ok (.ret (Value.ref s.heap.objs.size))) { s with heap := s.heap.push { cls := Value.type "tuple", data := Data.seq #[] }, toks := s.toks }) :=
  .of_wp fun prog w A R s h => by
    obtain ⟨hp, g, d, tk, os⟩ := s
    obtain ⟨hl, h⟩ := h
    have f1 := AutoSeq1.idx_int
    wp_walk using wpAny_loadPart' hl
    repeat (first
      | (refine wpAny_ite_false (decide_eq_false (by rw [c0]; exact Bool.false_ne_true)) ?_; wp_walk using wpAny_loadPart' hl)
      | (refine wpAny_ite_false (decide_eq_false (by rw [c1]; exact Bool.false_ne_true)) ?_; wp_walk using wpAny_loadPart' hl)
      | (refine wpAny_ite_true (decide_eq_true (by rw [c2])) ?_; wp_walk using wpAny_loadPart' hl))
    exact ⟨_, rfl, h⟩
end
section
variable {X : Cx} {Z : Zd} {pos : Pos}
/-- a tuple so often -/
def rTimes (K : PySem.W.Frag) : R2 := fun x y H Q => ∃ l k xs, x = .ref l ∧ y = .int k ∧ SqT K H l xs ∧ k ≤ 1000 ∧ -1000 ≤ k ∧ xs.length ≤ 1000 ∧
  ((xs = [] ∨ k = 1) → Q (.ref l) H) ∧ (¬ (xs = [] ∨ k = 1) → ∀ p, H p = none → Q (.ref p) (upd H p (.tup (List.replicate k.toNat xs).flatten)))
theorem op_times : OpR X (binaryOp .Mult) (rTimes X.K) := by
  intro pins s σ H x y v u Q I rx ry h
  obtain ⟨l, k, xs, rfl, rfl, hT, h1, h2, hz, q1, q2⟩ := h
  by_cases big : xs ≠ [] ∧ 2 ≤ k
  · exact op_repT pins s σ H _ _ v u Q I rx ry ⟨l, k, xs, rfl, rfl, hT, big.1, big.2, h1, hz, q2 (by rintro (z | z); exact big.1 z; have := big.2; omega)⟩
  · cases rx
    obtain ⟨t, rfl⟩ := ry
    obtain ⟨its, r, ⟨⟨cls, dd, data, sl⟩, ho, hc, n, hd⟩, hs⟩ := I.tuple hT
    simp only at hc hd
    subst hc hd
    have c0 : (decide (k < -(2 ^ 63)) || decide (k ≥ 2 ^ 63)) = false := by rw [decide_eq_false (by omega), decide_eq_false (by omega)]; rfl
    have emp : its.toArray.isEmpty = xs.isEmpty := by cases r <;> simp
    have go : ∀ (R : Result → Shared → Prop), Meets (Builtin.«tuple.__mul__» ⟨[.ref l, .int k t], []⟩) (fun _ R s => s.heap.get? l = some { cls := .type "tuple", dict := dd, data := .seq its.toArray n, slots := sl } ∧ R (.ok (.ret (Value.ref s.heap.objs.size))) s) → True := fun _ _ => trivial
    by_cases same : xs = [] ∨ k = 1
    · have c1 : (its.toArray.isEmpty || k == 1) = true := by
        rw [emp]
        rcases same with z | z
        · rw [z]; rfl
        · rw [z]; simp
      refine wpAny_binaryOp_repeat_ref (T := "tuple") (U := "int") (by decide) ⟨_, ho, rfl⟩ (fun s' => typeIs_int s' k t) noFill_tuple_mul F.fills_int_mul F.slot_int_rmul repeat_tuple F.slot_int_index.lookup ?_
      refine call_meets F.slot_int_rmul (typeIs_int s k t) F.entry_int_rmul (F.args_int_rmul_2 _ _) (int_rmul_tuple k t l its.toArray n dd sl) ⟨ho, rfl, ⟨_, ho, rfl⟩, ?_⟩
      exact call_meets F.slot_tuple_mul ⟨_, ho, rfl⟩ F.entry_tuple_mul (F.args_tuple_mul_2 _ _) (tup_times_same l its.toArray n dd sl k t c0 c1) ⟨ho, ⟨.ref l, H, I, rfl, q1 same⟩⟩
    · have ne : xs ≠ [] := fun z => same (.inl z)
      have lo : k ≤ 0 := by
        have h3 : ¬ 2 ≤ k := fun z => big ⟨ne, z⟩
        have h4 : k ≠ 1 := fun z => same (.inr z)
        omega
      have e0 : its.toArray.isEmpty = false := by
        rw [emp]
        cases xs with
        | nil => exact absurd rfl ne
        | cons a b => rfl
      have c1 : (its.toArray.isEmpty || k == 1) = false := by rw [e0, Bool.false_or]; exact beq_eq_false_iff_ne.mpr (by omega)
      have c2 : (decide (k ≤ 0) || its.toArray.isEmpty) = true := by rw [decide_eq_true lo]; rfl
      refine wpAny_binaryOp_repeat_ref (T := "tuple") (U := "int") (by decide) ⟨_, ho, rfl⟩ (fun s' => typeIs_int s' k t) noFill_tuple_mul F.fills_int_mul F.slot_int_rmul repeat_tuple F.slot_int_index.lookup ?_
      refine call_meets F.slot_int_rmul (typeIs_int s k t) F.entry_int_rmul (F.args_int_rmul_2 _ _) (int_rmul_tuple k t l its.toArray n dd sl) ⟨ho, rfl, ⟨_, ho, rfl⟩, ?_⟩
      refine call_meets F.slot_tuple_mul ⟨_, ho, rfl⟩ F.entry_tuple_mul (F.args_tuple_mul_2 _ _) (tup_times_none l its.toArray n dd sl k t c0 c1 c2) ⟨ho, ?_⟩
      have q := q2 same s.heap.objs.size (I.hok.fresh (Nat.le_refl _))
      rw [show k.toNat = 0 by omega, List.replicate_zero, List.flatten_nil] at q
      exact ⟨.ref s.heap.objs.size, _, I.laid (t' := s.toks) (o := .tup []) (fun b ob q => Heap.get?_push_of_some _ q) (Nat.le_refl _) ⟨Nat.zero_le _, [], .nil, IsTup.new _ _⟩, rfl, q⟩
theorem DVs.rep {B : Hp} {vs : List V} {ds : List D} (h : DVs B vs ds) : ∀ n, DVs B (List.replicate n vs).flatten (List.replicate n ds).flatten
  | 0 => .nil
  | n + 1 => by
    rw [List.replicate_succ, List.replicate_succ, List.flatten_cons, List.flatten_cons]
    exact h.append (DVs.rep h n)
theorem o_mul : Op2 X oMul (binaryOp .Mult) := by
  refine ⟨_, OpR.or op_mulA (OpR.or op_rep op_times), fun x y d e H B Q k hs hx hy hf hk => ?_⟩
  cases d <;> cases e <;> first | exact hf.elim | skip
  · cases hx; cases hy
    exact .inl ⟨_, _, rfl, rfl, hf.1, hk _ _ _ _ hf.2 (.same (.int _))⟩
  · obtain ⟨a, vs, rfl, ha, hv⟩ := hx.list_inv
    have hy' := hy.int_inv
    subst hy'
    obtain ⟨⟨h1, h2, h3⟩, h4⟩ := hf
    exact .inr (.inl ⟨a, _, vs, rfl, rfl, hs _ _ ha, by omega, by omega, by rw [hv.length]; exact big_le h3, fun p hp => hk _ _ _ _ h4 (.own hp (hv.rep _))⟩)
  · have hx' := hx
    obtain ⟨a, vs, rfl, ha, hv⟩ := hx.tuple_inv
    have hy' := hy.int_inv
    subst hy'
    obtain ⟨⟨h1, h2, h3⟩, h4⟩ := hf
    refine .inr (.inr ⟨a, _, vs, rfl, rfl, SqT.of (hs _ _ ha), h1, h2, by rw [hv.length]; exact h3, fun q => hk _ _ _ _ h4 (.same ?_), fun _ p hp => hk _ _ _ _ h4 (.tup hs hp (hv.rep _))⟩)
    rcases q with q | q
    · subst q
      cases hv
      have e : ∀ n : Nat, (List.replicate n ([] : List D)).flatten = [] := fun n => by induction n with
        | zero => rfl
        | succ n ih => rw [List.replicate_succ, List.flatten_cons, ih]; rfl
      rw [e]; exact hx'
    · subst q
      rw [show (1 : Int).toNat = 1 from rfl, List.replicate_one, List.flatten_singleton]
      exact hx'
theorem mo_mul : MonoO oMul := fun d e k k' hk h => by
  cases d <;> cases e <;> first | exact h.elim | exact ⟨h.1, hk _ h.2⟩
theorem o_div : Op2 X oDiv (binaryOp .FloorDiv) := by
  refine ⟨_, op_fdivW, fun x y d e H B Q k hs hx hy hf hk => ?_⟩
  cases d <;> cases e <;> first | exact hf.elim | skip
  cases hx; cases hy
  obtain ⟨⟨h1, h2⟩, h3⟩ := hf
  exact ⟨_, _, rfl, rfl, wide_div h1 h2 (by decide) (by decide), hk _ _ _ _ h3 (.same (.int _))⟩
theorem mo_div : MonoO oDiv := fun d e k k' hk h => by
  cases d <;> cases e <;> first | exact h.elim | exact ⟨h.1, hk _ h.2⟩
theorem o_mod : Op2 X oMod (binaryOp .Mod) := by
  refine ⟨_, op_mod, fun x y d e H B Q k hs hx hy hf hk => ?_⟩
  cases d <;> cases e <;> first | exact hf.elim | skip
  cases hx; cases hy
  exact ⟨_, _, rfl, rfl, hf.1, hk _ _ _ _ hf.2 (.same (.int _))⟩
theorem mo_mod : MonoO oMod := fun d e k k' hk h => by
  cases d <;> cases e <;> first | exact h.elim | exact ⟨h.1, hk _ h.2⟩
theorem o_pow : Op2 X oPow (binaryOp .Pow) := by
  refine ⟨_, op_pow, fun x y d e H B Q k hs hx hy hf hk => ?_⟩
  cases d <;> cases e <;> first | exact hf.elim | skip
  cases hx; cases hy
  exact ⟨_, _, rfl, rfl, hf.1, hk _ _ _ _ hf.2 (.same (.int _))⟩
theorem mo_pow : MonoO oPow := fun d e k k' hk h => by
  cases d <;> cases e <;> first | exact h.elim | exact ⟨h.1, hk _ h.2⟩
theorem o_neg : Op1 X oNeg (unaryOp .USub) := by
  refine ⟨_, un_neg, fun x d H B Q k hs hx hf hk => ?_⟩
  cases d <;> first | exact hf.elim | skip
  cases hx
  exact ⟨_, rfl, hk _ _ _ _ hf (.same (.int _))⟩
theorem mo_neg : MonoU oNeg := fun d k k' hk h => by
  cases d <;> first | exact h.elim | exact hk _ h
theorem cmp_ok {op : CmpOp} {p : Int → Int → Bool} (h : OpR X (compareOp op) (rI0 fun i j => .bl (p i j))) : OpC X (oCmp p) (compareOp op) := by
  refine ⟨_, h, fun x y d e H B Q k hs hx hy hf hk => ?_⟩
  cases d <;> cases e <;> first | exact hf.elim | skip
  cases hx; cases hy
  exact ⟨_, _, rfl, rfl, hk _ hf⟩
theorem mo_cmp {p : Int → Int → Bool} : MonoO (oCmp p) := fun d e k k' hk h => by
  cases d <;> cases e <;> first | exact h.elim | exact hk _ h
theorem o_lt : OpC X oLt (compareOp .Lt) := cmp_ok op_lt
theorem o_le : OpC X oLe (compareOp .LtE) := cmp_ok op_le
theorem o_gt : OpC X oGt (compareOp .Gt) := cmp_ok op_gt
theorem o_ge : OpC X oGe (compareOp .GtE) := cmp_ok op_ge
mutual
theorem DV.dp {K : PySem.W.Frag} {B H : Hp} (hs : Sub B H) : ∀ {v : V} {d : D}, DV B v d → d.canLay0 = true → Dp K H v d
  | _, _, .non, _ => .non
  | _, _, .bl b, _ => .bl b
  | _, _, .int i, _ => .int i
  | _, _, .str x, _ => .str x
  | _, _, .lst h hv, c => .lst (SqL.of (hs _ _ h)) (DVs.dp hs hv (by rw [PyData.canLay0] at c; exact c))
  | _, _, .tup h hv, c => .tup (SqT.of (hs _ _ h)) (DVs.dp hs hv (by rw [PyData.canLay0] at c; exact c))
  | _, _, .dic h hv, c => by rw [PyData.canLay0] at c; cases c
theorem DVs.dp {K : PySem.W.Frag} {B H : Hp} (hs : Sub B H) : ∀ {v : List V} {d : List D}, DVs B v d → PyData.canLayAll0 d = true → DpAll K H v d
  | _, _, .nil, _ => .nil
  | _, _, .cons h hv, c => by
    rw [PyData.canLayAll0, Bool.and_eq_true] at c
    exact .cons (DV.dp hs h c.1) (DVs.dp hs hv c.2)
end
theorem str_eq {a b : Str} : decide (V.str a = V.str b) = PyData.eqv (.str a) (.str b) := by rw [PyData.eqv]; exact dec_str
theorem both_inv {B : Hp} {x y : V} {d e : D} (hx : DV B x d) (hy : DV B y e) (h : bothStr d e = true) : ∃ a b, x = .str a ∧ y = .str b ∧ d = .str a ∧ e = .str b := by
  cases d <;> first | (cases h; done) | skip
  cases e <;> first | (cases h; done) | skip
  exact ⟨_, _, hx.str_inv, hy.str_inv, rfl, rfl⟩
theorem o_eq (hu : X.A.units + 64 < cLine) : OpC X oEq (compareOp .Eq) := by
  refine ⟨_, OpR.or op_eq (op_eqD hu), fun x y d e H B Q k hs hx hy hf hk => ?_⟩
  obtain ⟨h | ⟨h1, h2⟩, h3⟩ := hf
  · obtain ⟨a, b, rfl, rfl, rfl, rfl⟩ := both_inv hx hy h
    exact .inl ⟨rfl, by rw [str_eq]; exact hk _ h3⟩
  · exact .inr ⟨d, e, hx.dp hs (SeqAt.canLay_of_shaped h1), hy.dp hs (SeqAt.canLay_of_shaped h2), h1, h2, hk _ h3⟩
theorem o_ne (hu : X.A.units + 64 < cLine) : OpC X oNe (compareOp .NotEq) := by
  refine ⟨_, OpR.or op_ne (op_neD hu), fun x y d e H B Q k hs hx hy hf hk => ?_⟩
  obtain ⟨h | ⟨h1, h2⟩, h3⟩ := hf
  · obtain ⟨a, b, rfl, rfl, rfl, rfl⟩ := both_inv hx hy h
    exact .inl ⟨rfl, by rw [str_eq]; exact hk _ h3⟩
  · exact .inr ⟨d, e, hx.dp hs (SeqAt.canLay_of_shaped h1), hy.dp hs (SeqAt.canLay_of_shaped h2), h1, h2, hk _ h3⟩
theorem mo_eq : MonoO oEq := fun d e k k' hk h => ⟨h.1, hk _ h.2⟩
theorem mo_ne : MonoO oNe := fun d e k k' hk h => ⟨h.1, hk _ h.2⟩
end
end DL

namespace DL
open PySem L2 PyProof.Rows
section
variable {X : Cx} {Z : Zd} {pos : Pos}
theorem none_of {B : Hp} {x : V} {d : D} (h : DV B x d) : decide (x = .non) = isNone d := by
  cases h <;> first | rfl | exact decide_eq_false (by intro z; cases z)
theorem px_isN {a : Expr} {wa : XT} {j p} (ha : PX X Z a wa) : PX X Z (.Compare a [.Is] [.Constant .none j p] pos) (xUn oIsN wa) := by
  refine ⟨monoUn (fun d k k' hk h => hk _ h) ha.mono, pe_imp (pe_cmpR op_isN ha.pe pe_non (nobehind _ (by decide) (by decide))) fun σ H Q h => ?_⟩
  obtain ⟨δ, B, ρ, R, h⟩ := h
  refine ⟨δ, B, ρ, R, ha.mono ρ _ _ (fun x ρ1 h1 v1 H1 B1 R1 S1 q1 => ?_) h⟩
  obtain ⟨C1, R1', S1', d1⟩ := freeze R1 S1 q1
  refine ⟨rfl, ?_⟩
  rw [none_of d1]
  exact h1 _ H1 C1 R1' S1' (.bl _)
theorem px_notN {a : Expr} {wa : XT} {j p} (ha : PX X Z a wa) : PX X Z (.Compare a [.IsNot] [.Constant .none j p] pos) (xUn oNotN wa) := by
  refine ⟨monoUn (fun d k k' hk h => hk _ h) ha.mono, pe_imp (pe_cmpR op_notN ha.pe pe_non (nobehind _ (by decide) (by decide))) fun σ H Q h => ?_⟩
  obtain ⟨δ, B, ρ, R, h⟩ := h
  refine ⟨δ, B, ρ, R, ha.mono ρ _ _ (fun x ρ1 h1 v1 H1 B1 R1 S1 q1 => ?_) h⟩
  obtain ⟨C1, R1', S1', d1⟩ := freeze R1 S1 q1
  refine ⟨rfl, ?_⟩
  rw [none_of d1]
  exact h1 _ H1 C1 R1' S1' (.bl _)
def tyN : Ty → String
  | .int => "int" | .bool => "bool" | .str => "str" | .tuple => "tuple" | .list => "list" | .dict => "dict"
def dN : D → String
  | .none => "NoneType" | .bool _ => "bool" | .int _ => "int" | .str _ => "str" | .list _ => "list" | .tuple _ => "tuple" | .dict _ => "dict"
theorem kit_ok (t : Ty) (d : D) : kitB (dN d) (tyN t) = some (isTy t d) := by
  cases t <;> cases d <;> (simp only [dN, tyN, isTy]; decide +kernel)
theorem ty_ok {K : PySem.W.Frag} {B H : Hp} {x : V} {d : D} (hs : Sub B H) (h : DV B x d) : TyX K H x (.type (dN d)) := by
  cases h with
  | non => exact .base .non
  | bl b => exact .base (.bl b)
  | int i => exact .base (.int i)
  | str s => exact .base (.str s)
  | lst h _ => exact .base (.lst (hs _ _ h))
  | tup h _ => exact .base (.tup (hs _ _ h))
  | dic h _ => exact .base (.dK (hs _ _ h))
theorem px_isi (t : Ty) {a : Expr} {wa : XT} {p q : Pos} {tn : Str} (hg : Gl X "isinstance") (hm : X.mg "isinstance" = none) (ha : PX X Z a wa) (hg2 : Gl X tn) (hm2 : X.mg tn = none) (hv : bootBuiltins tn = some (.type (tyN t))) (hn : tn ≠ "__name__" := by decide) (hd : (tn == ("__debug__" : Str)) = false := by decide)
    (s1 : starEach [a, .Name tn q] X.env = (false, eval a X.env) :: starEach [.Name tn q] X.env := by rfl) (s2 : starEach [.Name tn q] X.env = (false, eval (.Name tn q) X.env) :: starEach [] X.env := by rfl) (hpl : (backTo pos (starEach [.Name tn q] X.env)).any (·.1) = false := by rfl) :
    PX X Z (.Call (.Name "isinstance" p) [a, .Name tn q] [] pos) (xUn (oIsi t) wa) := by
  refine ⟨monoUn (fun d k k' hk h => hk _ h) ha.mono, pe_imp (pe_callB call_isi hg hm PyProof.Rows.boot_isinstance (pa_cons ha.pe (pa_cons (pe_bltn (v := .ty (tyN t)) hg2 hm2 hv rfl hn hd) pa_nil s2) s1) (by decide) (by decide) s1 hpl) fun σ H Q h => ?_⟩
  obtain ⟨δ, B, ρ, R, h⟩ := h
  refine ⟨δ, B, ρ, R, ha.mono ρ _ _ (fun x ρ1 h1 v1 H1 B1 R1 S1 q1 => ?_) h⟩
  obtain ⟨C1, R1', S1', d1⟩ := freeze R1 S1 q1
  exact ⟨v1, _, _, _, isTy t x.d, rfl, .ty _, ty_ok R1'.sub d1, kit_ty (kit_ok t x.d), h1 _ H1 C1 R1' S1' (.bl _)⟩

theorem CallR.or {f : Value} {r r' : List V → Hp → VK → Prop} (h : CallR X f r) (h' : CallR X f r') : CallR X f (fun xs H Q => r xs H Q ∨ r' xs H Q) :=
  fun pins s σ H xs us Q I rv q => q.elim (h pins s σ H xs us Q I rv) (h' pins s σ H xs us Q I rv)
theorem one_inv {B : Hp} {xs : List V} {d : D} (h : DVs B xs [d]) : ∃ x, xs = [x] ∧ DV B x d := by
  cases h with | cons p q => cases q; exact ⟨_, rfl, p⟩
theorem two_inv {B : Hp} {xs : List V} {d e : D} (h : DVs B xs [d, e]) : ∃ x y, xs = [x, y] ∧ DV B x d ∧ DV B y e := by
  cases h with | cons p q => obtain ⟨y, rfl, k⟩ := one_inv q; exact ⟨_, _, rfl, p, k⟩
theorem f_len : Fn1 X fLen (.builtin "len") := by
  refine ⟨_, CallR.or call_len_seq call_len_str, fun xs ds H B Q k hs hx hf hk => ?_⟩
  unfold fLen at hf
  split at hf
  · obtain ⟨x, rfl, hx1⟩ := one_inv hx
    obtain ⟨a, vs, rfl, ha, hv⟩ := hx1.list_inv
    refine .inl ⟨a, vs, rfl, .inl (SqL.of (hs _ _ ha)), ?_⟩
    rw [hv.length]
    exact hk _ _ _ _ hf (.same (.int _))
  · obtain ⟨x, rfl, hx1⟩ := one_inv hx
    obtain ⟨a, vs, rfl, ha, hv⟩ := hx1.tuple_inv
    refine .inl ⟨a, vs, rfl, .inr (SqT.of (hs _ _ ha)), ?_⟩
    rw [hv.length]
    exact hk _ _ _ _ hf (.same (.int _))
  · obtain ⟨x, rfl, hx1⟩ := one_inv hx
    cases hx1
    exact .inr ⟨_, rfl, big_le hf.1, hk _ _ _ _ hf.2 (.same (.int _))⟩
  · exact hf.elim
theorem mf_len : MonoF fLen := fun d k k' hk h => by
  unfold fLen at h ⊢
  split <;> simp_all
theorem f_int : Fn1 X fInt (.type "int") := by
  refine ⟨_, call_int1, fun xs ds H B Q k hs hx hf hk => ?_⟩
  unfold fInt at hf
  split at hf
  · obtain ⟨x, rfl, hx1⟩ := one_inv hx
    cases hx1
    exact .inl ⟨_, rfl, hk _ _ _ _ hf (.same (.int _))⟩
  · obtain ⟨x, rfl, hx1⟩ := one_inv hx
    cases hx1
    exact .inr ⟨_, rfl, hk _ _ _ _ hf (.same (.int _))⟩
  · exact hf.elim
theorem mf_int : MonoF fInt := fun d k k' hk h => by
  unfold fInt at h ⊢
  split <;> simp_all
theorem f_abs : Fn1 X fAbs (.builtin "abs") := by
  refine ⟨_, call_abs, fun xs ds H B Q k hs hx hf hk => ?_⟩
  unfold fAbs at hf
  split at hf
  · obtain ⟨x, rfl, hx1⟩ := one_inv hx
    cases hx1
    exact ⟨_, rfl, hk _ _ _ _ hf (.same (.int _))⟩
  · exact hf.elim
theorem mf_abs : MonoF fAbs := fun d k k' hk h => by
  unfold fAbs at h ⊢
  split <;> simp_all
theorem f_max2 (hc : X.calm = true) : Fn1 X fMax2 (.builtin "max") := by
  refine ⟨_, call_max2 hc, fun xs ds H B Q k hs hx hf hk => ?_⟩
  unfold fMax2 at hf
  split at hf
  · obtain ⟨x, y, rfl, hx1, hy⟩ := two_inv hx
    cases hx1; cases hy
    exact ⟨_, _, rfl, hk _ _ _ _ hf (.same (.int _))⟩
  · exact hf.elim
theorem mf_max2 : MonoF fMax2 := fun d k k' hk h => by
  unfold fMax2 at h ⊢
  split <;> simp_all
theorem f_min2 (hc : X.calm = true) : Fn1 X fMin2 (.builtin "min") := by
  refine ⟨_, call_min2 hc, fun xs ds H B Q k hs hx hf hk => ?_⟩
  unfold fMin2 at hf
  split at hf
  · obtain ⟨x, y, rfl, hx1, hy⟩ := two_inv hx
    cases hx1; cases hy
    exact ⟨_, _, rfl, hk _ _ _ _ hf (.same (.int _))⟩
  · exact hf.elim
theorem mf_min2 : MonoF fMin2 := fun d k k' hk h => by
  unfold fMin2 at h ⊢
  split <;> simp_all
theorem f_tuple : Fn1 X fTuple (.type "tuple") := by
  refine ⟨_, call_tuple_of, fun xs ds H B Q k hs hx hf hk => ?_⟩
  unfold fTuple at hf
  split at hf
  · obtain ⟨x, rfl, hx1⟩ := one_inv hx
    obtain ⟨a, vs, rfl, ha, hv⟩ := hx1.list_inv
    exact ⟨a, vs, rfl, .inl ⟨SqL.of (hs _ _ ha), fun p hp => hk _ _ _ _ hf (.tup hs hp hv)⟩⟩
  · obtain ⟨x, rfl, hx1⟩ := one_inv hx
    have hx' := hx1
    obtain ⟨a, vs, rfl, ha, hv⟩ := hx1.tuple_inv
    exact ⟨a, vs, rfl, .inr ⟨SqT.of (hs _ _ ha), hk _ _ _ _ hf (.same hx')⟩⟩
  · exact hf.elim
theorem mf_tuple : MonoF fTuple := fun d k k' hk h => by
  unfold fTuple at h ⊢
  split <;> simp_all
theorem f_list : Fn1 X fList (.type "list") := by
  refine ⟨_, call_list_of, fun xs ds H B Q k hs hx hf hk => ?_⟩
  unfold fList at hf
  split at hf
  · obtain ⟨x, rfl, hx1⟩ := one_inv hx
    obtain ⟨a, vs, rfl, ha, hv⟩ := hx1.list_inv
    exact ⟨a, vs, rfl, .inl (SqL.of (hs _ _ ha)), fun p hp => hk _ _ _ _ hf (.own hp hv)⟩
  · obtain ⟨x, rfl, hx1⟩ := one_inv hx
    obtain ⟨a, vs, rfl, ha, hv⟩ := hx1.tuple_inv
    exact ⟨a, vs, rfl, .inr (SqT.of (hs _ _ ha)), fun p hp => hk _ _ _ _ hf (.own hp hv)⟩
  · exact hf.elim
theorem mf_list : MonoF fList := fun d k k' hk h => by
  unfold fList at h ⊢
  split <;> simp_all
theorem ints_of : ∀ {ds : List D} {ns : List Int}, intsOf ds = some ns → ds = ns.map .int
  | [], ns, h => by rw [intsOf] at h; cases h; rfl
  | .int i :: r, ns, h => by
    rw [intsOf] at h
    cases q : intsOf r with
    | none => rw [q] at h; cases h
    | some ms => rw [q] at h; cases h; rw [ints_of q]; rfl
  | .none :: r, ns, h => by rw [intsOf] at h; cases h; all_goals (intro i z; cases z)
  | .bool _ :: r, ns, h => by rw [intsOf] at h; cases h; all_goals (intro i z; cases z)
  | .str _ :: r, ns, h => by rw [intsOf] at h; cases h; all_goals (intro i z; cases z)
  | .list _ :: r, ns, h => by rw [intsOf] at h; cases h; all_goals (intro i z; cases z)
  | .tuple _ :: r, ns, h => by rw [intsOf] at h; cases h; all_goals (intro i z; cases z)
  | .dict _ :: r, ns, h => by rw [intsOf] at h; cases h; all_goals (intro i z; cases z)
theorem bools_of : ∀ {ds : List D} {ns : List Bool}, boolsOf ds = some ns → ds = ns.map .bool
  | [], ns, h => by rw [boolsOf] at h; cases h; rfl
  | .bool i :: r, ns, h => by
    rw [boolsOf] at h
    cases q : boolsOf r with
    | none => rw [q] at h; cases h
    | some ms => rw [q] at h; cases h; rw [bools_of q]; rfl
  | .none :: r, ns, h => by rw [boolsOf] at h; cases h; all_goals (intro i z; cases z)
  | .int _ :: r, ns, h => by rw [boolsOf] at h; cases h; all_goals (intro i z; cases z)
  | .str _ :: r, ns, h => by rw [boolsOf] at h; cases h; all_goals (intro i z; cases z)
  | .list _ :: r, ns, h => by rw [boolsOf] at h; cases h; all_goals (intro i z; cases z)
  | .tuple _ :: r, ns, h => by rw [boolsOf] at h; cases h; all_goals (intro i z; cases z)
  | .dict _ :: r, ns, h => by rw [boolsOf] at h; cases h; all_goals (intro i z; cases z)
theorem ints_vs {B : Hp} {vs : List V} {ns : List Int} (h : DVs B vs (ns.map .int)) : vs = ns.map V.int := by
  induction ns generalizing vs with
  | nil => cases h; rfl
  | cons n ns ih => cases h with | cons p q => rw [p.int_inv, ih q]; rfl
theorem bools_vs {B : Hp} {vs : List V} {ns : List Bool} (h : DVs B vs (ns.map .bool)) : vs = ns.map V.bl := by
  induction ns generalizing vs with
  | nil => cases h; rfl
  | cons n ns ih => cases h with | cons p q => rw [p.bool_inv, ih q]; rfl
theorem f_sum (hc : X.calm = true) : Fn1 X fSum (.builtin "sum") := by
  refine ⟨_, cr_sum hc, fun xs ds H B Q k hs hx hf hk => ?_⟩
  unfold fSum at hf
  split at hf
  · obtain ⟨x, rfl, hx1⟩ := one_inv hx
    obtain ⟨a, vs, rfl, ha, hv⟩ := hx1.list_inv
    obtain ⟨ns, e, hf⟩ := hf
    rw [ints_of e] at hv
    have ev := ints_vs hv
    subst ev
    exact ⟨a, ns, rfl, SqL.of (hs _ _ ha), hk _ _ _ _ hf (.same (.int _))⟩
  · exact hf.elim
theorem mf_sum : MonoF fSum := fun d k k' hk h => by
  unfold fSum at h ⊢
  split at h
  · obtain ⟨ns, e, h⟩ := h; exact ⟨ns, e, hk _ h⟩
  · exact h.elim
theorem f_all (hc : X.calm = true) : Fn1 X fAll (.builtin "all") := by
  refine ⟨_, cr_all hc, fun xs ds H B Q k hs hx hf hk => ?_⟩
  unfold fAll at hf
  split at hf
  · obtain ⟨x, rfl, hx1⟩ := one_inv hx
    obtain ⟨a, vs, rfl, ha, hv⟩ := hx1.list_inv
    obtain ⟨ns, e, hf⟩ := hf
    rw [bools_of e] at hv
    have ev := bools_vs hv
    subst ev
    exact ⟨a, ns, rfl, SqL.of (hs _ _ ha), hk _ _ _ _ hf (.same (.bl _))⟩
  · exact hf.elim
theorem mf_all : MonoF fAll := fun d k k' hk h => by
  unfold fAll at h ⊢
  split at h
  · obtain ⟨ns, e, h⟩ := h; exact ⟨ns, e, hk _ h⟩
  · exact h.elim
theorem f_any (hc : X.calm = true) : Fn1 X fAny (.builtin "any") := by
  refine ⟨_, cr_any hc, fun xs ds H B Q k hs hx hf hk => ?_⟩
  unfold fAny at hf
  split at hf
  · obtain ⟨x, rfl, hx1⟩ := one_inv hx
    obtain ⟨a, vs, rfl, ha, hv⟩ := hx1.list_inv
    obtain ⟨ns, e, hf⟩ := hf
    rw [bools_of e] at hv
    have ev := bools_vs hv
    subst ev
    exact ⟨a, ns, rfl, SqL.of (hs _ _ ha), hk _ _ _ _ hf (.same (.bl _))⟩
  · exact hf.elim
theorem mf_any : MonoF fAny := fun d k k' hk h => by
  unfold fAny at h ⊢
  split at h
  · obtain ⟨ns, e, h⟩ := h; exact ⟨ns, e, hk _ h⟩
  · exact h.elim
end
end DL

namespace DL
open PySem L2 PyProof.Rows
section
variable {X : Cx} {Z : Zd} {pos : Pos}
theorem pb_isN {a : Expr} {wa : XT} {j p} (ha : PX X Z a wa) : PB X Z (.Compare a [.Is] [.Constant .none j p] pos) (bX (xUn oIsN wa)) := by
  have mono := monoUn (f := oIsN) (fun d k k' hk h => hk _ h) ha.mono
  refine ⟨fun ρ k k' hk h => mono ρ _ _ (fun r ρ1 ⟨c, h1, h2⟩ => ⟨c, h1, hk _ _ h2⟩) h, pt_imp (pt_cmpR op_isN ha.pe pe_non (nobehind _ (by decide) (by decide))) fun σ H Q h => ?_⟩
  obtain ⟨δ, B, ρ, R, h⟩ := h
  refine ⟨δ, B, ρ, R, ha.mono ρ _ _ (fun x ρ1 w1 v1 H1 B1 R1 S1 q1 => ?_) h⟩
  obtain ⟨c, e, h1⟩ := w1
  obtain ⟨C1, R1', S1', d1⟩ := freeze R1 S1 q1
  refine ⟨rfl, ?_⟩
  rw [none_of d1]
  cases e
  exact ⟨_, rfl, h1 H1 C1 R1' S1'⟩
theorem pb_notN {a : Expr} {wa : XT} {j p} (ha : PX X Z a wa) : PB X Z (.Compare a [.IsNot] [.Constant .none j p] pos) (bX (xUn oNotN wa)) := by
  have mono := monoUn (f := oNotN) (fun d k k' hk h => hk _ h) ha.mono
  refine ⟨fun ρ k k' hk h => mono ρ _ _ (fun r ρ1 ⟨c, h1, h2⟩ => ⟨c, h1, hk _ _ h2⟩) h, pt_imp (pt_cmpR op_notN ha.pe pe_non (nobehind _ (by decide) (by decide))) fun σ H Q h => ?_⟩
  obtain ⟨δ, B, ρ, R, h⟩ := h
  refine ⟨δ, B, ρ, R, ha.mono ρ _ _ (fun x ρ1 w1 v1 H1 B1 R1 S1 q1 => ?_) h⟩
  obtain ⟨c, e, h1⟩ := w1
  obtain ⟨C1, R1', S1', d1⟩ := freeze R1 S1 q1
  refine ⟨rfl, ?_⟩
  rw [none_of d1]
  cases e
  exact ⟨_, rfl, h1 H1 C1 R1' S1'⟩
theorem pb_chain {f g : D → D → (Rt → Prop) → Prop} {op op' : CmpOp} {a b c : Expr} {wa wb wc : XT} (ho : OpC X f (compareOp op)) (ho' : OpC X g (compareOp op')) (hf : MonoO f) (hg : MonoO g) (ha : PX X Z a wa) (hb : PX X Z b wb) (hc : PX X Z c wc)
    (hm : lastMarks [op, op'] [b, c] = false := by with_unfolding_all rfl) : PB X Z (.Compare a [op, op'] [b, c] pos) (bX (xChain f g wa wb wc)) := by
  have mono := (px_chain (pos := pos) ho ho' hf hg ha hb hc hm).mono
  obtain ⟨r, h1, h2⟩ := ho
  obtain ⟨r', h1', h2'⟩ := ho'
  refine ⟨fun ρ k k' hk h => mono ρ _ _ (fun r ρ1 ⟨c, h1, h2⟩ => ⟨c, h1, hk _ _ h2⟩) h, pt_imp (pt_chain h1 h1' ha.pe hb.pe hc.pe hm) fun σ H Q h => ?_⟩
  obtain ⟨δ, B, ρ, R, h⟩ := h
  refine ⟨δ, B, ρ, R, ha.mono ρ _ _ (fun x ρ1 k1 v1 H1 B1 R1 S1 q1 => ?_) h⟩
  obtain ⟨C1, R1', S1', d1⟩ := freeze R1 S1 q1
  refine ⟨δ, C1, ρ1, R1', hb.mono ρ1 _ _ (fun y ρ2 k2 v2 H2 B2 R2 S2 q2 => ?_) k1⟩
  obtain ⟨C2, R2', S2', d2⟩ := freeze R2 S2 q2
  have S12 := S1'.trans S2'
  refine h2 v1 v2 x.d y.d H2 C2 _ _ R2'.sub (d1.mono S2'.bb) d2 k2 fun t0 w3 => ?_
  obtain ⟨t, e, k3⟩ := w3
  refine ⟨t0, rfl, ?_⟩
  have et : t0 = t := by cases e; rfl
  subst et
  cases t0 with
  | true =>
    refine ⟨δ, C2, ρ2, R2', hc.mono ρ2 _ _ (fun u ρ3 k4 v3 H3 B3 R3 S3 q3 => ?_) k3⟩
    obtain ⟨C3, R3', S3', d3⟩ := freeze R3 S3 q3
    refine h2' v2 v3 y.d u.d H3 C3 _ _ R3'.sub (d2.mono S3'.bb) d3 k4 fun c0 k5 => ?_
    obtain ⟨c1, e1, k6⟩ := k5
    cases e1
    exact ⟨_, rfl, k6 H3 C3 R3' (S12.trans S3')⟩
  | false =>
    obtain ⟨c1, e1, k6⟩ := k3
    cases e1
    exact ⟨_, rfl, k6 H2 C2 R2' S12⟩

def rNilL (K : PySem.W.Frag) (neg : Bool) : R2 := fun x y H Q => ∃ a b xs, x = .ref a ∧ y = .ref b ∧ SqL K H a xs ∧ SqL K H b [] ∧ Q (.bl (if neg then !xs.isEmpty else xs.isEmpty)) H
theorem op_nilE (hu : X.A.units < cLine) : OpR X (compareOp .Eq) (rNilL X.K false) := by
  intro pins s σ H x y v u Q I rx ry h
  obtain ⟨a, b, xs, rfl, rfl, ha, hb, q⟩ := h
  cases rx; cases ry
  obtain ⟨its, r, pl, hz⟩ := I.list ha
  obtain ⟨its2, r2, pl2, hz2⟩ := I.list hb
  cases r2
  cases xs with
  | nil =>
    cases r
    exact SeqAt.eq_listAt (e := fun _ => true) pl.isList pl2.isList rfl hu (fun j h1 => absurd h1 (by simp)) ⟨.bl true, H, I, rfl, q⟩
  | cons x xs =>
    cases r with
    | cons p t => exact SeqAt.eq_list_lengthsAt pl.isList pl2.isList (by simp) hu ⟨.bl false, H, I, rfl, q⟩
theorem op_nilN (hu : X.A.units < cLine) : OpR X (compareOp .NotEq) (rNilL X.K true) := by
  intro pins s σ H x y v u Q I rx ry h
  obtain ⟨a, b, xs, rfl, rfl, ha, hb, q⟩ := h
  cases rx; cases ry
  obtain ⟨its, r, pl, hz⟩ := I.list ha
  obtain ⟨its2, r2, pl2, hz2⟩ := I.list hb
  cases r2
  cases xs with
  | nil =>
    cases r
    exact SeqAt.RcNeAt.lists (e := fun _ => true) pl.isList pl2.isList rfl hu (fun j h1 => absurd h1 (by simp)) _ _ _ _ ⟨.bl false, H, I, rfl, q⟩
  | cons x xs =>
    cases r with
    | cons p t => exact SeqAt.RcNeAt.lists_lengths pl.isList pl2.isList (by simp) hu _ _ _ _ ⟨.bl true, H, I, rfl, q⟩
end
end DL

namespace DL
open PySem L2 PyProof.Rows
section
variable {P : Program} {w : World} {B H : Hp} {h : Heap}
theorem key_reads {k : Key} {v : Value} (e : keyIs k v = true) : Reads h v (dKey k) [] := by
  rcases keyIs_shape e with ⟨i, t, rfl, rfl⟩ | ⟨x, t, rfl, rfl⟩
  · exact .int i t
  · exact .str x t
mutual
theorem DV.reads (ok : HOk P w H h) (hs : Sub B H) (hm : ∀ xs, B sysModules ≠ some (.lst xs)) : ∀ {v : V} {d : D} {u : Value}, DV B v d → RelV v u → ∃ as, Reads h u d as ∧ sysModules ∉ as
  | _, _, _, .non, r => by cases r; exact ⟨[], .none, by simp⟩
  | _, _, _, .bl b, r => by cases r; exact ⟨[], .bool b, by simp⟩
  | _, _, _, .int i, r => by obtain ⟨t, rfl⟩ := r; exact ⟨[], .int i t, by simp⟩
  | _, _, _, .str x, r => by obtain ⟨t, rfl⟩ := r; exact ⟨[], .str x t, by simp⟩
  | _, _, _, .lst (a := a) (xs := xs) e hv, r => by
    cases r
    obtain ⟨_, its, n, rv, q⟩ := (show ObjOk P w H h a (.lst xs) from ok a _ (hs _ _ e))
    obtain ⟨as, r1, r2⟩ := DVs.reads ok hs hm hv rv
    refine ⟨a :: as, .list q rfl rfl r1, fun z => ?_⟩
    rcases List.mem_cons.mp z with z | z
    · subst z; exact hm _ e
    · exact r2 z
  | _, _, _, .tup (a := a) (xs := xs) e hv, r => by
    cases r
    obtain ⟨_, its, rv, o, q1, q2, n, q3⟩ := (show ObjOk P w H h a (.tup xs) from ok a _ (hs _ _ e))
    obtain ⟨as, r1, r2⟩ := DVs.reads ok hs hm hv rv
    exact ⟨as, .tuple q1 q2 q3 r1, r2⟩
  | _, _, _, .dic (a := a) (kvs := kvs) e hv, r => by
    cases r
    obtain ⟨_, na, vs, rk, o, es, ep, q1, q2, q3, q4, q5, q6⟩ := (show ObjOk P w H h a (.dK kvs) from ok a _ (hs _ _ e))
    obtain ⟨as, r1, r2, r3⟩ := DKs.reads ok hs hm hv rk q5
    have ne : sysModules ≠ a := fun z => by rw [z] at na; simp at na
    exact ⟨a :: [] ++ as, .dict q1 q2.1 q3 r1 r2, fun z => by
      rcases List.mem_cons.mp z with z | z
      · exact ne z
      · exact r3 z⟩
theorem DVs.reads (ok : HOk P w H h) (hs : Sub B H) (hm : ∀ xs, B sysModules ≠ some (.lst xs)) : ∀ {v : List V} {d : List D} {u : List Value}, DVs B v d → Vals v u → ∃ as, ReadsAll h u d as ∧ sysModules ∉ as
  | _, _, _, .nil, r => by cases r; exact ⟨[], .nil, by simp⟩
  | _, _, _, .cons hd ht, r => by
    cases r with
    | cons r1 r2 =>
      obtain ⟨as, k1, k2⟩ := DV.reads ok hs hm hd r1
      obtain ⟨bs, k3, k4⟩ := DVs.reads ok hs hm ht r2
      exact ⟨as ++ bs, .cons k1 k3, fun z => by exact (List.mem_append.mp z).elim k2 k4⟩
theorem DKs.reads (ok : HOk P w H h) (hs : Sub B H) (hm : ∀ xs, B sysModules ≠ some (.lst xs)) : ∀ {kvs : List (Key × V)} {d : List (D × D)} {us : List (Key × Value)} {es : List DictEntry}, DKs B kvs d → KV kvs us → Pairs (mixKind P w) es us →
    ∃ as, ReadsAll h (es.map (·.key)) (d.map (·.1)) [] ∧ ReadsAll h (es.map (·.val)) (d.map (·.2)) as ∧ sysModules ∉ as
  | _, _, _, _, .nil, r, p => by cases r; cases p; exact ⟨[], .nil, .nil, by simp⟩
  | _, _, _, _, .cons hd ht, r, p => by
    cases r with
    | cons r1 r2 =>
      cases p with
      | cons p1 p2 p3 =>
        obtain ⟨as, k1, k2⟩ := DV.reads ok hs hm hd r1.2
        obtain ⟨bs, k3, k4, k5⟩ := DKs.reads ok hs hm ht r2 p3
        have e1 := r1.1
        dsimp only at e1
        refine ⟨as ++ bs, ?_, ?_, fun z => by exact (List.mem_append.mp z).elim k2 k5⟩
        · refine ReadsAll.cons (as := []) (bs := []) ?_ k3
          rw [e1]
          exact key_reads (by rw [← mixKind_is P w]; exact p1)
        · refine ReadsAll.cons ?_ k4
          dsimp only
          rw [p2]
          exact k1
end
end
section
variable {X : Cx} {Z : Zd} {pos : Pos}
def rShow : List V → Hp → VK → Prop := fun xs H Q => ∃ v d B, xs = [v] ∧ Sub B H ∧ (∀ ys, B sysModules ≠ some (.lst ys)) ∧ DV B v d ∧ d.showable = true ∧ d.shown.length ≤ 16000000 ∧ d.depth ≤ 40 ∧ Q (.str d.shown) H
theorem call_repr_dv (hu : X.A.units + 64 < cLine) (hg : X.A.guards = some []) : CallR X (.builtin "repr") rShow := by
  intro pins s σ H xs us Q I r h
  obtain ⟨v, d, B, rfl, hs, hm, hv, h1, h2, h3, q⟩ := h
  obtain ⟨u, rfl, rx⟩ := vals1 r
  obtain ⟨as, r1, r2⟩ := hv.reads I.hok hs hm rx
  have sz : d.shown.length ≤ sizeLine := Nat.le_trans h2 (by decide)
  have fin : ∀ (d' : Str) (t : Tok) (hp : Heap) (tk : Nat), d' = d.shown → (∀ b o, s.heap.get? b = some o → hp.get? b = some o) → EP X pins σ Q (.str d' t) { s with heap := hp, toks := tk } := fun d' t hp tk e k =>
    ⟨.str d.shown, H, I.kept k, ⟨t, by rw [e]⟩, q⟩
  cases r1 with
  | none => exact PySem.P.repr_of_none (fin _ _ _ _ rfl fun _ _ e => e)
  | bool b => exact PySem.P.repr_of_bool (fin _ _ _ _ (by cases b <;> rfl) fun _ _ e => e)
  | int i t => exact PySem.P.repr_of_int (by simpa [PyData.showable] using h1) (fin _ _ _ _ rfl fun _ _ e => e)
  | str x t => exact PySem.P.repr_of_str (fin _ _ _ _ rfl fun _ _ e => e) sz
  | list e1 e2 e3 e4 => exact repr_of_reads' (.list e1 e2 e3 e4) h1 (fun _ => r2) hg (by omega) (fun _ _ e => e) (fun hp u tk k => fin _ _ _ _ rfl k) sz
  | tuple e1 e2 e3 e4 => exact repr_of_reads' (.tuple e1 e2 e3 e4) h1 (fun _ => r2) hg (by omega) (fun _ _ e => e) (fun hp u tk k => fin _ _ _ _ rfl k) sz
  | dict e1 e2 e3 e4 e5 => exact repr_of_reads' (.dict e1 e2 e3 e4 e5) h1 (fun _ => r2) hg (by omega) (fun _ _ e => e) (fun hp u tk k => fin _ _ _ _ rfl k) sz
/-- what a datum's text is -/
def oRepr (d : D) (k : Rt → Prop) : Prop := (d.showable = true ∧ d.shown.length ≤ 16000000 ∧ d.depth ≤ 40) ∧ k (.va (.str d.shown))
theorem px_repr {a : Expr} {wa : XT} {p : Pos} (hu : X.A.units + 64 < cLine) (hG : X.A.guards = some []) (hZ : Z.sm = true) (hg : Gl X "repr") (hm : X.mg "repr" = none) (ha : PX X Z a wa)
    (s1 : starEach [a] X.env = (false, eval a X.env) :: starEach [] X.env := by rfl) : PX X Z (.Call (.Name "repr" p) [a] [] pos) (xUn oRepr wa) := by
  refine ⟨monoUn (fun d k k' hk h => ⟨h.1, hk _ h.2⟩) ha.mono, pe_imp (pe_callB (call_repr_dv hu hG) hg hm PyProof.Rows.boot_repr (pa_cons ha.pe pa_nil s1) (by decide) (by decide) s1 rfl) fun σ H Q h => ?_⟩
  obtain ⟨δ, B, ρ, R, h⟩ := h
  refine ⟨δ, B, ρ, R, ha.mono ρ _ _ (fun x ρ1 h1 v1 H1 B1 R1 S1 q1 => ?_) h⟩
  obtain ⟨C1, R1', S1', d1⟩ := freeze R1 S1 q1
  obtain ⟨φ, eφ⟩ := R1'.sm hZ
  exact ⟨v1, x.d, C1, rfl, R1'.sub, (fun ys z => by rw [eφ] at z; cases z), d1, h1.1.1, h1.1.2.1, h1.1.2.2, h1.2 _ H1 C1 R1' S1' (.str _)⟩

theorem flat_dv {B : Hp} {x : V} {d : D} (h : DV B x d) : flatV x = flatD d ∨ flatD d = false := by
  cases h <;> first | exact .inl rfl | exact .inr rfl
theorem flat_of {B : Hp} {x : V} {d : D} (h : DV B x d) (f : flatD d = true) : flatV x = true := by
  rcases flat_dv h with e | e
  · rw [e]; exact f
  · rw [e] at f; cases f
theorem flats_of {B : Hp} : ∀ {xs : List V} {ds : List D}, DVs B xs ds → ds.all flatD = true → xs.all flatV = true
  | _, _, .nil, _ => rfl
  | _, _, .cons h hs, f => by
    rw [List.all_cons, Bool.and_eq_true] at f ⊢
    exact ⟨flat_of h f.1, flats_of hs f.2⟩
theorem eqV_dv {B : Hp} {x y : V} {d e : D} (h : DV B x d) (k : DV B y e) (f : flatD d = true) (g : flatD e = true) : eqV x y = PyData.eqv d e := by
  cases h <;> cases k <;> first | (cases f; done) | (cases g; done) | (simp only [eqV, PyData.eqv])
theorem inV_dv {B : Hp} {x : V} {d : D} (h : DV B x d) (f : flatD d = true) : ∀ {xs : List V} {ds : List D}, DVs B xs ds → ds.all flatD = true → inV x xs = ds.any fun y => PyData.eqv y d
  | _, _, .nil, _ => rfl
  | _, _, .cons (v := v) (vs := vs) (d := e) (ds := es) k ks, g => by
    rw [List.all_cons, Bool.and_eq_true] at g
    have ih := inV_dv h f ks g.2
    unfold inV at ih ⊢
    rw [List.any_cons, List.any_cons, ih, eqV_dv k h g.1 f]
theorem o_in : Op2 X (oIn false) (compareOp .In) := by
  refine ⟨_, op_in_seq, fun x y d e H B Q k hs hx hy hf hk => ?_⟩
  obtain ⟨xs, e1, e2, e3, e4⟩ := hf
  cases e with
  | list ds =>
    cases e1
    obtain ⟨a, vs, rfl, ha, hv⟩ := hy.list_inv
    exact ⟨a, vs, rfl, .inl (SqL.of (hs _ _ ha)), flat_of hx e2, flats_of hv e3, hk _ _ _ _ e4 (by rw [inV_dv hx e2 hv e3]; exact .same (.bl _))⟩
  | tuple ds =>
    cases e1
    obtain ⟨a, vs, rfl, ha, hv⟩ := hy.tuple_inv
    exact ⟨a, vs, rfl, .inr (SqT.of (hs _ _ ha)), flat_of hx e2, flats_of hv e3, hk _ _ _ _ e4 (by rw [inV_dv hx e2 hv e3]; exact .same (.bl _))⟩
  | _ => cases e1
theorem o_notIn : Op2 X (oIn true) (compareOp .NotIn) := by
  refine ⟨_, op_notIn_seq, fun x y d e H B Q k hs hx hy hf hk => ?_⟩
  obtain ⟨xs, e1, e2, e3, e4⟩ := hf
  cases e with
  | list ds =>
    cases e1
    obtain ⟨a, vs, rfl, ha, hv⟩ := hy.list_inv
    exact ⟨a, vs, rfl, .inl (SqL.of (hs _ _ ha)), flat_of hx e2, flats_of hv e3, hk _ _ _ _ e4 (by rw [inV_dv hx e2 hv e3]; exact .same (.bl _))⟩
  | tuple ds =>
    cases e1
    obtain ⟨a, vs, rfl, ha, hv⟩ := hy.tuple_inv
    exact ⟨a, vs, rfl, .inr (SqT.of (hs _ _ ha)), flat_of hx e2, flats_of hv e3, hk _ _ _ _ e4 (by rw [inV_dv hx e2 hv e3]; exact .same (.bl _))⟩
  | _ => cases e1
theorem mo_in {n : Bool} : MonoO (oIn n) := fun d e k k' hk ⟨xs, a, b, c, h⟩ => ⟨xs, a, b, c, hk _ h⟩
/-- in a tuple that the module's head has made: the things in it are flat constants -/
def oInC (neg : Bool) (cs : List D) (d : D) (k : Rt → Prop) : Prop := flatD d = true ∧ k (.va (.bool (if neg then !(cs.any fun y => PyData.eqv y d) else cs.any fun y => PyData.eqv y d)))
def vOf : D → V
  | .bool b => .bl b
  | .int i => .int i
  | .str s => .str s
  | _ => .non
theorem vOf_dv (B : Hp) : ∀ {d : D}, flatD d = true → DV B (vOf d) d
  | .none, _ => .non
  | .bool b, _ => .bl b
  | .int i, _ => .int i
  | .str s, _ => .str s
theorem vOfs_dv (B : Hp) : ∀ {ds : List D}, ds.all flatD = true → DVs B (ds.map vOf) ds
  | [], _ => .nil
  | d :: ds, f => by
    rw [List.all_cons, Bool.and_eq_true] at f
    exact .cons (vOf_dv B f.1) (vOfs_dv B f.2)
theorem px_inG {neg : Bool} {op : CmpOp} {cs : List D} {e : Expr} {we : XT} {x : Str} {p : Pos} {a : Addr} (ho : OpR X (compareOp op) (rIn X.K neg)) (he : PX X Z e we) (hg : Gl X x) (hm : X.mg x = some (.ref a)) (hd : (x == ("__debug__" : Str)) = false := by decide) (hc : cs.all flatD = true) (ht : ∀ H, SqT X.K H a (cs.map vOf))
    (hmk : behindInMarks op (.Name x p) = false := by rfl) : PX X Z (.Compare e [op] [.Name x p] pos) (xUn (oInC neg cs) we) := by
  refine ⟨monoUn (fun d k k' hk h => ⟨h.1, hk _ h.2⟩) he.mono, pe_imp (pe_cmpR ho he.pe (pe_glob (v := .ref a) hg hm rfl hd) hmk) fun σ H Q h => ?_⟩
  obtain ⟨δ, B, ρ, R, h⟩ := h
  refine ⟨δ, B, ρ, R, he.mono ρ _ _ (fun x ρ1 h1 v1 H1 B1 R1 S1 q1 => ?_) h⟩
  obtain ⟨C1, R1', S1', d1⟩ := freeze R1 S1 q1
  refine ⟨a, _, rfl, .inr (ht H1), flat_of d1 h1.1, flats_of (vOfs_dv C1 hc) hc, ?_⟩
  rw [inV_dv d1 h1.1 (vOfs_dv C1 hc) hc]
  exact h1.2 _ H1 C1 R1' S1' (.bl _)
theorem pb_inG {neg : Bool} {op : CmpOp} {cs : List D} {e : Expr} {we : XT} {x : Str} {p : Pos} {a : Addr} (ho : OpR X (compareOp op) (rIn X.K neg)) (he : PX X Z e we) (hg : Gl X x) (hm : X.mg x = some (.ref a)) (hd : (x == ("__debug__" : Str)) = false := by decide) (hc : cs.all flatD = true) (ht : ∀ H, SqT X.K H a (cs.map vOf))
    (hmk : behindInMarks op (.Name x p) = false := by rfl) : PB X Z (.Compare e [op] [.Name x p] pos) (bX (xUn (oInC neg cs) we)) := by
  have mono := monoUn (f := oInC neg cs) (fun d k k' hk h => ⟨h.1, hk _ h.2⟩) he.mono
  refine ⟨fun ρ k k' hk h => mono ρ _ _ (fun r ρ1 ⟨c, h1, h2⟩ => ⟨c, h1, hk _ _ h2⟩) h, pt_imp (pt_cmpR ho he.pe (pe_glob (v := .ref a) hg hm rfl hd) hmk) fun σ H Q h => ?_⟩
  obtain ⟨δ, B, ρ, R, h⟩ := h
  refine ⟨δ, B, ρ, R, he.mono ρ _ _ (fun x ρ1 h1 v1 H1 B1 R1 S1 q1 => ?_) h⟩
  obtain ⟨C1, R1', S1', d1⟩ := freeze R1 S1 q1
  refine ⟨a, _, rfl, .inr (ht H1), flat_of d1 h1.1, flats_of (vOfs_dv C1 hc) hc, ?_⟩
  rw [inV_dv d1 h1.1 (vOfs_dv C1 hc) hc]
  obtain ⟨c, e, h2⟩ := h1.2
  cases e
  exact ⟨_, rfl, h2 H1 C1 R1' S1'⟩

theorem nil_rows {neg : Bool} {δ : Dk} {σ : L2.St} {H B : Hp} {ρ : Ev} {xs : List D} {v : V} {Q : VK} (R : Rel Z δ σ H B ρ) (hv : (∃ a vs, v = .ref a ∧ H a = some (.lst vs) ∧ vs.length = xs.length))
    (fin : ∀ p, H p = none → Rel Z δ σ (upd H p (.lst [])) B ρ → Stp (MM σ ρ δ) (MM σ ρ δ) H B (upd H p (.lst [])) B → Q (.bl (if neg then !xs.isEmpty else xs.isEmpty)) (upd H p (.lst []))) : tLst (fun _ H' q => q [] H') σ H fun y H2 => rNilL X.K neg v y H2 Q := by
  obtain ⟨a, vs, rfl, ha, hl⟩ := hv
  refine ⟨Nat.zero_le _, fun p hp => ⟨a, p, vs, rfl, rfl, SqL.of (sub_upd hp _ _ ha), SqL.of upd_same, ?_⟩⟩
  have e : vs.isEmpty = xs.isEmpty := by
    cases vs <;> cases xs <;> first | rfl | (simp at hl; done)
  rw [e]
  exact fin p hp (R.own hp) (Stp.own R hp)
theorem len_of_peek {δ : Dk} {σ : L2.St} {H B : Hp} {ρ : Ev} (R : Rel Z δ σ H B ρ) {i : Nat} {xs : List D} (h : peek ρ i = some (.list xs)) : ∃ v, σ[i]? = some (some v) ∧ ∃ a vs, v = .ref a ∧ H a = some (.lst vs) ∧ vs.length = xs.length := by
  obtain ⟨v, h1, h2⟩ := peek_dv R h
  obtain ⟨a, vs, rfl, ha, hv⟩ := h2.list_inv
  exact ⟨_, h1, a, vs, rfl, ha, hv.length⟩
theorem px_nilN {neg : Bool} {op : CmpOp} (i : Nat) {x : Str} {p q : Pos} (ho : OpR X (compareOp op) (rNilL X.K neg)) (hN : X.N[i]? = some x := by rfl) (hv : Vis X.env.scope x := by first | exact Or.inl rfl | exact Or.inr (Or.inl rfl) | exact Or.inr (Or.inr rfl)) (hd : (x == ("__debug__" : Str)) = false := by decide)
    (hcd : (x == ("__classdict__" : Str)) = false := by decide) (hmk : behindInMarks op (.List [] q) = false := by rfl) : PX X Z (.Compare (.Name x p) [op] [.List [] q] pos) (xNilN neg i) := by
  refine ⟨fun ρ k k' hk ⟨xs, h1, h2⟩ => ⟨xs, h1, hk _ _ h2⟩, pe_imp (pe_cmpR ho (pe_var hN hv hd hcd) (pe_lst pa_nil) hmk) fun σ H Q h => ?_⟩
  obtain ⟨δ, B, ρ, R, xs, h1, h2⟩ := h
  obtain ⟨v, k1, k2⟩ := len_of_peek R h1
  exact ⟨v, k1, nil_rows R k2 fun p hp R' S' => h2 _ _ B R' S' (.bl _)⟩
theorem pb_nilN {neg : Bool} {op : CmpOp} (i : Nat) {x : Str} {p q : Pos} (ho : OpR X (compareOp op) (rNilL X.K neg)) (hN : X.N[i]? = some x := by rfl) (hv : Vis X.env.scope x := by first | exact Or.inl rfl | exact Or.inr (Or.inl rfl) | exact Or.inr (Or.inr rfl)) (hd : (x == ("__debug__" : Str)) = false := by decide)
    (hcd : (x == ("__classdict__" : Str)) = false := by decide) (hmk : behindInMarks op (.List [] q) = false := by rfl) : PB X Z (.Compare (.Name x p) [op] [.List [] q] pos) (bX (xNilN neg i)) := by
  refine ⟨fun ρ k k' hk ⟨xs, h1, c, e, h2⟩ => ⟨xs, h1, c, e, hk _ _ h2⟩, pt_imp (pt_cmpR ho (pe_var hN hv hd hcd) (pe_lst pa_nil) hmk) fun σ H Q h => ?_⟩
  obtain ⟨δ, B, ρ, R, xs, h1, c, e, h2⟩ := h
  obtain ⟨v, k1, k2⟩ := len_of_peek R h1
  cases e
  exact ⟨v, k1, nil_rows (Q := fun x H' => ∃ k, x = .bl k ∧ Q k H') R k2 fun p hp R' S' => ⟨_, rfl, h2 _ B R' S'⟩⟩
/-- e == [], e != [] -/
def oNil (neg : Bool) : D → (Rt → Prop) → Prop
  | .list xs, k => k (.va (.bool (if neg then !xs.isEmpty else xs.isEmpty)))
  | _, _ => False
theorem mo_nil {neg : Bool} : MonoU (oNil neg) := fun d k k' hk h => by cases d <;> first | exact h.elim | exact hk _ h
theorem px_nil {neg : Bool} {op : CmpOp} {e : Expr} {we : XT} {q : Pos} (ho : OpR X (compareOp op) (rNilL X.K neg)) (he : PX X Z e we) (hmk : behindInMarks op (.List [] q) = false := by rfl) : PX X Z (.Compare e [op] [.List [] q] pos) (xUn (oNil neg) we) := by
  refine ⟨monoUn mo_nil he.mono, pe_imp (pe_cmpR ho he.pe (pe_lst pa_nil) hmk) fun σ H Q h => ?_⟩
  obtain ⟨δ, B, ρ, R, h⟩ := h
  refine ⟨δ, B, ρ, R, he.mono ρ _ _ (fun x ρ1 h1 v1 H1 B1 R1 S1 q1 => ?_) h⟩
  obtain ⟨C1, R1', S1', d1⟩ := freeze R1 S1 q1
  generalize x.d = d at d1 h1
  cases d with
  | list xs =>
    obtain ⟨a, vs, rfl, ha, hv⟩ := d1.list_inv
    exact nil_rows R1' ⟨a, vs, rfl, R1'.sub _ _ ha, hv.length⟩ fun p hp R' S' => h1 _ _ C1 R' (S1'.trans S') (.bl _)
  | _ => exact h1.elim
theorem pb_nil {neg : Bool} {op : CmpOp} {e : Expr} {we : XT} {q : Pos} (ho : OpR X (compareOp op) (rNilL X.K neg)) (he : PX X Z e we) (hmk : behindInMarks op (.List [] q) = false := by rfl) : PB X Z (.Compare e [op] [.List [] q] pos) (bX (xUn (oNil neg) we)) := by
  have mono := monoUn (f := oNil neg) mo_nil he.mono
  refine ⟨fun ρ k k' hk h => mono ρ _ _ (fun r ρ1 ⟨c, h1, h2⟩ => ⟨c, h1, hk _ _ h2⟩) h, pt_imp (pt_cmpR ho he.pe (pe_lst pa_nil) hmk) fun σ H Q h => ?_⟩
  obtain ⟨δ, B, ρ, R, h⟩ := h
  refine ⟨δ, B, ρ, R, he.mono ρ _ _ (fun x ρ1 h1 v1 H1 B1 R1 S1 q1 => ?_) h⟩
  obtain ⟨C1, R1', S1', d1⟩ := freeze R1 S1 q1
  generalize x.d = d at d1 h1
  cases d with
  | list xs =>
    obtain ⟨a, vs, rfl, ha, hv⟩ := d1.list_inv
    obtain ⟨c, e, h2⟩ := h1
    cases e
    exact nil_rows (Q := fun x H' => ∃ k, x = .bl k ∧ Q k H') R1' ⟨a, vs, rfl, R1'.sub _ _ ha, hv.length⟩ fun p hp R' S' => ⟨_, rfl, h2 _ C1 R' (S1'.trans S')⟩
  | _ => exact h1.elim
theorem px_lenN (i : Nat) {x : Str} {p q : Pos} (hg : Gl X "len") (hm : X.mg "len" = none) (hN : X.N[i]? = some x := by rfl) (hv : Vis X.env.scope x := by first | exact Or.inl rfl | exact Or.inr (Or.inl rfl) | exact Or.inr (Or.inr rfl)) (hd : (x == ("__debug__" : Str)) = false := by decide)
    (hcd : (x == ("__classdict__" : Str)) = false := by decide) (s1 : starEach [.Name x p] X.env = (false, eval (.Name x p) X.env) :: starEach [] X.env := by rfl) : PX X Z (.Call (.Name "len" q) [.Name x p] [] pos) (xLenN i) := by
  refine ⟨fun ρ k k' hk ⟨d, h1, h2⟩ => ⟨d, h1, mf_len _ _ _ (fun z h => hk _ _ h) h2⟩, pe_imp (pe_callB (CallR.or call_len_seq call_len_str) hg hm (by rfl) (pa_cons (pe_var hN hv hd hcd) pa_nil s1) (by decide) (by decide) s1 rfl) fun σ H Q h => ?_⟩
  obtain ⟨δ, B, ρ, R, d, h1, h2⟩ := h
  obtain ⟨v, k1, k2⟩ := peek_dv R h1
  refine ⟨v, k1, ?_⟩
  unfold fLen at h2
  split at h2
  · rename_i xs k e
    cases e
    obtain ⟨a, vs, rfl, ha, hv⟩ := k2.list_inv
    refine .inl ⟨a, vs, rfl, .inl (SqL.of ha), ?_⟩
    rw [hv.length]
    exact h2 _ H B R Stp.refl (.int _)
  · rename_i xs k e
    cases e
    obtain ⟨a, vs, rfl, ha, hv⟩ := k2.tuple_inv
    refine .inl ⟨a, vs, rfl, .inr (SqT.of ha), ?_⟩
    rw [hv.length]
    exact h2 _ H B R Stp.refl (.int _)
  · rename_i xs k e
    cases e
    cases k2
    exact .inr ⟨_, rfl, big_le h2.1, h2.2 _ H B R Stp.refl (.int _)⟩
  · exact h2.elim

theorem m_append : Mt1 X mAppend "list.append" := by
  refine ⟨_, mt_append, fun l vs xs ds es H B Q k hs hl hv hx hf hk => ?_⟩
  unfold mAppend at hf
  split at hf
  · obtain ⟨y, rfl, hy⟩ := one_inv hx
    exact ⟨l, vs, y, rfl, rfl, hl, by rw [hv.length]; exact Nat.lt_of_le_of_lt hf.1 (by decide), hk _ _ _ _ hf.2 .non (hv.append (.cons hy .nil))⟩
  · exact hf.elim
theorem mm_append : MonoM mAppend := fun ds es k k' hk h => by
  unfold mAppend at h ⊢
  split at h
  · exact ⟨h.1, hk _ _ h.2⟩
  · exact h.elim
theorem m_extend : Mt1 X mExtend "list.extend" := by
  refine ⟨_, mt_extend, fun l vs xs ds es H B Q k hs hl hv hx hf hk => ?_⟩
  unfold mExtend at hf
  split at hf
  · obtain ⟨y, rfl, hy⟩ := one_inv hx
    obtain ⟨b, zs, rfl, hb, hz⟩ := hy.list_inv
    exact ⟨l, b, vs, zs, rfl, rfl, hl, hs _ _ hb, by rw [hv.length, hz.length]; exact big_le hf.1, hk _ _ _ _ hf.2 .non (hv.append hz)⟩
  · exact hf.elim
theorem mm_extend : MonoM mExtend := fun ds es k k' hk h => by
  unfold mExtend at h ⊢
  split at h
  · exact ⟨h.1, hk _ _ h.2⟩
  · exact h.elim
theorem DVs.dropLast {B : Hp} {vs : List V} {ds : List D} (h : DVs B vs ds) : DVs B vs.dropLast ds.dropLast := by
  rw [List.dropLast_eq_take, List.dropLast_eq_take, h.length]
  exact h.take _
theorem DVs.erase {B : Hp} {vs : List V} {ds : List D} (h : DVs B vs ds) (i : Nat) : DVs B (vs.eraseIdx i) (ds.eraseIdx i) := by
  rw [List.eraseIdx_eq_take_drop_succ, List.eraseIdx_eq_take_drop_succ]
  exact (h.take _).append (h.drop _)
theorem m_insert : Mt1 X mInsert "list.insert" := by
  refine ⟨_, mt_insert, fun l vs xs ds es H B Q k hs hl hv hx hf hk => ?_⟩
  unfold mInsert at hf
  split at hf
  · obtain ⟨y, z, rfl, hy, hz⟩ := two_inv hx
    cases hy
    obtain ⟨⟨h1, h2, h3⟩, h4⟩ := hf
    exact ⟨l, vs, _, z, rfl, rfl, hl, by rw [hv.length]; exact Nat.lt_of_le_of_lt h3 (by decide), h1, by omega, hk _ _ _ _ h4 .non (((hv.take _).append (.cons hz .nil)).append (hv.drop _))⟩
  · exact hf.elim
theorem mm_insert : MonoM mInsert := fun ds es k k' hk h => by
  unfold mInsert at h ⊢
  split at h
  · exact ⟨h.1, hk _ _ h.2⟩
  · exact h.elim
theorem mm_pop : MonoM mPop := fun ds es k k' hk h => by
  unfold mPop at h ⊢
  split at h
  · obtain ⟨d, h1, h2⟩ := h; exact ⟨d, h1, hk _ _ h2⟩
  · obtain ⟨h0, d, h1, h2⟩ := h; exact ⟨h0, d, h1, hk _ _ h2⟩
  · exact h.elim
theorem m_pop : Mt1 X mPop "list.pop" := by
  refine ⟨fun x xs H Q => rPop x xs H Q ∨ rPopAt x xs H Q, fun pins s σ H x xs v us Q I rx rv q => q.elim (mt_pop pins s σ H x xs v us Q I rx rv) (mt_popAt pins s σ H x xs v us Q I rx rv), fun l vs xs ds es H B Q k hs hl hv hx hf hk => ?_⟩
  unfold mPop at hf
  split at hf
  · cases hx
    obtain ⟨d, h1, h2⟩ := hf
    rw [List.getLast?_eq_getElem?] at h1
    obtain ⟨v, k1, k2⟩ := hv.get h1
    exact .inl ⟨l, vs, v, rfl, rfl, hl, by rw [hv.length]; exact k1, hk _ _ _ _ h2 k2 hv.dropLast⟩
  · obtain ⟨y, rfl, hy⟩ := one_inv hx
    cases hy
    obtain ⟨⟨h1, h2⟩, d, h3, h4⟩ := hf
    obtain ⟨v, k1, k2⟩ := hv.get h3
    have lt := (List.getElem?_eq_some_iff.mp k1).1
    rename_i i
    have e1 : ¬ i < 0 := by omega
    have e2 : i < (vs.length : Int) := by omega
    refine .inr ⟨l, vs, _, _, v, rfl, rfl, hl, by omega, by omega, ?_, k1, hk _ _ _ _ h4 k2 (hv.erase _)⟩
    unfold seqIndex?
    dsimp only
    rw [if_neg e1, if_pos (by simp [h1, e2])]
  · exact hf.elim
/-- y = [..] on one line -/
theorem qs_setLc (i : Nat) {y : Str} {py : Pos} {elt tg iter : Expr} {ifs : List Expr} {scope : Scope} {own : List (Str × Nat)} {t : Tg} {it : IT} {tt : BT} {w : XT} {spos : Pos} (hc : X.calm = true) (hN : X.N.Nodup) (hy : X.N[i]? = some y) (hyl : X.env.scope.names.lookup y = some .local)
    (hsw : swapsWith (.ListComp elt [⟨tg, iter, ifs, 0⟩] scope pos) (some (.Name y py)) spos.line X.env = pure true) (hi : QI X Z tg iter it) (ok : BlkOk X.N X.env.scope scope own)
    (hg : ∀ (s : Shared) (H : Hp) (C : Addr) (cl : List (Str × Addr)) (fp : List Addr), QG (X.blk s H scope (compEnvC scope cl C X.env) fp) Z tg t) (ht : ∀ (s : Shared) (H : Hp) (C : Addr) (cl : List (Str × Addr)) (fp : List Addr), QTs (X.blk s H scope (compEnvC scope cl C X.env) fp) Z ifs tt)
    (he : ∀ (s : Shared) (H : Hp) (C : Addr) (cl : List (Str × Addr)) (fp : List Addr), PX (X.blk s H scope (compEnvC scope cl C X.env) fp) Z elt w) (hv : ∀ i ∈ tgIx t, i ∈ own.map (·.2) := by decide) (hs : ∀ x, foldedSetIterable iter X.env x = pure x := by intro _; rfl) :
    QS X Z (.Assign [.Name y py] (.ListComp elt [⟨tg, iter, ifs, 0⟩] scope pos) spos) (sSet i (xLc t it tt w (own.map (·.2)))) := by
  have mt : MonoB tt := (ht X.s_0 (fun _ => none) 0 [] []).mono
  have mw : MonoX w := (he X.s_0 (fun _ => none) 0 [] []).mono
  refine ⟨fun ρ E E' hE h => monoLc hi.mono mt mw ρ _ _ (fun r ρ1 h1 => hE.nx _ h1) h, ps_imp (ps_setLc hc hN hy hyl hsw hi.pi ok (fun s H C cl fp => (hg s H C cl fp).pg) (fun s H C cl fp => (ht s H C cl fp).pt) (fun s H C cl fp => (he s H C cl fp).pe) hs) fun E σ H h => ?_⟩
  refine LX.lc hi.mono mt mw hv ?_
  obtain ⟨δ, B, ρ, R, h⟩ := h
  refine ⟨δ, B, ρ, R, monoLc hi.mono mt mw ρ _ _ (fun x ρ1 h1 v1 H1 B1 R1 S1 q1 => ?_) h⟩
  obtain ⟨R2, S2⟩ := R1.put (i := i) S1 q1
  exact h1 _ H1 B1 R2 S2
end
end DL

namespace DL
open PySem L2 PyProof.Rows
/-- a def that may be called by its name -/
structure CalG (P : Program) (w : World) (K : PySem.W.Frag) (mg : Str → Option Value) (base : Heap) (Z : Zd) (k : Nat) (x : Str) (ps : List Str) (C : Con) : Prop where
  ex : ∃ (f : Addr) (fd : FuncData), FnG P w K mg base CX0 k f fd ps (spOf Z C) ∧ mg x = some (.ref f) ∧ PySem.W.keepIn K (.ref f) = true ∧ Binds K fd ps []
  mono : MonoK C
/-- .. with these keywords -/
structure CalK (P : Program) (w : World) (K : PySem.W.Frag) (mg : Str → Option Value) (base : Heap) (Z : Zd) (k : Nat) (x : Str) (ps ks : List Str) (π : List Nat) (C : Con) : Prop where
  ex : ∃ (f : Addr) (fd : FuncData), FnG P w K mg base CX0 k f fd ps (spOf Z C) ∧ mg x = some (.ref f) ∧ PySem.W.keepIn K (.ref f) = true ∧ KwB fd ps ks π
  mono : MonoK C
/-- the slots a name may be read in place from -/
theorem peekL {Z : Zd} {δ : Dk} {σ : L2.St} {H B : Hp} {ρ : Ev} (R : Rel Z δ σ H B ρ) {i : Nat} {ds : List D} (h : peek ρ i = some (.list ds)) : ∃ p vs, σ[i]? = some (some (.ref p)) ∧ H p = some (.lst vs) ∧ DVs B vs ds := by
  rcases peek_item R h with ⟨es, e, p, vs, h1, h2, h3⟩ | ⟨v, h1, h2⟩
  · cases e; exact ⟨p, vs, h1, h2, h3⟩
  · obtain ⟨p, vs, rfl, ha, hv⟩ := h2.list_inv
    exact ⟨p, vs, h1, R.sub _ _ ha, hv⟩
/-- x + e, list(x), tuple(x), x[a:b]: x the name of an own list, which stays one's own -/
def xAddN (i : Nat) (b : XT) : XT := fun ρ k => hasL ρ i ∧ b ρ fun y ρ1 => atL ρ1 i fun xs => asL y.d fun ys => xs.length + ys.length ≤ 1000000 ∧ k (.ow (xs ++ ys)) ρ1
def xListN (i : Nat) : XT := fun ρ k => atL ρ i fun xs => k (.ow xs) ρ
def xTupN (i : Nat) : XT := fun ρ k => atL ρ i fun xs => k (.va (.tuple xs)) ρ
def xSlN (i : Nat) (lo hi : PT2) : XT := fun ρ k => hasL ρ i ∧ lo ρ fun l ρ2 => hi ρ2 fun h ρ3 => atL ρ3 i fun xs => k (.ow (cutL xs l h)) ρ3
section
variable {X : Cx} {Z : Zd} {pos : Pos}
theorem px_gI {x : Str} {i : Int} (hm : ∃ t, X.mg x = some (.int i t)) (hg : Gl X x := by rfl) (hd : (x == ("__debug__" : Str)) = false := by decide) : PX X Z (.Name x pos) (xC (.int i)) := by
  obtain ⟨t, h⟩ := hm
  exact px_gInt hg h hd
theorem px_call {k : Nat} {x : Str} {ps : List Str} {C : Con} {p : Pos} {e : Expr} {es : List Expr} {a : CT} (F : CalG X.prog X.w X.K X.mg X.base Z k x ps C) (hr : Room k X.A) (hG : X.A.guards = some [])
    (ha : QC X Z (e :: es) a) (hg : Gl X x := by rfl) (hdb : (x == ("__debug__" : Str)) = false := by decide) (he : starEach (e :: es) X.env = (false, eval e X.env) :: starEach es X.env := by rfl) (hpl : (backTo pos (starEach es X.env)).any (·.1) = false := by rfl) :
    PX X Z (.Call (.Name x p) (e :: es) [] pos) (xDef C a) := by
  obtain ⟨f, fd, h1, h2, h3, h4⟩ := F.ex
  exact px_def h1 F.mono hr hG hg h2 h3 h4 ha hdb he hpl
/-- how many arguments a row of keywords gives -/
theorem hl_nil : ∀ ρ (q : List Ar → Ev → Prop), cNil ρ q → cNil ρ fun as ρ' => as.length = 0 ∧ q as ρ' := fun _ _ h => ⟨rfl, h⟩
theorem hl_va {x : XT} {a : CT} {n : Nat} (mx : MonoX x) (h : ∀ ρ (q : List Ar → Ev → Prop), a ρ q → a ρ fun as ρ' => as.length = n ∧ q as ρ') : ∀ ρ (q : List Ar → Ev → Prop), cVa x a ρ q → cVa x a ρ fun as ρ' => as.length = n + 1 ∧ q as ρ' := fun ρ q w =>
  mx ρ _ _ (fun r ρ1 w1 => by
    have z := h ρ1 _ w1
    dsimp only at z ⊢
    simpa [Nat.add_right_cancel_iff] using z) w
/-- a row of keywords, with how many there are -/
structure QN (X : Cx) (Z : Zd) (kws : List Keyword) (w : CT) (n : Nat) : Prop where
  qk : QK X Z kws w
  hl : ∀ ρ (q : List Ar → Ev → Prop), w ρ q → w ρ fun as ρ' => as.length = n ∧ q as ρ'
theorem qn_nil : QN X Z [] cNil 0 := ⟨qk_nil, hl_nil⟩
theorem qn_va {nm : Option Str} {e : Expr} {kpos : Pos} {w : XT} {kws : List Keyword} {a : CT} {n : Nat} (he : PX X Z e w) (ha : QN X Z kws a n) : QN X Z (⟨nm, e, kpos⟩ :: kws) (cVa w a) (n + 1) := ⟨qk_va he ha.qk, hl_va he.mono ha.hl⟩
theorem px_callK {k : Nat} {x : Str} {ps ks : List Str} {π : List Nat} {C : Con} {p : Pos} {kws : List Keyword} {a : CT} {n : Nat} (F : CalK X.prog X.w X.K X.mg X.base Z k x ps ks π C) (hr : Room k X.A) (hG : X.A.guards = some [])
    (ha : QN X Z kws a n) (hn : n = ks.length := by rfl) (hg : Gl X x := by rfl) (hdb : (x == ("__debug__" : Str)) = false := by decide) (hall : (backToKw pos (keywordEach kws X.env)).all (·.1.isSome) = true := by rfl) (hks : (backToKw pos (keywordEach kws X.env)).filterMap (·.1) = ks := by rfl)
    (hpl : ((backTo pos (starEach [] X.env)).any (·.1) || (backToKw pos (keywordEach kws X.env)).any (·.1.isNone)) = false := by rfl) : PX X Z (.Call (.Name x p) [] kws pos) (xDefK C π a) := by
  obtain ⟨f, fd, h1, h2, h3, h4⟩ := F.ex
  exact px_defK h1 F.mono hr hG hg h2 h3 h4 ha.qk (by rw [← hn]; exact ha.hl) hdb hall hks hpl
theorem px_dict0 : PX X Z (.Dict [] [] pos) (xC (.dict [])) := by
  refine ⟨fun _ _ _ hk h => hk _ _ h, pe_imp pe_dnewK fun σ H Q ⟨δ, B, ρ, R, h⟩ p hp => ?_⟩
  have m : Made H B (upd H p (.dK [])) (upd B p (.dK [])) (.ref p) (.va (.dict [])) := ⟨.inr ⟨p, _, hp, rfl, .inr rfl⟩, .dic upd_same .nil⟩
  obtain ⟨R3, S3, q3⟩ := m.fin R
  exact h _ _ _ R3 S3 q3
theorem px_addN (i : Nat) {x : Str} {p : Pos} {b : Expr} {wb : XT} (hb : PX X Z b wb) (hN : X.N[i]? = some x := by rfl) (hv : Vis X.env.scope x := by first | exact Or.inl rfl | exact Or.inr (Or.inl rfl) | exact Or.inr (Or.inr rfl)) (hd : (x == ("__debug__" : Str)) = false := by decide)
    (hcd : (x == ("__classdict__" : Str)) = false := by decide) : PX X Z (.BinOp (.Name x p) .Add b pos) (xAddN i wb) := by
  refine ⟨fun ρ k k' hk ⟨h0, h⟩ => ⟨h0, hb.mono ρ _ _ (fun r ρ1 ⟨xs, h1, ys, h2, h3, h4⟩ => ⟨xs, h1, ys, h2, h3, hk _ _ h4⟩) h⟩, pe_imp (pe_op op_cat (pe_var hN hv hd hcd) hb.pe) fun σ H Q h => ?_⟩
  obtain ⟨δ, B, ρ, R, ⟨ds0, e0⟩, h⟩ := h
  obtain ⟨l, vs0, k1, k2, k3⟩ := peekL R e0
  refine ⟨_, k1, δ, B, ρ, R, hb.mono ρ _ _ (fun y ρ1 w1 v1 H1 B1 R1 S1 q1 => ?_) h⟩
  obtain ⟨xs, e1, ys, e2, e3, w1⟩ := w1
  obtain ⟨C1, R1', S1', d1⟩ := freeze R1 S1 q1
  rw [e2] at d1
  obtain ⟨b, ws, rfl, hb, hw⟩ := d1.list_inv
  obtain ⟨l', vs, j1, j2, j3⟩ := peekL R1' e1
  rw [k1] at j1; cases j1
  refine ⟨l, b, vs, ws, rfl, rfl, j2, R1'.sub _ _ hb, by rw [j3.length, hw.length]; exact big_le e3, fun p hp => ?_⟩
  obtain ⟨R3, S3, q3⟩ := (Made.own hp (j3.append hw)).fin R1'
  exact w1 _ _ _ R3 (S1'.trans S3) (RR.back S1' q3)
theorem px_listN (i : Nat) {x : Str} {p q : Pos} (hg : Gl X "list") (hm : X.mg "list" = none) (hN : X.N[i]? = some x := by rfl) (hv : Vis X.env.scope x := by first | exact Or.inl rfl | exact Or.inr (Or.inl rfl) | exact Or.inr (Or.inr rfl)) (hd : (x == ("__debug__" : Str)) = false := by decide)
    (hcd : (x == ("__classdict__" : Str)) = false := by decide) (s1 : starEach [.Name x p] X.env = (false, eval (.Name x p) X.env) :: starEach [] X.env := by rfl) : PX X Z (.Call (.Name "list" q) [.Name x p] [] pos) (xListN i) := by
  refine ⟨fun ρ k k' hk ⟨xs, h1, h2⟩ => ⟨xs, h1, hk _ _ h2⟩, pe_imp (pe_callTy call_list_of hg hm (by rfl) (pa_cons (pe_var hN hv hd hcd) pa_nil s1) (by decide) (by decide) s1 rfl) fun σ H Q h => ?_⟩
  obtain ⟨δ, B, ρ, R, xs, e1, h⟩ := h
  obtain ⟨l, vs, k1, k2, k3⟩ := peekL R e1
  refine ⟨_, k1, l, vs, rfl, .inl (SqL.of k2), fun p hp => ?_⟩
  obtain ⟨R3, S3, q3⟩ := (Made.own hp k3).fin R
  exact h _ _ _ R3 S3 q3
theorem px_tupN (i : Nat) {x : Str} {p q : Pos} (hg : Gl X "tuple") (hm : X.mg "tuple" = none) (hN : X.N[i]? = some x := by rfl) (hv : Vis X.env.scope x := by first | exact Or.inl rfl | exact Or.inr (Or.inl rfl) | exact Or.inr (Or.inr rfl)) (hd : (x == ("__debug__" : Str)) = false := by decide)
    (hcd : (x == ("__classdict__" : Str)) = false := by decide) (s1 : starEach [.Name x p] X.env = (false, eval (.Name x p) X.env) :: starEach [] X.env := by rfl) : PX X Z (.Call (.Name "tuple" q) [.Name x p] [] pos) (xTupN i) := by
  refine ⟨fun ρ k k' hk ⟨xs, h1, h2⟩ => ⟨xs, h1, hk _ _ h2⟩, pe_imp (pe_callTy call_tuple_of hg hm (by rfl) (pa_cons (pe_var hN hv hd hcd) pa_nil s1) (by decide) (by decide) s1 rfl) fun σ H Q h => ?_⟩
  obtain ⟨δ, B, ρ, R, xs, e1, h⟩ := h
  obtain ⟨l, vs, k1, k2, k3⟩ := peekL R e1
  refine ⟨_, k1, l, vs, rfl, .inl ⟨SqL.of k2, fun p hp => ?_⟩⟩
  obtain ⟨R3, S3, q3⟩ := (Made.tup R.sub hp k3).fin R
  exact h _ _ _ R3 S3 q3
theorem px_slN (i : Nat) {x : Str} {p : Pos} {lo hi : Option Expr} {p2 : Pos} {wl wh : PT2} (hl : QP X Z lo wl) (hh : QP X Z hi wh) (hN : X.N[i]? = some x := by rfl) (hv : Vis X.env.scope x := by first | exact Or.inl rfl | exact Or.inr (Or.inl rfl) | exact Or.inr (Or.inr rfl)) (hd : (x == ("__debug__" : Str)) = false := by decide)
    (hcd : (x == ("__classdict__" : Str)) = false := by decide) : PX X Z (.Subscript (.Name x p) (.Slice lo hi none p2) pos) (xSlN i wl wh) := by
  refine ⟨fun ρ k k' hk ⟨h0, h⟩ => ⟨h0, hl.mono ρ _ _ (fun l ρ2 h2 => hh.mono ρ2 _ _ (fun u ρ3 ⟨xs, h3, h4⟩ => ⟨xs, h3, hk _ _ h4⟩) h2) h⟩, pe_imp (pe_slice sl_list (pe_var hN hv hd hcd) hl.po hh.po) fun σ H Q h => ?_⟩
  obtain ⟨δ, B, ρ, R, ⟨ds0, e0⟩, h⟩ := h
  obtain ⟨l, vs0, k1, k2, k3⟩ := peekL R e0
  refine ⟨_, k1, δ, B, ρ, R, hl.mono ρ _ _ (fun a ρ2 h2 H2 B2 R2 S2 => ⟨δ, B2, ρ2, R2, hh.mono ρ2 _ _ (fun u ρ3 h3 H3 B3 R3 S3 => ?_) h2⟩) h⟩
  obtain ⟨xs, e1, w1⟩ := h3
  obtain ⟨l', vs, j1, j2, j3⟩ := peekL R3 e1
  rw [k1] at j1; cases j1
  refine ⟨l, vs, rfl, SqL.of j2, fun p hp => ?_⟩
  obtain ⟨R4, S4, q4⟩ := (Made.own hp (cut_dvs j3 a u)).fin R3
  exact w1 _ _ _ R4 ((S2.trans S3).trans S4) (RR.back (S2.trans S3) q4)
/-- in a tuple of the module -/
theorem px_inE {neg : Bool} {op : CmpOp} {cs : List D} {e : Expr} {we : XT} {x : Str} {p : Pos} (ho : OpR X (compareOp op) (rIn X.K neg)) (he : PX X Z e we) (h : ∃ a, X.mg x = some (.ref a) ∧ ∀ H, SqT X.K H a (cs.map vOf)) (hc : cs.all flatD = true) (hg : Gl X x := by rfl) (hd : (x == ("__debug__" : Str)) = false := by decide)
    (hmk : behindInMarks op (.Name x p) = false := by rfl) : PX X Z (.Compare e [op] [.Name x p] pos) (xUn (oInC neg cs) we) := by
  obtain ⟨a, h1, h2⟩ := h
  exact px_inG ho he hg h1 hd hc h2 hmk
theorem pb_inE {neg : Bool} {op : CmpOp} {cs : List D} {e : Expr} {we : XT} {x : Str} {p : Pos} (ho : OpR X (compareOp op) (rIn X.K neg)) (he : PX X Z e we) (h : ∃ a, X.mg x = some (.ref a) ∧ ∀ H, SqT X.K H a (cs.map vOf)) (hc : cs.all flatD = true) (hg : Gl X x := by rfl) (hd : (x == ("__debug__" : Str)) = false := by decide)
    (hmk : behindInMarks op (.Name x p) = false := by rfl) : PB X Z (.Compare e [op] [.Name x p] pos) (bX (xUn (oInC neg cs) we)) := by
  obtain ⟨a, h1, h2⟩ := h
  exact pb_inG ho he hg h1 hd hc h2 hmk
theorem hu0 {k : Nat} {A : Around} (hr : Room k A) : A.units < cLine := Nat.lt_of_le_of_lt (Nat.le_add_right _ 64) hr.units
/-- len of a thing -/
theorem px_len {e : Expr} {w : XT} {p : Pos} (he : PX X Z e w) (hm : X.mg "len" = none) (hg : Gl X "len" := by rfl) (s1 : starEach [e] X.env = (false, eval e X.env) :: starEach [] X.env := by rfl) : PX X Z (.Call (.Name "len" p) [e] [] pos) (xCall fLen (aCons w aNil)) :=
  px_callB f_len mf_len hg hm (by rfl) (qa_cons he qa_nil s1) (by decide) (by decide) s1 rfl
end
end DL

namespace DL
open PySem

/-- one step of a reading -/
class St (P : Prop) (Q : outParam Prop) : Prop where
  out : Q → P
/-- what a slot holds; a slot set; the slots as a plain row -/
class At (ρ : Ev) (i : Nat) (e : outParam En) : Prop where
  at_ : ρ[i]? = some e
class SetE (ρ : Ev) (i : Nat) (e : En) (ρ' : outParam Ev) : Prop where
  eq : ρ.set i e = ρ'
class Nrm (ρ : Ev) (ρ' : outParam Ev) : Prop where
  eq : ρ = ρ'
class Pk (ρ : Ev) (i : Nat) (d : outParam D) : Prop where
  pk : peek ρ i = some d
section
variable {ρ ρ1 ρ2 : Ev} {e e' : En} {i j n : Nat} {d : D} {ds : List D}
instance at_0 : At (e :: ρ) 0 e := ⟨rfl⟩
instance at_1 [At ρ n e] : At (e' :: ρ) (n + 1) e := ⟨by rw [List.getElem?_cons_succ]; exact At.at_⟩
instance set_0 : SetE (e' :: ρ) 0 e (e :: ρ) := ⟨rfl⟩
instance set_1 [h : SetE ρ n e ρ1] : SetE (e' :: ρ) (n + 1) e (e' :: ρ1) := ⟨by rw [List.set_cons_succ, h.eq]⟩
instance (priority := low) nrm_0 : Nrm ρ ρ := ⟨rfl⟩
instance nrm_1 [h : Nrm ρ ρ1] [h2 : SetE ρ1 i e ρ2] : Nrm (ρ.set i e) ρ2 := ⟨by rw [h.eq, h2.eq]⟩
instance at_n [h : Nrm (ρ.set i e') ρ1] [h2 : At ρ1 j e] : At (ρ.set i e') j e := ⟨by rw [h.eq]; exact h2.at_⟩
instance set_n [h : Nrm (ρ.set i e') ρ1] [h2 : SetE ρ1 j e ρ2] : SetE (ρ.set i e') j e ρ2 := ⟨by rw [h.eq]; exact h2.eq⟩
instance nrm_w0 [h : Nrm ρ ρ1] : Nrm (wipeE ρ []) ρ1 := ⟨h.eq⟩
instance nrm_w {v : Nat} {vs : List Nat} [h : Nrm (wipeE ρ vs) ρ1] [h2 : SetE ρ1 v .un ρ2] : Nrm (wipeE ρ (v :: vs)) ρ2 := ⟨by rw [wipeE, h.eq, h2.eq]⟩
instance nrm_u0 [h : Nrm ρ ρ1] : Nrm (unw ρ []) ρ1 := ⟨h.eq⟩
instance nrm_u {v : Nat} {vs : List Nat} [h : SetE ρ v .un ρ1] [h2 : Nrm (unw ρ1 vs) ρ2] : Nrm (unw ρ (v :: vs)) ρ2 := ⟨by rw [unw, h.eq, h2.eq]⟩
instance at_w {vs : List Nat} [h : Nrm (wipeE ρ vs) ρ1] [h2 : At ρ1 j e] : At (wipeE ρ vs) j e := ⟨by rw [h.eq]; exact h2.at_⟩
instance at_u {vs : List Nat} [h : Nrm (unw ρ vs) ρ1] [h2 : At ρ1 j e] : At (unw ρ vs) j e := ⟨by rw [h.eq]; exact h2.at_⟩
instance set_w {vs : List Nat} [h : Nrm (wipeE ρ vs) ρ1] [h2 : SetE ρ1 j e ρ2] : SetE (wipeE ρ vs) j e ρ2 := ⟨by rw [h.eq]; exact h2.eq⟩
instance set_u {vs : List Nat} [h : Nrm (unw ρ vs) ρ1] [h2 : SetE ρ1 j e ρ2] : SetE (unw ρ vs) j e ρ2 := ⟨by rw [h.eq]; exact h2.eq⟩
instance pk_v [h : At ρ i (.va d)] : Pk ρ i d := ⟨by unfold peek; rw [h.at_]⟩
instance pk_o [h : At ρ i (.ow ds)] : Pk ρ i (.list ds) := ⟨by unfold peek; rw [h.at_]⟩
end
section
variable {ρ : Ev} {k : Rt → Ev → Prop} {kb : Bool → Ev → Prop} {ka : List D → Ev → Prop} {kc : List Ar → Ev → Prop} {kp : Option Int → Ev → Prop} {E : Wd} {a b c : XT} {t u : BT} {p q : SS} {aa : AT} {cc : CT} {i j l : Nat} {lo hi : PT2} {g : Tg} {it : IT} {vs : List Nat}
theorem t_xC {d : D} (h : k (.va d) ρ) : xC d ρ k := h
instance i_xC {d : D} : St (xC d ρ k) (k (.va d) ρ) := ⟨fun h => h⟩
theorem t_xBin {f : D → D → (Rt → Prop) → Prop} (h : a ρ fun x ρ1 => b ρ1 fun y ρ2 => f x.d y.d fun z => k z ρ2) : xBin f a b ρ k := h
instance i_xBin {f : D → D → (Rt → Prop) → Prop} : St (xBin f a b ρ k) (a ρ fun x ρ1 => b ρ1 fun y ρ2 => f x.d y.d fun z => k z ρ2) := ⟨fun h => h⟩
theorem t_xUn {f : D → (Rt → Prop) → Prop} (h : a ρ fun x ρ1 => f x.d fun z => k z ρ1) : xUn f a ρ k := h
instance i_xUn {f : D → (Rt → Prop) → Prop} : St (xUn f a ρ k) (a ρ fun x ρ1 => f x.d fun z => k z ρ1) := ⟨fun h => h⟩
theorem t_xTup (h : aa ρ fun ds ρ1 => ds.length ≤ 1000000 ∧ k (.va (.tuple ds)) ρ1) : xTup aa ρ k := h
instance i_xTup : St (xTup aa ρ k) (aa ρ fun ds ρ1 => ds.length ≤ 1000000 ∧ k (.va (.tuple ds)) ρ1) := ⟨fun h => h⟩
theorem t_xLst (h : aa ρ fun ds ρ1 => ds.length ≤ 1000000 ∧ k (.ow ds) ρ1) : xLst aa ρ k := h
instance i_xLst : St (xLst aa ρ k) (aa ρ fun ds ρ1 => ds.length ≤ 1000000 ∧ k (.ow ds) ρ1) := ⟨fun h => h⟩
theorem t_aNil (h : ka [] ρ) : aNil ρ ka := h
instance i_aNil : St (aNil ρ ka) (ka [] ρ) := ⟨fun h => h⟩
theorem t_aCons (h : a ρ fun r ρ1 => aa ρ1 fun ds ρ2 => ka (r.d :: ds) ρ2) : aCons a aa ρ ka := h
instance i_aCons : St (aCons a aa ρ ka) (a ρ fun r ρ1 => aa ρ1 fun ds ρ2 => ka (r.d :: ds) ρ2) := ⟨fun h => h⟩
theorem t_xCall {f : List D → (Rt → Prop) → Prop} (h : aa ρ fun ds ρ1 => f ds fun z => k z ρ1) : xCall f aa ρ k := h
instance i_xCall {f : List D → (Rt → Prop) → Prop} : St (xCall f aa ρ k) (aa ρ fun ds ρ1 => f ds fun z => k z ρ1) := ⟨fun h => h⟩
theorem t_cNil (h : kc [] ρ) : cNil ρ kc := h
instance i_cNil : St (cNil ρ kc) (kc [] ρ) := ⟨fun h => h⟩
theorem t_cVa (h : a ρ fun r ρ1 => cc ρ1 fun ds ρ2 => kc (.va r.d :: ds) ρ2) : cVa a cc ρ kc := h
instance i_cVa : St (cVa a cc ρ kc) (a ρ fun r ρ1 => cc ρ1 fun ds ρ2 => kc (.va r.d :: ds) ρ2) := ⟨fun h => h⟩
theorem t_cDk (h : ρ[i]? = some .dk) (h2 : cc ρ fun ds ρ2 => kc (.dk :: ds) ρ2) : cDk i cc ρ kc := ⟨h, h2⟩
instance i_cDk [At ρ i .dk] : St (cDk i cc ρ kc) (cc ρ fun ds ρ2 => kc (.dk :: ds) ρ2) := ⟨fun h => ⟨At.at_, h⟩⟩
theorem t_xDef {C : Con} (h : cc ρ fun as ρ1 => C as fun r => k r ρ1) : xDef C cc ρ k := h
instance i_xDef {C : Con} : St (xDef C cc ρ k) (cc ρ fun as ρ1 => C as fun r => k r ρ1) := ⟨fun h => h⟩
theorem t_xDefK {C : Con} {π : List Nat} (h : cc ρ fun bs ρ1 => C (π.map fun i => bs.getD i (.va .none)) fun r => k r ρ1) : xDefK C π cc ρ k := h
instance i_xDefK {C : Con} {π : List Nat} : St (xDefK C π cc ρ k) (cc ρ fun bs ρ1 => C (π.map fun i => bs.getD i (.va .none)) fun r => k r ρ1) := ⟨fun h => h⟩
theorem t_xAnd (h : a ρ fun x ρ1 => isB x.d fun c => brb c (b ρ1 k) (k (.va (.bool false)) ρ1)) : xAnd a b ρ k := h
instance i_xAnd : St (xAnd a b ρ k) (a ρ fun x ρ1 => isB x.d fun c => brb c (b ρ1 k) (k (.va (.bool false)) ρ1)) := ⟨fun h => h⟩
theorem t_xOr (h : a ρ fun x ρ1 => isB x.d fun c => brb c (k (.va (.bool true)) ρ1) (b ρ1 k)) : xOr a b ρ k := h
instance i_xOr : St (xOr a b ρ k) (a ρ fun x ρ1 => isB x.d fun c => brb c (k (.va (.bool true)) ρ1) (b ρ1 k)) := ⟨fun h => h⟩
theorem t_xNot (h : a ρ fun x ρ1 => isB x.d fun c => k (.va (.bool !c)) ρ1) : xNot a ρ k := h
instance i_xNot : St (xNot a ρ k) (a ρ fun x ρ1 => isB x.d fun c => k (.va (.bool !c)) ρ1) := ⟨fun h => h⟩
theorem t_xIf (h : t ρ fun c ρ1 => brb c (a ρ1 k) (b ρ1 k)) : xIf t a b ρ k := h
instance i_xIf : St (xIf t a b ρ k) (t ρ fun c ρ1 => brb c (a ρ1 k) (b ρ1 k)) := ⟨fun h => h⟩
theorem t_xChain {f g : D → D → (Rt → Prop) → Prop} (h : a ρ fun x ρ1 => b ρ1 fun y ρ2 => f x.d y.d fun z => isB z.d fun t => brb t (c ρ2 fun u ρ3 => g y.d u.d fun z => k z ρ3) (k (.va (.bool false)) ρ2)) : xChain f g a b c ρ k := h
instance i_xChain {f g : D → D → (Rt → Prop) → Prop} : St (xChain f g a b c ρ k) (a ρ fun x ρ1 => b ρ1 fun y ρ2 => f x.d y.d fun z => isB z.d fun t => brb t (c ρ2 fun u ρ3 => g y.d u.d fun z => k z ρ3) (k (.va (.bool false)) ρ2)) := ⟨fun h => h⟩
theorem t_bX (h : a ρ fun x ρ1 => isB x.d fun c => kb c ρ1) : bX a ρ kb := h
instance i_bX : St (bX a ρ kb) (a ρ fun x ρ1 => isB x.d fun c => kb c ρ1) := ⟨fun h => h⟩
theorem t_bAnd (h : t ρ fun c ρ1 => brb c (u ρ1 kb) (kb false ρ1)) : bAnd t u ρ kb := h
instance i_bAnd : St (bAnd t u ρ kb) (t ρ fun c ρ1 => brb c (u ρ1 kb) (kb false ρ1)) := ⟨fun h => h⟩
theorem t_bOr (h : t ρ fun c ρ1 => brb c (kb true ρ1) (u ρ1 kb)) : bOr t u ρ kb := h
instance i_bOr : St (bOr t u ρ kb) (t ρ fun c ρ1 => brb c (kb true ρ1) (u ρ1 kb)) := ⟨fun h => h⟩
theorem t_bNot (h : t ρ fun c ρ1 => kb (!c) ρ1) : bNot t ρ kb := h
instance i_bNot : St (bNot t ρ kb) (t ρ fun c ρ1 => kb (!c) ρ1) := ⟨fun h => h⟩
theorem t_bYes (h : kb true ρ) : bYes ρ kb := h
instance i_bYes : St (bYes ρ kb) (kb true ρ) := ⟨fun h => h⟩
theorem t_pNo (h : kp none ρ) : pNo ρ kp := h
instance i_pNo : St (pNo ρ kp) (kp none ρ) := ⟨fun h => h⟩
theorem t_pAt (h : a ρ fun r ρ1 => isN r.d fun i => kp (some i) ρ1) : pAt a ρ kp := h
instance i_pAt : St (pAt a ρ kp) (a ρ fun r ρ1 => isN r.d fun i => kp (some i) ρ1) := ⟨fun h => h⟩
theorem t_xSl (h : a ρ fun x ρ1 => lo ρ1 fun l ρ2 => hi ρ2 fun h ρ3 => oSl l h x.d fun z => k z ρ3) : xSl a lo hi ρ k := h
instance i_xSl : St (xSl a lo hi ρ k) (a ρ fun x ρ1 => lo ρ1 fun l ρ2 => hi ρ2 fun h ρ3 => oSl l h x.d fun z => k z ρ3) := ⟨fun h => h⟩
theorem t_xLenN (h : atD ρ i fun d => fLen [d] fun z => k z ρ) : xLenN i ρ k := h
instance i_xLenN : St (xLenN i ρ k) (atD ρ i fun d => fLen [d] fun z => k z ρ) := ⟨fun h => h⟩
theorem t_xIxN (h : hasD ρ i) (h2 : a ρ fun r ρ1 => atD ρ1 i fun d => oIx d r.d fun z => k z ρ1) : xIxN i a ρ k := ⟨h, h2⟩
instance i_xIxN {d : D} [Pk ρ i d] : St (xIxN i a ρ k) (a ρ fun r ρ1 => atD ρ1 i fun d => oIx d r.d fun z => k z ρ1) := ⟨fun h => ⟨⟨_, Pk.pk⟩, h⟩⟩
theorem t_xNilN {n : Bool} (h : atL ρ i fun xs => k (.va (.bool (if n then !xs.isEmpty else xs.isEmpty))) ρ) : xNilN n i ρ k := h
instance i_xNilN {n : Bool} : St (xNilN n i ρ k) (atL ρ i fun xs => k (.va (.bool (if n then !xs.isEmpty else xs.isEmpty))) ρ) := ⟨fun h => h⟩
theorem t_xMth {f : List D → List D → (D → List D → Prop) → Prop} (h : hasO ρ i) (h2 : aa ρ fun es ρ1 => atO ρ1 i fun ds => f ds es fun d ds' => k (.va d) (ρ1.set i (.ow ds'))) : xMth f i aa ρ k := ⟨h, h2⟩
instance i_xMth {f : List D → List D → (D → List D → Prop) → Prop} {ds : List D} [At ρ i (.ow ds)] : St (xMth f i aa ρ k) (aa ρ fun es ρ1 => atO ρ1 i fun ds => f ds es fun d ds' => k (.va d) (ρ1.set i (.ow ds'))) := ⟨fun h => ⟨⟨_, At.at_⟩, h⟩⟩
theorem t_xAddN (h : hasL ρ i) (h2 : b ρ fun y ρ1 => atL ρ1 i fun xs => asL y.d fun ys => xs.length + ys.length ≤ 1000000 ∧ k (.ow (xs ++ ys)) ρ1) : xAddN i b ρ k := ⟨h, h2⟩
instance i_xAddN {ds : List D} [Pk ρ i (.list ds)] : St (xAddN i b ρ k) (b ρ fun y ρ1 => atL ρ1 i fun xs => asL y.d fun ys => xs.length + ys.length ≤ 1000000 ∧ k (.ow (xs ++ ys)) ρ1) := ⟨fun h => ⟨⟨_, Pk.pk⟩, h⟩⟩
theorem t_xListN (h : atL ρ i fun xs => k (.ow xs) ρ) : xListN i ρ k := h
instance i_xListN : St (xListN i ρ k) (atL ρ i fun xs => k (.ow xs) ρ) := ⟨fun h => h⟩
theorem t_xTupN (h : atL ρ i fun xs => k (.va (.tuple xs)) ρ) : xTupN i ρ k := h
instance i_xTupN : St (xTupN i ρ k) (atL ρ i fun xs => k (.va (.tuple xs)) ρ) := ⟨fun h => h⟩
theorem t_xSlN (h : hasL ρ i) (h2 : lo ρ fun l ρ2 => hi ρ2 fun h ρ3 => atL ρ3 i fun xs => k (.ow (cutL xs l h)) ρ3) : xSlN i lo hi ρ k := ⟨h, h2⟩
instance i_xSlN {ds : List D} [Pk ρ i (.list ds)] : St (xSlN i lo hi ρ k) (lo ρ fun l ρ2 => hi ρ2 fun h ρ3 => atL ρ3 i fun xs => k (.ow (cutL xs l h)) ρ3) := ⟨fun h => ⟨⟨_, Pk.pk⟩, h⟩⟩
theorem t_iSeq (h : a ρ fun r ρ1 => asS r.d fun xs => ka xs ρ1) : iSeq a ρ ka := h
instance i_iSeq : St (iSeq a ρ ka) (a ρ fun r ρ1 => asS r.d fun xs => ka xs ρ1) := ⟨fun h => h⟩
theorem t_iEnum (h : a ρ fun r ρ1 => asS r.d fun xs => ka (xs.zipIdx.map fun p => .tuple [.int p.2, p.1]) ρ1) : iEnum a ρ ka := h
instance i_iEnum : St (iEnum a ρ ka) (a ρ fun r ρ1 => asS r.d fun xs => ka (xs.zipIdx.map fun p => .tuple [.int p.2, p.1]) ρ1) := ⟨fun h => h⟩
theorem t_iRng1 (h : a ρ fun r ρ1 => isN r.d fun n => (-1000000000 ≤ n ∧ n ≤ 1000000000) ∧ ka (rngL 0 n) ρ1) : iRng1 a ρ ka := h
instance i_iRng1 : St (iRng1 a ρ ka) (a ρ fun r ρ1 => isN r.d fun n => (-1000000000 ≤ n ∧ n ≤ 1000000000) ∧ ka (rngL 0 n) ρ1) := ⟨fun h => h⟩
theorem t_iRng2 (h : a ρ fun r ρ1 => b ρ1 fun q ρ2 => isN r.d fun m => isN q.d fun n => (-1000000000 ≤ m ∧ m ≤ 1000000000 ∧ n ≤ 1000000000 ∧ -1000000000 ≤ n) ∧ ka (rngL m n) ρ2) : iRng2 a b ρ ka := h
instance i_iRng2 : St (iRng2 a b ρ ka) (a ρ fun r ρ1 => b ρ1 fun q ρ2 => isN r.d fun m => isN q.d fun n => (-1000000000 ≤ m ∧ m ≤ 1000000000 ∧ n ≤ 1000000000 ∧ -1000000000 ≤ n) ∧ ka (rngL m n) ρ2) := ⟨fun h => h⟩
theorem t_xLc (h : it ρ fun ds ρ1 => lcL g t a vs ds [] (wipeE ρ1 vs) fun acc ρ2 => k (.ow acc) (unw ρ2 vs)) : xLc g it t a vs ρ k := h
instance i_xLc : St (xLc g it t a vs ρ k) (it ρ fun ds ρ1 => lcL g t a vs ds [] (wipeE ρ1 vs) fun acc ρ2 => k (.ow acc) (unw ρ2 vs)) := ⟨fun h => h⟩
theorem t_pass (h : E.nx ρ) : sPass E ρ := h
instance i_pass : St (sPass E ρ) (E.nx ρ) := ⟨fun h => h⟩
theorem t_seq (h : p { E with nx := q E } ρ) : sSeq p q E ρ := h
instance i_seq : St (sSeq p q E ρ) (p { E with nx := q E } ρ) := ⟨fun h => h⟩
theorem t_set (h : a ρ fun r ρ1 => E.nx (ρ1.set i r.en)) : sSet i a E ρ := h
instance i_set : St (sSet i a E ρ) (a ρ fun r ρ1 => E.nx (ρ1.set i r.en)) := ⟨fun h => h⟩
theorem t_set2 (h : a ρ fun r ρ1 => b ρ1 fun q ρ2 => E.nx ((ρ2.set i r.en).set j q.en)) : sSet2 i j a b E ρ := h
instance i_set2 : St (sSet2 i j a b E ρ) (a ρ fun r ρ1 => b ρ1 fun q ρ2 => E.nx ((ρ2.set i r.en).set j q.en)) := ⟨fun h => h⟩
theorem t_set3 (h : a ρ fun r ρ1 => b ρ1 fun q ρ2 => c ρ2 fun u ρ3 => E.nx (((ρ3.set i r.en).set j q.en).set l u.en)) : sSet3 i j l a b c E ρ := h
instance i_set3 : St (sSet3 i j l a b c E ρ) (a ρ fun r ρ1 => b ρ1 fun q ρ2 => c ρ2 fun u ρ3 => E.nx (((ρ3.set i r.en).set j q.en).set l u.en)) := ⟨fun h => h⟩
theorem t_unp (h : a ρ fun r ρ1 => tgGo g r.d ρ1 E.nx) : sUnp g a E ρ := h
instance i_unp : St (sUnp g a E ρ) (a ρ fun r ρ1 => tgGo g r.d ρ1 E.nx) := ⟨fun h => h⟩
theorem t_expr (h : a ρ fun _ ρ1 => E.nx ρ1) : sExpr a E ρ := h
instance i_expr : St (sExpr a E ρ) (a ρ fun _ ρ1 => E.nx ρ1) := ⟨fun h => h⟩
theorem t_ret (h : a ρ fun r _ => E.rt r) : sRet a E ρ := h
instance i_ret : St (sRet a E ρ) (a ρ fun r _ => E.rt r) := ⟨fun h => h⟩
theorem t_retN (h : E.rt (.va .none)) : sRetN E ρ := h
instance i_retN : St (sRetN E ρ) (E.rt (.va .none)) := ⟨fun h => h⟩
theorem t_if (h : t ρ fun c ρ1 => brb c (p E ρ1) (q E ρ1)) : sIf t p q E ρ := h
instance i_if : St (sIf t p q E ρ) (t ρ fun c ρ1 => brb c (p E ρ1) (q E ρ1)) := ⟨fun h => h⟩
theorem t_brk (h : E.bk ρ) : sBrk E ρ := h
instance i_brk : St (sBrk E ρ) (E.bk ρ) := ⟨fun h => h⟩
theorem t_cnt (h : E.ct ρ) : sCnt E ρ := h
instance i_cnt : St (sCnt E ρ) (E.ct ρ) := ⟨fun h => h⟩
theorem t_setIx (h : b ρ fun r ρ1 => hasO ρ1 i ∧ a ρ1 fun q ρ2 => atO ρ2 i fun ds => isN q.d fun n => atIx ds.length n fun j => E.nx (ρ2.set i (.ow (ds.set j r.d)))) : sSetIx i a b E ρ := h
instance i_setIx : St (sSetIx i a b E ρ) (b ρ fun r ρ1 => hasO ρ1 i ∧ a ρ1 fun q ρ2 => atO ρ2 i fun ds => isN q.d fun n => atIx ds.length n fun j => E.nx (ρ2.set i (.ow (ds.set j r.d)))) := ⟨fun h => h⟩
theorem t_for (h : it ρ fun ds ρ1 => forL g p ds E ρ1) : sFor g it p E ρ := h
instance i_for : St (sFor g it p E ρ) (it ρ fun ds ρ1 => forL g p ds E ρ1) := ⟨fun h => h⟩
theorem t_xVarV {d : D} (h : ρ[i]? = some (.va d)) (h2 : k (.va d) ρ) : xVar i ρ k := by unfold xVar; rw [h]; exact h2
theorem t_xVarO {ds : List D} (h : ρ[i]? = some (.ow ds)) (h2 : k (.va (.list ds)) (ρ.set i (.va (.list ds)))) : xVar i ρ k := by unfold xVar; rw [h]; exact h2
theorem t_nm {d : D} {kk : Ev → Prop} (h : kk (ρ.set i (.va d))) : tgGo (.nm i) d ρ kk := by rw [tgGo]; exact h
theorem t_tup {ts : List Tg} {ds : List D} {kk : Ev → Prop} (h : ds.length = ts.length) (h2 : tgsGo ts ds ρ kk) : tgGo (.tup ts) (.tuple ds) ρ kk := by rw [tgGo]; exact ⟨ds, rfl, h, h2⟩
theorem t_tg0 {kk : Ev → Prop} (h : kk ρ) : tgsGo [] [] ρ kk := by rw [tgsGo]; exact h
theorem t_tg1 {ts : List Tg} {d : D} {ds : List D} {kk : Ev → Prop} (h : tgGo g d ρ fun ρ1 => tgsGo ts ds ρ1 kk) : tgsGo (g :: ts) (d :: ds) ρ kk := by rw [tgsGo]; exact h
end
section
variable {d : D} {ds xs : List D} {ρ : Ev} {n : Nat} {c : Bool} {A B : Prop} {i : Int}
theorem t_nx {f : Ev → Prop} {g : Rt → Prop} {b c : Ev → Prop} (h : f ρ) : Wd.nx ⟨f, g, b, c⟩ ρ := h
theorem t_rt {f : Ev → Prop} {g : Rt → Prop} {b c : Ev → Prop} {r : Rt} (h : g r) : Wd.rt ⟨f, g, b, c⟩ r := h
theorem t_bk {f : Ev → Prop} {g : Rt → Prop} {b c : Ev → Prop} (h : b ρ) : Wd.bk ⟨f, g, b, c⟩ ρ := h
theorem t_ct {f : Ev → Prop} {g : Rt → Prop} {b c : Ev → Prop} (h : c ρ) : Wd.ct ⟨f, g, b, c⟩ ρ := h
theorem t_brbT (hc : c = true) (h : A) : brb c A B := by subst hc; exact h
theorem t_brbF (hc : c = false) (h : B) : brb c A B := by subst hc; simpa [brb] using h
theorem t_brb (h1 : c = true → A) (h2 : c = false → B) : brb c A B := by
  cases c with
  | true => exact h1 rfl
  | false => exact t_brbF rfl (h2 rfl)
theorem t_isB {P : Bool → Prop} (h : P c) : isB (.bool c) P := ⟨c, rfl, h⟩
theorem t_isInt {P : Int → Prop} (h : P i) : isN (.int i) P := ⟨i, rfl, h⟩
theorem t_asT {P : List D → Prop} (h : P ds) : asT (.tuple ds) P := ⟨ds, rfl, h⟩
theorem t_asL {P : List D → Prop} (h : P ds) : asL (.list ds) P := ⟨ds, rfl, h⟩
theorem t_asSL {P : List D → Prop} (h : P ds) : asS (.list ds) P := ⟨ds, rfl, h⟩
theorem t_asST {P : List D → Prop} (h : P ds) : asS (.tuple ds) P := ⟨ds, rfl, h⟩
theorem t_atO {P : List D → Prop} (e : ρ[n]? = some (.ow ds)) (h : P ds) : atO ρ n P := ⟨ds, e, h⟩
theorem t_hasO (e : ρ[n]? = some (.ow ds)) : hasO ρ n := ⟨ds, e⟩
theorem t_atD {P : D → Prop} (e : peek ρ n = some d) (h : P d) : atD ρ n P := ⟨d, e, h⟩
theorem t_hasD (e : peek ρ n = some d) : hasD ρ n := ⟨d, e⟩
theorem t_atL {P : List D → Prop} (e : peek ρ n = some (.list ds)) (h : P ds) : atL ρ n P := ⟨ds, e, h⟩
theorem t_hasL (e : peek ρ n = some (.list ds)) : hasL ρ n := ⟨ds, e⟩
theorem ixAt_of {P : D → Prop} {j : Nat} (hi : i = (j : Int)) (h : xs[j]? = some d) (hp : P d) : ixAt xs i P := by
  have lt := (List.getElem?_eq_some_iff.mp h).1
  refine ⟨j, d, ?_, h, hp⟩
  unfold ixOf
  rw [if_pos (by omega), if_pos (by omega), hi]
  simp
/-- an item at a known place of a known row -/
theorem t_ixAt {P : D → Prop} {m : Nat} (hi : ixOf xs.length i = some m) (h : xs[m]? = some d) (hp : P d) : ixAt xs i P := ⟨m, d, hi, h, hp⟩
theorem atIx_of {P : Nat → Prop} {j : Nat} (hi : i = (j : Int)) (h : j < n) (hp : P j) : atIx n i P := by
  refine ⟨j, ?_, hp⟩
  unfold ixOf
  rw [if_pos (by omega), if_pos (by omega), hi]
  simp
end
section
variable {i j : Int} {k : Rt → Prop} {xs ys : List D} {d e : D} {x y : Str} {lo hi : Option Int}
theorem t_addI (h : k (.va (.int (i + j)))) : oAdd (.int i) (.int j) k := h
instance i_addI : St (oAdd (.int i) (.int j) k) (k (.va (.int (i + j)))) := ⟨fun h => h⟩
theorem t_addL (h : xs.length + ys.length ≤ 1000000) (h2 : k (.ow (xs ++ ys))) : oAdd (.list xs) (.list ys) k := ⟨h, h2⟩
instance i_addL : St (oAdd (.list xs) (.list ys) k) (xs.length + ys.length ≤ 1000000 ∧ k (.ow (xs ++ ys))) := ⟨fun h => h⟩
theorem t_addT (h : xs.length + ys.length ≤ 1000000) (h2 : k (.va (.tuple (xs ++ ys)))) : oAdd (.tuple xs) (.tuple ys) k := ⟨h, h2⟩
instance i_addT : St (oAdd (.tuple xs) (.tuple ys) k) (xs.length + ys.length ≤ 1000000 ∧ k (.va (.tuple (xs ++ ys)))) := ⟨fun h => h⟩
theorem t_addS (h : x.length + y.length ≤ 1000000) (h2 : k (.va (.str (x ++ y)))) : oAdd (.str x) (.str y) k := ⟨h, h2⟩
instance i_addS : St (oAdd (.str x) (.str y) k) (x.length + y.length ≤ 1000000 ∧ k (.va (.str (x ++ y)))) := ⟨fun h => h⟩
theorem t_subI (h : k (.va (.int (i - j)))) : oSub (.int i) (.int j) k := h
instance i_subI : St (oSub (.int i) (.int j) k) (k (.va (.int (i - j)))) := ⟨fun h => h⟩
theorem t_mulI (h : mulOk i j) (h2 : k (.va (.int (i * j)))) : oMul (.int i) (.int j) k := ⟨h, h2⟩
instance i_mulI : St (oMul (.int i) (.int j) k) (mulOk i j ∧ k (.va (.int (i * j)))) := ⟨fun h => h⟩
theorem t_mulL (h : (j ≤ 1000000 ∧ -1000000 ≤ j ∧ xs.length * j.toNat ≤ 1000000)) (h2 : k (.ow (List.replicate j.toNat xs).flatten)) : oMul (.list xs) (.int j) k := ⟨h, h2⟩
instance i_mulL : St (oMul (.list xs) (.int j) k) (((j ≤ 1000000 ∧ -1000000 ≤ j ∧ xs.length * j.toNat ≤ 1000000)) ∧ k (.ow (List.replicate j.toNat xs).flatten)) := ⟨fun h => h⟩
theorem t_mulT (h : (j ≤ 1000 ∧ -1000 ≤ j ∧ xs.length ≤ 1000)) (h2 : k (.va (.tuple (List.replicate j.toNat xs).flatten))) : oMul (.tuple xs) (.int j) k := ⟨h, h2⟩
instance i_mulT : St (oMul (.tuple xs) (.int j) k) (((j ≤ 1000 ∧ -1000 ≤ j ∧ xs.length ≤ 1000)) ∧ k (.va (.tuple (List.replicate j.toNat xs).flatten))) := ⟨fun h => h⟩
theorem t_divI (h : divOk j) (h2 : k (.va (.int (i / j)))) : oDiv (.int i) (.int j) k := ⟨h, h2⟩
instance i_divI : St (oDiv (.int i) (.int j) k) (divOk j ∧ k (.va (.int (i / j)))) := ⟨fun h => h⟩
theorem t_modI (h : 0 < j) (h2 : k (.va (.int (i % j)))) : oMod (.int i) (.int j) k := ⟨h, h2⟩
instance i_modI : St (oMod (.int i) (.int j) k) (0 < j ∧ k (.va (.int (i % j)))) := ⟨fun h => h⟩
theorem t_powI (h : (0 ≤ j ∧ j ≤ 1000000 ∧ i.natAbs < 2 ^ 64)) (h2 : k (.va (.int (i ^ j.toNat)))) : oPow (.int i) (.int j) k := ⟨h, h2⟩
instance i_powI : St (oPow (.int i) (.int j) k) (((0 ≤ j ∧ j ≤ 1000000 ∧ i.natAbs < 2 ^ 64)) ∧ k (.va (.int (i ^ j.toNat)))) := ⟨fun h => h⟩
theorem t_negI (h : k (.va (.int (-i)))) : oNeg (.int i) k := h
instance i_negI : St (oNeg (.int i) k) (k (.va (.int (-i)))) := ⟨fun h => h⟩
theorem sh_int : SeqAt.shaped (.int i) = true := by simp [SeqAt.shaped, PyData.canLay0, PyData.depth]
theorem t_lt (h : k (.va (.bool (decide (i < j))))) : oLt (.int i) (.int j) k := h
instance i_lt : St (oLt (.int i) (.int j) k) (k (.va (.bool (decide (i < j))))) := ⟨fun h => h⟩
theorem t_le (h : k (.va (.bool (decide (i ≤ j))))) : oLe (.int i) (.int j) k := h
instance i_le : St (oLe (.int i) (.int j) k) (k (.va (.bool (decide (i ≤ j))))) := ⟨fun h => h⟩
theorem t_gt (h : k (.va (.bool (decide (j < i))))) : oGt (.int i) (.int j) k := h
instance i_gt : St (oGt (.int i) (.int j) k) (k (.va (.bool (decide (j < i))))) := ⟨fun h => h⟩
theorem t_ge (h : k (.va (.bool (decide (j ≤ i))))) : oGe (.int i) (.int j) k := h
instance i_ge : St (oGe (.int i) (.int j) k) (k (.va (.bool (decide (j ≤ i))))) := ⟨fun h => h⟩
theorem u_eqI : oEq (.int i) (.int j) k = k (.va (.bool (decide (i = j)))) := by
  unfold oEq
  simp only [sh_int, or_true, true_and, and_self, PyData.eqv]
  rfl
theorem t_eqI (h : k (.va (.bool (decide (i = j))))) : oEq (.int i) (.int j) k := by rw [u_eqI]; exact h
instance i_eqI : St (oEq (.int i) (.int j) k) (k (.va (.bool (decide (i = j))))) := ⟨fun h => t_eqI h⟩
theorem u_neI : oNe (.int i) (.int j) k = k (.va (.bool (!decide (i = j)))) := by
  unfold oNe
  simp only [sh_int, or_true, true_and, and_self, PyData.eqv]
  rfl
theorem t_neI (h : k (.va (.bool (!decide (i = j))))) : oNe (.int i) (.int j) k := by rw [u_neI]; exact h
instance i_neI : St (oNe (.int i) (.int j) k) (k (.va (.bool (!decide (i = j))))) := ⟨fun h => t_neI h⟩
theorem str_dec : (x == y) = decide (x = y) := by
  by_cases h : x = y
  · subst h; simp
  · rw [decide_eq_false h]; exact beq_eq_false_iff_ne.mpr h
theorem u_eqS : oEq (.str x) (.str y) k = k (.va (.bool (decide (x = y)))) := by
  unfold oEq
  simp only [bothStr, true_or, true_and, PyData.eqv, str_dec]
theorem t_eqS (h : k (.va (.bool (decide (x = y))))) : oEq (.str x) (.str y) k := by rw [u_eqS]; exact h
instance i_eqS : St (oEq (.str x) (.str y) k) (k (.va (.bool (decide (x = y))))) := ⟨fun h => t_eqS h⟩
theorem u_neS : oNe (.str x) (.str y) k = k (.va (.bool (!decide (x = y)))) := by
  unfold oNe
  simp only [bothStr, true_or, true_and, PyData.eqv, str_dec]
theorem t_neS (h : k (.va (.bool (!decide (x = y))))) : oNe (.str x) (.str y) k := by rw [u_neS]; exact h
instance i_neS : St (oNe (.str x) (.str y) k) (k (.va (.bool (!decide (x = y))))) := ⟨fun h => t_neS h⟩
theorem t_isN (h : k (.va (.bool (isNone d)))) : oIsN d k := h
instance i_isN : St (oIsN d k) (k (.va (.bool (isNone d)))) := ⟨fun h => h⟩
theorem t_notN (h : k (.va (.bool (!isNone d)))) : oNotN d k := h
instance i_notN : St (oNotN d k) (k (.va (.bool (!isNone d)))) := ⟨fun h => h⟩
theorem t_ixL (h : ixAt xs i fun d => k (.va d)) : oIx (.list xs) (.int i) k := h
instance i_ixL : St (oIx (.list xs) (.int i) k) (ixAt xs i fun d => k (.va d)) := ⟨fun h => h⟩
theorem t_ixT (h : ixAt xs i fun d => k (.va d)) : oIx (.tuple xs) (.int i) k := h
instance i_ixT : St (oIx (.tuple xs) (.int i) k) (ixAt xs i fun d => k (.va d)) := ⟨fun h => h⟩
theorem t_slL {lo hi : Option Int} (h : k (.ow (cutL xs lo hi))) : oSl lo hi (.list xs) k := h
instance i_slL {lo hi : Option Int} : St (oSl lo hi (.list xs) k) (k (.ow (cutL xs lo hi))) := ⟨fun h => h⟩
theorem t_slT {lo hi : Option Int} (h : k (.va (.tuple (cutL xs lo hi)))) : oSl lo hi (.tuple xs) k := h
instance i_slT {lo hi : Option Int} : St (oSl lo hi (.tuple xs) k) (k (.va (.tuple (cutL xs lo hi)))) := ⟨fun h => h⟩
theorem t_lenL (h : k (.va (.int xs.length))) : fLen [.list xs] k := h
instance i_lenL : St (fLen [.list xs] k) (k (.va (.int xs.length))) := ⟨fun h => h⟩
theorem t_lenT (h : k (.va (.int xs.length))) : fLen [.tuple xs] k := h
instance i_lenT : St (fLen [.tuple xs] k) (k (.va (.int xs.length))) := ⟨fun h => h⟩
theorem t_lenS (h : x.length ≤ 1000000) (h2 : k (.va (.int x.length))) : fLen [.str x] k := ⟨h, h2⟩
instance i_lenS : St (fLen [.str x] k) (x.length ≤ 1000000 ∧ k (.va (.int x.length))) := ⟨fun h => h⟩
theorem t_intI (h : k (.va (.int i))) : fInt [.int i] k := h
instance i_intI : St (fInt [.int i] k) (k (.va (.int i))) := ⟨fun h => h⟩
theorem t_intB {b : Bool} (h : k (.va (.int (if b then 1 else 0)))) : fInt [.bool b] k := h
instance i_intB {b : Bool} : St (fInt [.bool b] k) (k (.va (.int (if b then 1 else 0)))) := ⟨fun h => h⟩
theorem t_absI (h : k (.va (.int (if i < 0 then -i else i)))) : fAbs [.int i] k := h
instance i_absI : St (fAbs [.int i] k) (k (.va (.int (if i < 0 then -i else i)))) := ⟨fun h => h⟩
theorem t_max2 (h : k (.va (.int (if j > i then j else i)))) : fMax2 [.int i, .int j] k := h
instance i_max2 : St (fMax2 [.int i, .int j] k) (k (.va (.int (if j > i then j else i)))) := ⟨fun h => h⟩
theorem t_min2 (h : k (.va (.int (if j < i then j else i)))) : fMin2 [.int i, .int j] k := h
instance i_min2 : St (fMin2 [.int i, .int j] k) (k (.va (.int (if j < i then j else i)))) := ⟨fun h => h⟩
theorem t_tupL (h : k (.va (.tuple xs))) : fTuple [.list xs] k := h
instance i_tupL : St (fTuple [.list xs] k) (k (.va (.tuple xs))) := ⟨fun h => h⟩
theorem t_tupT (h : k (.va (.tuple xs))) : fTuple [.tuple xs] k := h
instance i_tupT : St (fTuple [.tuple xs] k) (k (.va (.tuple xs))) := ⟨fun h => h⟩
theorem t_lisL (h : k (.ow xs)) : fList [.list xs] k := h
instance i_lisL : St (fList [.list xs] k) (k (.ow xs)) := ⟨fun h => h⟩
theorem t_lisT (h : k (.ow xs)) : fList [.tuple xs] k := h
instance i_lisT : St (fList [.tuple xs] k) (k (.ow xs)) := ⟨fun h => h⟩
theorem t_isi {t : Ty} (h : k (.va (.bool (isTy t d)))) : oIsi t d k := h
instance i_isi {t : Ty} : St (oIsi t d k) (k (.va (.bool (isTy t d)))) := ⟨fun h => h⟩
theorem t_repr (h : (d.showable = true ∧ d.shown.length ≤ 16000000 ∧ d.depth ≤ 40)) (h2 : k (.va (.str d.shown))) : oRepr d k := ⟨h, h2⟩
instance i_repr : St (oRepr d k) (((d.showable = true ∧ d.shown.length ≤ 16000000 ∧ d.depth ≤ 40)) ∧ k (.va (.str d.shown))) := ⟨fun h => h⟩
theorem t_nilL {n : Bool} (h : k (.va (.bool (if n then !xs.isEmpty else xs.isEmpty)))) : oNil n (.list xs) k := h
instance i_nilL {n : Bool} : St (oNil n (.list xs) k) (k (.va (.bool (if n then !xs.isEmpty else xs.isEmpty)))) := ⟨fun h => h⟩
theorem t_inC {n : Bool} {cs : List D} (h : flatD d = true) (h2 : k (.va (.bool (if n then !(cs.any fun y => PyData.eqv y d) else cs.any fun y => PyData.eqv y d)))) : oInC n cs d k := ⟨h, h2⟩
instance i_inC {n : Bool} {cs : List D} : St (oInC n cs d k) (flatD d = true ∧ k (.va (.bool (if n then !(cs.any fun y => PyData.eqv y d) else cs.any fun y => PyData.eqv y d)))) := ⟨fun h => h⟩
theorem t_inT {n : Bool} (h1 : flatD d = true) (h2 : xs.all flatD = true) (h : k (.va (.bool (if n then !(xs.any fun y => PyData.eqv y d) else xs.any fun y => PyData.eqv y d)))) : oIn n d (.tuple xs) k := ⟨xs, rfl, h1, h2, h⟩
theorem t_eqG (h1 : SeqAt.shaped d = true) (h2 : SeqAt.shaped e = true) (h : k (.va (.bool (PyData.eqv d e)))) : oEq d e k := ⟨.inr ⟨h1, h2⟩, h⟩
theorem t_neG (h1 : SeqAt.shaped d = true) (h2 : SeqAt.shaped e = true) (h : k (.va (.bool (!PyData.eqv d e)))) : oNe d e k := ⟨.inr ⟨h1, h2⟩, h⟩
theorem t_app {kk : D → List D → Prop} (h : xs.length ≤ 1000000) (h2 : kk .none (xs ++ [d])) : mAppend xs [d] kk := ⟨h, h2⟩
instance i_app {kk : D → List D → Prop} : St (mAppend xs [d] kk) (xs.length ≤ 1000000 ∧ kk .none (xs ++ [d])) := ⟨fun h => h⟩
end
section
variable {ρ ρ1 : Ev} {k : Rt → Ev → Prop} {i n : Nat} {d : D} {ds xs : List D} {c : Bool} {A B : Prop} {z : Int} {g : Tg} {kk : Ev → Prop}
instance i_xVarV [h : At ρ i (.va d)] : St (xVar i ρ k) (k (.va d) ρ) := ⟨fun q => t_xVarV h.at_ q⟩
instance i_xVarO [h : At ρ i (.ow ds)] [h2 : SetE ρ i (.va (.list ds)) ρ1] : St (xVar i ρ k) (k (.va (.list ds)) ρ1) := ⟨fun q => t_xVarO h.at_ (by rw [h2.eq]; exact q)⟩
instance i_nm [h : SetE ρ i (.va d) ρ1] : St (tgGo (.nm i) d ρ kk) (kk ρ1) := ⟨fun q => t_nm (by rw [h.eq]; exact q)⟩
instance i_tup {ts : List Tg} : St (tgGo (.tup ts) (.tuple ds) ρ kk) (ds.length = ts.length ∧ tgsGo ts ds ρ kk) := ⟨fun q => t_tup q.1 q.2⟩
instance i_tg0 : St (tgsGo [] [] ρ kk) (kk ρ) := ⟨t_tg0⟩
instance i_tg1 {ts : List Tg} : St (tgsGo (g :: ts) (d :: ds) ρ kk) (tgGo g d ρ fun ρ1 => tgsGo ts ds ρ1 kk) := ⟨t_tg1⟩
instance i_nx {f : Ev → Prop} {g : Rt → Prop} {b c : Ev → Prop} [h : Nrm ρ ρ1] : St (Wd.nx ⟨f, g, b, c⟩ ρ) (f ρ1) := ⟨fun q => by rw [h.eq]; exact q⟩
instance i_rt {f : Ev → Prop} {g : Rt → Prop} {b c : Ev → Prop} {r : Rt} : St (Wd.rt ⟨f, g, b, c⟩ r) (g r) := ⟨fun q => q⟩
instance i_bk {f : Ev → Prop} {g : Rt → Prop} {b c : Ev → Prop} [h : Nrm ρ ρ1] : St (Wd.bk ⟨f, g, b, c⟩ ρ) (b ρ1) := ⟨fun q => by rw [h.eq]; exact q⟩
instance i_ct {f : Ev → Prop} {g : Rt → Prop} {b c : Ev → Prop} [h : Nrm ρ ρ1] : St (Wd.ct ⟨f, g, b, c⟩ ρ) (c ρ1) := ⟨fun q => by rw [h.eq]; exact q⟩
instance i_bT : St (brb true A B) A := ⟨t_brbT rfl⟩
instance i_bF : St (brb false A B) B := ⟨t_brbF rfl⟩
instance i_isB {P : Bool → Prop} : St (isB (.bool c) P) (P c) := ⟨t_isB⟩
instance i_isInt {P : Int → Prop} : St (isN (.int z) P) (P z) := ⟨t_isInt⟩
instance i_asT {P : List D → Prop} : St (asT (.tuple ds) P) (P ds) := ⟨t_asT⟩
instance i_asL {P : List D → Prop} : St (asL (.list ds) P) (P ds) := ⟨t_asL⟩
instance i_asSL {P : List D → Prop} : St (asS (.list ds) P) (P ds) := ⟨t_asSL⟩
instance i_asST {P : List D → Prop} : St (asS (.tuple ds) P) (P ds) := ⟨t_asST⟩
instance i_atO {P : List D → Prop} [h : At ρ i (.ow ds)] : St (atO ρ i P) (P ds) := ⟨t_atO h.at_⟩
instance i_atD {P : D → Prop} [h : Pk ρ i d] : St (atD ρ i P) (P d) := ⟨t_atD h.pk⟩
instance i_atL {P : List D → Prop} [h : Pk ρ i (.list ds)] : St (atL ρ i P) (P ds) := ⟨t_atL h.pk⟩
instance i_ix0 {P : D → Prop} : St (ixAt (d :: xs) 0 P) (P d) := ⟨fun h => ixAt_of (j := 0) rfl rfl h⟩
instance i_ix1 {P : D → Prop} {a : D} : St (ixAt (a :: d :: xs) 1 P) (P d) := ⟨fun h => ixAt_of (j := 1) rfl rfl h⟩
instance i_ix2 {P : D → Prop} {a b : D} : St (ixAt (a :: b :: d :: xs) 2 P) (P d) := ⟨fun h => ixAt_of (j := 2) rfl rfl h⟩
instance i_ix3 {P : D → Prop} {a b c : D} : St (ixAt (a :: b :: c :: d :: xs) 3 P) (P d) := ⟨fun h => ixAt_of (j := 3) rfl rfl h⟩
instance i_lc0 {t : Tg} {tt : BT} {e : XT} {vs : List Nat} {acc : List D} {kk : List D → Ev → Prop} [h : Nrm ρ ρ1] : St (lcL t tt e vs [] acc ρ kk) (kk acc ρ1) := ⟨fun q => by rw [lcL, h.eq]; exact q⟩
instance i_lc1 {t : Tg} {tt : BT} {e : XT} {vs : List Nat} {acc : List D} {kk : List D → Ev → Prop} [h : Nrm ρ ρ1] : St (lcL t tt e vs (d :: ds) acc ρ kk) (tgGo t d ρ1 fun ρ1 => tt ρ1 fun c ρ2 =>
      brb c (e ρ2 fun r ρ3 => acc.length ≤ 1000000 ∧ lcL t tt e vs ds (acc ++ [r.d]) (wipeE ρ3 vs) kk) (lcL t tt e vs ds acc (wipeE ρ2 vs) kk)) := ⟨fun q => by rw [lcL, h.eq]; exact q⟩
instance i_hasO {P : Prop} [h : At ρ i (.ow ds)] : St (hasO ρ i ∧ P) P := ⟨fun q => ⟨⟨_, h.at_⟩, q⟩⟩
end
/-- products and quotients of small numbers -/
theorem mul_l {i j : Int} (h : i.natAbs < 18446744073709551616) : mulOk i j := .inl (by omega)
theorem mul_r {i j : Int} (h : j.natAbs < 18446744073709551616) : mulOk i j := .inr (.inl (by omega))
theorem nat_le_pow {n b : Nat} (h : n < 10 ^ 200) (hb : 4000 ≤ b) : n < 2 ^ b :=
  Nat.lt_of_lt_of_le h (Nat.le_trans (by decide +kernel : 10 ^ 200 ≤ 2 ^ 4000) (Nat.pow_le_pow_right (by decide) hb))
theorem mul_b {i j : Int} (h : i.natAbs < 10 ^ 200) (h2 : j.natAbs < 10 ^ 200) : mulOk i j := .inr (.inr ⟨nat_le_pow h (by decide), nat_le_pow h2 (by decide)⟩)
theorem div_ok {j : Int} (h : 0 < j) (h2 : j.natAbs < 10 ^ 200) : divOk j := ⟨h, nat_le_pow h2 (by decide)⟩
/-- a row is walked, by an invariant -/
theorem forL_of {t : Tg} {b : SS} (I : Nat → Ev → Prop) {E : Wd} : ∀ (ds : List D) (n : Nat) (ρ : Ev), I n ρ →
    (∀ (j : Nat) (d : D) (ρ : Ev) (N C : Ev → Prop), ds[j]? = some d → I (n + j) ρ → (∀ ρ', I (n + j + 1) ρ' → N ρ') → (∀ ρ', I (n + j + 1) ρ' → C ρ') → tgGo t d ρ (b ⟨N, E.rt, E.nx, C⟩)) →
    (∀ ρ, I (n + ds.length) ρ → E.nx ρ) → forL t b ds E ρ
  | [], n, ρ, h0, _, he => he ρ h0
  | d :: ds, n, ρ, h0, hs, he => by
    have next : ∀ ρ', I (n + 0 + 1) ρ' → forL t b ds E ρ' := fun ρ' h => forL_of I ds (n + 1) ρ' h (fun j d ρ N C e hI h1 h2 => hs (j + 1) d ρ N C (by simpa using e) (by rw [show n + (j + 1) = n + 1 + j by omega]; exact hI) (by rw [show n + (j + 1) + 1 = n + 1 + j + 1 by omega]; exact h1) (by rw [show n + (j + 1) + 1 = n + 1 + j + 1 by omega]; exact h2))
      fun ρ h => he ρ (by rw [List.length_cons, show n + (ds.length + 1) = n + 1 + ds.length by omega]; exact h)
    exact hs 0 d ρ _ _ rfl h0 next next
/-- a comprehension, by an invariant over what has been gathered; the slots stand as they stood -/
theorem lcL_of {t : Tg} {tt : BT} {e : XT} {vs : List Nat} {ρ : Ev} (I : Nat → List D → Prop) {k : List D → Ev → Prop} : ∀ (ds : List D) (n : Nat) (acc : List D), I n acc →
    (∀ j d acc (G : List D → Ev → Prop), ds[j]? = some d → I (n + j) acc → (∀ acc', I (n + j + 1) acc' → G acc' ρ) →
      tgGo t d ρ fun ρ1 => tt ρ1 fun c ρ2 => brb c (e ρ2 fun r ρ3 => acc.length ≤ 1000000 ∧ G (acc ++ [r.d]) (wipeE ρ3 vs)) (G acc (wipeE ρ2 vs))) →
    (∀ acc, I (n + ds.length) acc → k acc ρ) → lcL t tt e vs ds acc ρ k
  | [], n, acc, h0, _, he => he acc h0
  | d :: ds, n, acc, h0, hs, he => by
    have next : ∀ acc', I (n + 0 + 1) acc' → lcL t tt e vs ds acc' ρ k := fun acc' h => lcL_of I ds (n + 1) acc' h (fun j d acc G e hI h1 => hs (j + 1) d acc G (by simpa using e) (by rw [show n + (j + 1) = n + 1 + j by omega]; exact hI) (by rw [show n + (j + 1) + 1 = n + 1 + j + 1 by omega]; exact h1))
      fun ρ h => he ρ (by rw [List.length_cons, show n + (ds.length + 1) = n + 1 + ds.length by omega]; exact h)
    exact hs 0 d acc (fun acc' ρ' => lcL t tt e vs ds acc' ρ' k) rfl h0 next
theorem take_one {α : Type} {l : List α} {j : Nat} {d : α} (e : l[j]? = some d) : l.take (j + 1) = l.take j ++ [d] := by rw [List.take_succ, e]; rfl
theorem drop_one {α : Type} {l : List α} {j : Nat} {d : α} (e : l[j]? = some d) : l.drop j = d :: l.drop (j + 1) := by
  obtain ⟨h1, h2⟩ := List.getElem?_eq_some_iff.mp e
  rw [List.drop_eq_getElem_cons h1, h2]
/-- a comprehension that sieves and maps -/
theorem lcL_fm {t : Tg} {tt : BT} {e : XT} {vs : List Nat} {ρ : Ev} (f : D → Option D) {k : List D → Ev → Prop} {ds : List D} (hl : ds.length ≤ 1000000)
    (hs : ∀ (j : Nat) (d : D) (acc : List D) (G : List D → Ev → Prop), ds[j]? = some d → acc.length ≤ 1000000 → (∀ x, f d = some x → G (acc ++ [x]) ρ) → (f d = none → G acc ρ) →
      tgGo t d ρ fun ρ1 => tt ρ1 fun c ρ2 => brb c (e ρ2 fun r ρ3 => acc.length ≤ 1000000 ∧ G (acc ++ [r.d]) (wipeE ρ3 vs)) (G acc (wipeE ρ2 vs)))
    (hk : k (ds.filterMap f) ρ) : lcL t tt e vs ds [] ρ k := by
  refine lcL_of (fun n acc => acc = (ds.take n).filterMap f) ds 0 [] rfl (fun j d acc G e hI hG => ?_) fun acc h => ?_
  · rw [Nat.zero_add] at hI hG
    refine hs j d acc G e ?_ (fun x hx => ?_) fun hx => ?_
    · rw [hI]
      exact Nat.le_trans (List.length_filterMap_le _ _) (Nat.le_trans (by simp; omega) hl)
    · exact hG _ (by rw [take_one e, List.filterMap_append, ← hI]; simp [hx])
    · exact hG _ (by rw [take_one e, List.filterMap_append, ← hI]; simp [hx])
  · rw [Nat.zero_add, List.take_length] at h
    rw [h]; exact hk
theorem enum_get {ds : List D} {j : Nat} {d : D} (e : (ds.zipIdx.map fun p => PyData.tuple [.int p.2, p.1])[j]? = some d) : ∃ x, ds[j]? = some x ∧ d = .tuple [.int (j : Nat), x] := enum_ix e
theorem rng_get {lo hi : Int} {j : Nat} {d : D} (e : (rngL lo hi)[j]? = some d) : d = .int (lo + (j : Nat)) ∧ j < (hi - lo).toNat := by
  unfold rngL at e
  rw [List.getElem?_map] at e
  cases q : (List.range (hi - lo).toNat)[j]? with
  | none => rw [q] at e; cases e
  | some v =>
    rw [q] at e
    obtain ⟨h1, h2⟩ := List.getElem?_eq_some_iff.mp q
    rw [List.getElem_range] at h2
    subst h2
    cases e
    exact ⟨rfl, by simpa using h1⟩
theorem rng_len {lo hi : Int} : (rngL lo hi).length = (hi - lo).toNat := by simp [rngL]
end DL

namespace DL
open PySem StrLaws Builtin.Str
/-- every sign is one -/
def chok (x : Str) : Prop := ∀ c ∈ x.cps.toList, c < 16 ^ 8
mutual
def smol : D → Bool
  | .none | .bool _ => true
  | .int i => decide (i.natAbs < 10 ^ 124)
  | .str x => x.cps.toList.all fun c => decide (c < 16 ^ 8)
  | .list xs | .tuple xs => smolAll xs
  | .dict kvs => kvs.isEmpty
def smolAll : List D → Bool
  | [] => true
  | x :: xs => smol x && smolAll xs
end
mutual
def nod : D → Nat
  | .none | .bool _ | .int _ | .dict _ => 1
  | .str x => 1 + x.length / 8
  | .list xs | .tuple xs => 1 + nodAll xs
def nodAll : List D → Nat
  | [] => 0
  | x :: xs => nod x + nodAll xs
end
theorem smolAll_iff : ∀ (xs : List D), smolAll xs = true ↔ ∀ x ∈ xs, smol x = true
  | [] => by simp [smolAll]
  | x :: xs => by simp [smolAll, smolAll_iff xs]
theorem log_small {i : Int} (h : i.natAbs < 10 ^ 124) : i.natAbs.log2 < 1920 := by
  have e : (10 : Nat) ^ 124 < 2 ^ 1920 := by decide +kernel
  exact PySem.Flt.log2_lt_of (by decide) (Nat.lt_trans h e)
mutual
theorem smol_show : ∀ d : D, smol d = true → d.showable = true
  | .none, _ => rfl
  | .bool _, _ => rfl
  | .int i, h => by
    rw [smol, decide_eq_true_eq] at h
    rw [PyData.showable, decide_eq_true_eq]
    exact log_small h
  | .str _, _ => rfl
  | .list xs, h => by rw [smol] at h; rw [PyData.showable]; exact smolAll_show xs h
  | .tuple xs, h => by rw [smol] at h; rw [PyData.showable]; exact smolAll_show xs h
  | .dict kvs, h => by rw [smol] at h; cases kvs with | nil => rfl | cons _ _ => cases h
theorem smolAll_show : ∀ xs : List D, smolAll xs = true → PyData.showableAll xs = true
  | [], _ => rfl
  | x :: xs, h => by
    rw [smolAll, Bool.and_eq_true] at h
    rw [PyData.showableAll, Bool.and_eq_true]
    exact ⟨smol_show x h.1, smolAll_show xs h.2⟩
end
mutual
theorem smol_len : ∀ d : D, smol d = true → d.shown.length + 4 ≤ 130 * nod d
  | .none, _ => by decide
  | .bool b, _ => by cases b <;> decide
  | .int i, h => by
    rw [smol, decide_eq_true_eq] at h
    have e := int_text_length_le10 (k := 124) (by decide) h
    show (Str.ofString (toString i)).length + 4 ≤ _
    rw [ofString_length, nod]
    omega
  | .str x, h => by
    have hx : ∀ c ∈ x.cps.toList, c < 16 ^ 8 := by simpa only [smol, List.all_eq_true, decide_eq_true_eq] using h
    have e := reprText_len x hx
    rw [PyData.shown, nod]
    omega
  | .list xs, h => by
    rw [smol] at h
    have h1 := smolAll_len xs h
    have h2 := listText_len_le (PyData.shownAll xs)
    have h3 := PyData.shownAll_length xs
    rw [PyData.shown, nod]
    omega
  | .tuple xs, h => by
    rw [smol] at h
    have h1 := smolAll_len xs h
    have h2 := tupleText_len_le (PyData.shownAll xs)
    have h3 := PyData.shownAll_length xs
    rw [PyData.shown, nod]
    omega
  | .dict kvs, h => by
    rw [smol] at h
    cases kvs with
    | nil => decide
    | cons _ _ => cases h
theorem smolAll_len : ∀ xs : List D, smolAll xs = true → ((PyData.shownAll xs).map (·.length)).sum + 2 * xs.length ≤ 130 * nodAll xs
  | [], _ => by simp [PyData.shownAll, nodAll]
  | x :: xs, h => by
    rw [smolAll, Bool.and_eq_true] at h
    have h1 := smol_len x h.1
    have h2 := smolAll_len xs h.2
    rw [PyData.shownAll, nodAll, List.map_cons, List.sum_cons, List.length_cons]
    omega
end
theorem ch_app {x y : Str} (h : chok x) (k : chok y) : chok (x ++ y) := by
  intro c hc
  have e : (x ++ y).cps = x.cps ++ y.cps := rfl
  rw [e, Array.toList_append, List.mem_append] at hc
  exact hc.elim (h c) (k c)
theorem ch_of (s : String) : chok (Str.ofString s) := by
  intro c hc
  rw [Str.ofString_eq_toList] at hc
  simp only [List.mem_map] at hc
  obtain ⟨a, _, rfl⟩ := hc
  have h := a.valid
  have e : a.toNat < 0x110000 := by
    rcases h with h | ⟨_, h⟩
    · exact Nat.lt_trans h (by decide)
    · exact h
  exact Nat.lt_of_lt_of_le e (by decide)
theorem ch_join {sep : Str} (hs : chok sep) : ∀ ts : List Str, (∀ t ∈ ts, chok t) → chok (Str.join sep ts)
  | [], _ => by intro c hc; simp [Str.join, Str.empty] at hc
  | [x], h => h x (by simp)
  | x :: y :: r, h => by
    have ih := ch_join hs (y :: r) fun t ht => h t (List.mem_cons_of_mem _ ht)
    exact ch_app (ch_app (h x (by simp)) hs) ih
theorem ch_text : ∀ (ts : List Str) (k : Nat) (acc : Str), chok acc → (∀ t ∈ ts, chok t) → chok (textFrom k acc ts)
  | [], _, _, h, _ => h
  | t :: ts, k, acc, h, ht => ch_text ts (k + 1) _ (ch_app (ch_app h (by split <;> exact ch_of _)) (ht t (by simp))) fun u hu => ht u (List.mem_cons_of_mem _ hu)
theorem ch_char (q c : Nat) (hq : q < 16 ^ 8) (hc : c < 16 ^ 8) : ∀ d ∈ reprChar q c, d < 16 ^ 8 := by
  have hx : ∀ d ∈ (Nat.toDigits 16 c).map Char.toNat, d < 16 ^ 8 := by
    intro d hd
    simp only [List.mem_map] at hd
    obtain ⟨a, _, rfl⟩ := hd
    have h := a.valid
    have e : a.toNat < 0x110000 := by
      rcases h with h | ⟨_, h⟩
      · exact Nat.lt_trans h (by decide)
      · exact h
    exact Nat.lt_of_lt_of_le e (by decide)
  have hw : ∀ w, ∀ d ∈ List.replicate (w - ((Nat.toDigits 16 c).map Char.toNat).length) 48 ++ (Nat.toDigits 16 c).map Char.toNat, d < 16 ^ 8 := by
    intro w d hd
    rcases List.mem_append.mp hd with hd | hd
    · rw [(List.mem_replicate.mp hd).2]; decide
    · exact hx d hd
  have two : ∀ (a b : Nat), a < 16 ^ 8 → b < 16 ^ 8 → ∀ d ∈ [a, b], d < 16 ^ 8 := by
    intro a b ha hb d hd
    simp only [List.mem_cons, List.not_mem_nil, or_false] at hd
    rcases hd with rfl | rfl <;> assumption
  have pre : ∀ (a b w : Nat), a < 16 ^ 8 → b < 16 ^ 8 → ∀ d ∈ [a, b] ++ (List.replicate (w - ((Nat.toDigits 16 c).map Char.toNat).length) 48 ++ (Nat.toDigits 16 c).map Char.toNat), d < 16 ^ 8 := by
    intro a b w ha hb d hd
    rcases List.mem_append.mp hd with hd | hd
    · exact two a b ha hb d hd
    · exact hw w d hd
  unfold reprChar
  dsimp only
  repeat' split
  · exact two _ _ (by decide) hc
  · exact two _ _ (by decide) (by decide)
  · exact two _ _ (by decide) (by decide)
  · exact two _ _ (by decide) (by decide)
  · intro d hd
    rw [List.mem_singleton] at hd
    rw [hd]; exact hc
  · exact pre _ _ _ (by decide) (by decide)
  · exact pre _ _ _ (by decide) (by decide)
  · exact pre _ _ _ (by decide) (by decide)
theorem ch_fold (q : Nat) (hq : q < 16 ^ 8) : ∀ (l : List Nat) (acc : Array Nat), (∀ c ∈ l, c < 16 ^ 8) → (∀ c ∈ acc.toList, c < 16 ^ 8) → ∀ c ∈ (l.foldl (fun out c => out ++ (reprChar q c).toArray) acc).toList, c < 16 ^ 8
  | [], _, _, h => h
  | x :: l, acc, hl, h => by
    rw [List.foldl_cons]
    refine ch_fold q hq l _ (fun c hc => hl c (List.mem_cons_of_mem _ hc)) fun c hc => ?_
    rw [Array.toList_append, List.mem_append] at hc
    exact hc.elim (h c) (ch_char q x hq (hl x (by simp)) c)
theorem ch_repr {x : Str} (h : chok x) : chok (reprText x) := by
  have hq : reprQuote x < 16 ^ 8 := by unfold reprQuote; split <;> decide
  intro c hc
  unfold reprText at hc
  rw [Array.toList_push, List.mem_append, List.mem_singleton] at hc
  rcases hc with hc | hc
  · rw [← Array.foldl_toList] at hc
    exact ch_fold _ hq _ _ h (fun d hd => by simp only [List.mem_singleton] at hd; rw [hd]; exact hq) c hc
  · rw [hc]; exact hq
mutual
theorem smol_ch : ∀ d : D, smol d = true → chok d.shown
  | .none, _ => ch_of _
  | .bool b, _ => by rw [PyData.shown]; split <;> exact ch_of _
  | .int i, _ => ch_of _
  | .str x, h => ch_repr (by simpa only [smol, List.all_eq_true, decide_eq_true_eq, chok] using h)
  | .list xs, h => by
    rw [smol] at h
    rw [PyData.shown]
    exact ch_app (ch_text _ _ _ (ch_of _) (smolAll_ch xs h)) (ch_of _)
  | .tuple xs, h => by
    rw [smol] at h
    rw [PyData.shown]
    exact ch_app (ch_app (ch_of _) (ch_join (ch_of _) _ (smolAll_ch xs h))) (by split <;> exact ch_of _)
  | .dict kvs, h => by
    rw [smol] at h
    cases kvs with
    | nil => exact ch_app (ch_app (ch_of _) (ch_join (ch_of _) _ (fun t ht => by cases ht))) (ch_of _)
    | cons _ _ => cases h
theorem smolAll_ch : ∀ xs : List D, smolAll xs = true → ∀ t ∈ PyData.shownAll xs, chok t
  | [], _ => by intro t ht; cases ht
  | x :: xs, h => by
    rw [smolAll, Bool.and_eq_true] at h
    intro t ht
    rw [PyData.shownAll] at ht
    rcases List.mem_cons.mp ht with rfl | ht
    · exact smol_ch x h.1
    · exact smolAll_ch xs h.2 t ht
end
/-- what a text's repr asks of a datum -/
theorem show_ok {d : D} {n : Nat} (h : smol d = true) (hn : nod d ≤ n) (h2 : n ≤ 100000) (hd : d.depth ≤ 40) : d.showable = true ∧ d.shown.length ≤ 16000000 ∧ d.depth ≤ 40 := by
  have := smol_len d h
  exact ⟨smol_show d h, by omega, hd⟩
/-- the text as a datum -/
theorem smol_text {d : D} (h : smol d = true) : smol (.str d.shown) = true := by
  rw [smol, List.all_eq_true]
  intro c hc
  exact decide_eq_true (smol_ch d h c hc)
theorem nod_text {d : D} {n : Nat} (h : smol d = true) (hn : nod d ≤ n) : nod (.str d.shown) ≤ 17 * n := by
  have := smol_len d h
  rw [nod]
  omega
end DL

namespace DL
open PySem L2 PySem.Spec PyProof.Rows
/-- only the script and the table of modules are tracked -/
def Only2 (o0 : Obj) (H : Hp) : Prop := H sysModules = some (.ext fun h => h.get? sysModules = some o0) ∧ ∀ b, b ≠ sysModules → H b = none ∨ ∃ o xs, H b = some (.frz o (.lst xs))
theorem law_callG {P : Program} {w : World} {K : PySem.W.Frag} {mg mb : Str → Option Value} {k : Nat} {fa a : Addr} {fd : FuncData} {x : Str} {sp : Sp} {s₁ : Shared} {vs : List Value} {ns : List Int}
    (KX : K.In s₁.heap) (hsm : K.lookup sysModules = none) (hseer : s₁.heap.NoSeer) (hns : s₁.heap.Ns mainGlobals mg) (hb : s₁.heap.Ns builtinsNs mb) (hbb : ∀ x : Str, x ≠ "__name__" → mb x = bootBuiltins x) (hlim : s₁.heap.NoLimit) (hg : s₁.gens = #[])
    (ha : s₁.heap.get? a = some { cls := .type "list", data := .seq vs.toArray }) (hi : IntsAre vs ns) (hl : ns.length ≤ sizeLine) (hr : Room k callerA)
    (F : ∀ base : Heap, K.In base → base.Ns mainGlobals mg → FnG P w K mg base CX0 k fa fd [x] sp) (hbind : ∀ (s : Shared) (u : Value), BindsTo s fd ⟨[u], []⟩ [(x, u)])
    (hsp : ∀ (o0 : Obj) (H : Hp), Only2 o0 H → SqL K H a (ns.map V.int) → sp [.ref a] H (fun v H' => v = .bl true ∧ H' sysModules = H sysModules) fun _ _ _ => False) :
    codeAny (model P w) callerA (.call (.ref fa) ⟨[.ref a], []⟩) (fun r s' => r = .ok (.ret (.bool true)) ∧ OldK s₁.heap s'.heap ∧ s'.os = s₁.os ∧ AllBare s'.gens) s₁ := by
  have rv := vals_ints hi
  have lenV := hi.length
  obtain ⟨mm, ⟨o0, es0, ep0, e0s, d0s, r0s⟩, _⟩ := hseer.mods
  have hsa : a ≠ sysModules := fun z => by
    subst z
    rw [ha] at e0s
    cases e0s
    have d' : Data.seq vs.toArray _ = Data.dict es0 ep0 := d0s
    cases d'
  have core : ∀ H : Hp, Only2 o0 H → SqL K H a (ns.map V.int) → HOk P w H s₁.heap → (∀ b, H b ≠ none → b = a ∨ b = sysModules) → (H a ≠ none → K.lookup a = none) →
      codeAny (model P w) callerA (.call (.ref fa) ⟨[.ref a], []⟩) (fun r s' => r = .ok (.ret (.bool true)) ∧ OldK s₁.heap s'.heap ∧ s'.os = s₁.os ∧ AllBare s'.gens) s₁ := by
    intro H hO hS hok hA hK
    have base_of : ∀ {b : Addr} {o : Obj}, s₁.heap.get? b = some o → H b = none → (hidT s₁.heap H).get? b = some o := fun e n => hidT_get e n
    have noA : ∀ {b : Addr} {o : Obj} {es : Array DictEntry} {ep : Nat}, b ≠ sysModules → s₁.heap.get? b = some o → o.data = .dict es ep → H b = none := fun {b o es ep} hb e d => by
      cases q : H b with
      | none => rfl
      | some u =>
        rcases hA b (by rw [q]; simp) with e' | e'
        · subst e'
          rw [ha] at e; cases e
          have d' : Data.seq vs.toArray _ = Data.dict es ep := d
          cases d'
        · exact absurd e' hb
    have nsK : ∀ {b : Addr} {m : Str → Option Value}, b ≠ sysModules → s₁.heap.Ns b m → (hidT s₁.heap H).Ns b m := fun {b m} hb ⟨o, es, ep, e, d, r⟩ => ⟨o, es, ep, base_of e (noA hb e d), d, r⟩
    have hKb : K.In (hidT s₁.heap H) := fun b o e => base_of (KX b o e) (by
      cases q : H b with
      | none => rfl
      | some u =>
        rcases hA b (by rw [q]; simp) with e' | e'
        · subst e'
          rw [hK (by rw [q]; simp)] at e; cases e
        · subst e'
          rw [hsm] at e; cases e)
    have hM : Mod K mg (hidT s₁.heap H) := ⟨hKb, nsK (by decide) hns, ⟨mb, nsK (by decide) hb, hbb⟩, let ⟨mc, h1, h2⟩ := hlim; ⟨mc, nsK (by decide) h1, h2⟩⟩
    have e0 : Env0 P w K mg (hidT s₁.heap H) callerA [] s₁ H := ⟨rfl, hM, fun b o e => of_hidT e, Nat.le_of_eq (hidT_size _ _), trivial, fun b hb => absurd (show b ∈ ([] : List Addr) from hb) (by simp), hok, .of_eq hg⟩
    refine codeAny_mono ((F _ hKb (nsK (by decide) hns)).run callerA hr rfl [] s₁ H e0 ⟨[.ref a], []⟩ [.ref a] [.ref a] (hbind s₁ (.ref a)) (.cons rfl .nil) _ _ (hsp o0 H hO hS)) fun r s' h => ?_
    cases r with
    | error e => exact False.elim h
    | ok fl =>
      cases fl with
      | next => exact False.elim h
      | brk => exact False.elim h
      | cont => exact False.elim h
      | ret u =>
        obtain ⟨v, H', os, bare, un, hok', r', q, q2⟩ := h
        subst q
        obtain rfl : u = Value.bool true := r'
        refine ⟨rfl, OldK.of_keep fun b o e => ?_, os, bare⟩
        by_cases hb : b = sysModules
        · subst hb
          rw [hO.1] at q2
          have k1 := (hok' _ _ q2).1
          rw [e0s] at e
          cases e
          exact k1
        · cases q : H b with
          | none => exact un.keep b o e q (by intro z; exact absurd (show b ∈ ([] : List Addr) from z) (by simp)) (by simp)
          | some u =>
            rcases hO.2 b hb with z | ⟨ob, xs, z⟩
            · rw [q] at z; cases z
            · have z2 := un.frzs b ob _ z
              obtain ⟨e1, _⟩ := hok b _ z
              obtain ⟨e2, _⟩ := hok' b _ z2
              rw [e] at e1; cases e1
              exact e2
  have extok : ∀ H : Hp, ObjOk P w H s₁.heap sysModules (.ext fun h => h.get? sysModules = some o0) := fun H => ⟨e0s, ⟨_, e0s⟩, fun h1 h2 p q => q _ p⟩
  cases hk : K.lookup a with
  | some o =>
    have e := KX a o hk
    rw [ha] at e
    cases e
    refine core (fun b => if b = sysModules then some (.ext fun h => h.get? sysModules = some o0) else none) ⟨if_pos rfl, fun b hb => .inl (if_neg hb)⟩ (.inr ⟨_, vs.toArray, _, hk, rfl, rfl, rfl, by rw [List.size_toArray, lenV]; exact hl, by simpa using rv⟩) (fun b u z => ?_) (fun b z => ?_) fun z => absurd (if_neg hsa) z
    · by_cases hb : b = sysModules
      · have z' := (if_pos hb).symm.trans z
        cases z'
        subst hb
        exact extok _
      · have z' := (if_neg hb).symm.trans z
        cases z'
    · by_cases hb : b = sysModules
      · exact .inr hb
      · exact absurd (if_neg hb) z
  | none =>
    refine core (fun b => if b = sysModules then some (.ext fun h => h.get? sysModules = some o0) else if b = a then some (.frz { cls := .type "list", data := .seq vs.toArray } (.lst (ns.map V.int))) else none) ⟨if_pos rfl, fun b hb => ?_⟩ (.inl (.inr ⟨{ cls := .type "list", data := .seq vs.toArray }, (if_neg hsa).trans (if_pos rfl)⟩)) (fun b u z => ?_) (fun b z => ?_) fun _ => hk
    · by_cases hb2 : b = a
      · exact .inr ⟨_, _, (if_neg hb).trans (if_pos hb2)⟩
      · exact .inl ((if_neg hb).trans (if_neg hb2))
    · by_cases hb : b = sysModules
      · have z' := (if_pos hb).symm.trans z
        cases z'
        subst hb
        exact extok _
      · by_cases hb2 : b = a
        · have z' := ((if_neg hb).trans (if_pos hb2)).symm.trans z
          cases z'
          subst hb2
          exact ⟨ha, by rw [List.length_map]; exact hl, vs, _, rv, ha⟩
        · have z' := ((if_neg hb).trans (if_neg hb2)).symm.trans z
          cases z'
    · by_cases hb : b = sysModules
      · exact .inr hb
      · by_cases hb2 : b = a
        · exact .inl hb2
        · exact absurd ((if_neg hb).trans (if_neg hb2)) z
abbrev lawQ (H : Hp) : VK := fun v H' => v = .bl true ∧ H' sysModules = H sysModules
theorem walkG {l : PySem.W.OpenLaw} {n k : Nat} {q : Program} {loose : List Str} {XP : (Str → Option Value) → Heap → Prop} {YP : World → Heap → Prop} {d : DefRec} {K : Params → PySem.W.Frag} {sp : PySem.W.Frag → Sp} {x : Str}
    (hn : l.most = some n) (hn2 : n ≤ sizeLine) (hdf : d.params.defaults = []) (hr : Room k callerA) (hin : importsNone q = true)
    (hY : ∀ (w : World) (h : Heap), YP w h → (K w.params).In h) (hsm : ∀ w : World, (K w.params).lookup sysModules = none)
    (F : ∀ (w : World) (mg : Str → Option Value) (fa : Addr) (h : Heap), (K w.params).In h → h.Ns mainGlobals mg → mg d.name = some (.ref fa) →
      ∃ fd : FuncData, (∀ (s : Shared) (u : Value), BindsTo s fd ⟨[u], []⟩ [(x, u)]) ∧
        ∀ base : Heap, (K w.params).In base → base.Ns mainGlobals mg → FnG l.prog w (K w.params) mg base CX0 k fa fd [x] (sp (K w.params)))
    (hsp : ∀ (w : World) (o0 : Obj) (H : Hp) (a : Addr) (ns : List Int), ns.length ≤ n → Only2 o0 H → SqL (K w.params) H a (ns.map V.int) → sp (K w.params) [.ref a] H (lawQ H) fun _ _ _ => False) :
    PySem.W.WalkO q loose XP YP l.row.toRowW d [] (fun f vs => PySem.call f vs) := by
  refine Att.attach_call hn hdf fun w s₀ s₁ mg mb fa o pm cd doc a vs ns G Y ho hd hcd hmg hobj hints hlen hg => ?_
  have KX := hY w _ Y
  obtain ⟨fd, hb, hF⟩ := F w mg fa _ KX G.T.g hmg
  exact law_callG KX (hsm w) (G.T.seer hin) G.T.g G.T.b G.T.builtins G.T.nolimit hg hobj hints (Nat.le_trans hlen hn2) hr hF hb fun o0 H hO hS => hsp w o0 H a ns hlen hO hS
/-- a def's call as a reading of the hand layer -/
theorem pe_callG {X : Cx} {k : Nat} {f : Addr} {fd : FuncData} {ps : List Str} {sp : Sp} {x : Str} {p pos : Pos} {e : Expr} {es : List Expr} {t : TA} (F : FnG X.prog X.w X.K X.mg X.base CX0 k f fd ps sp) (hr : Room k X.A) (hG : X.A.guards = some []) (hm : X.mg x = some (.ref f)) (hk : PySem.W.keepIn X.K (.ref f) = true) (hb : Binds X.K fd ps [])
    (ha : PA X (e :: es) t) (hg : Gl X x := by rfl) (hdb : (x == ("__debug__" : Str)) = false := by decide) (he : starEach (e :: es) X.env = (false, eval e X.env) :: starEach es X.env := by rfl) (hpl : (backTo pos (starEach es X.env)).any (·.1) = false := by rfl) :
    PE X (.Call (.Name x p) (e :: es) [] pos) (fun σ H Q => t σ H fun vs H1 => sp vs H1 Q E0) := by
  refine ⟨fun pins s σ H Q I h => ?_⟩
  refine wpAny_Call_Name_kw (ld_glob I hg hm ?_ hdb)
  refine PySem.W.callWith_K (h₀ := X.base) I.ok.mod.kin hk (thn (ha.run pos pins s σ H _ I h) fun us s1 ⟨vs, H1, I1, r, q⟩ => ⟨I1.kIn, ?_⟩) he hpl
  have l1 : (us ++ []).length = ps.length := by rw [List.append_nil, ← r.length]; exact F.len _ _ _ _ q
  have bd := hb s1 us I1.kIn l1
  rw [List.append_nil] at bd
  exact fin_call F hr hG I1 bd r q
end DL

namespace DL
open PySem L2 PyProof.Rows
abbrev kdA (l : Addr) (st : Int) : List (Key × V) := [(.inr "deep", .ref l), (.inr "state", .int st)]
def deckA (H : Hp) (p : Addr) (fp : List Addr) : Prop := ∃ (l : Addr) (st : Int) (ds : List Int), fp = [p, l] ∧ p ≠ l ∧ H p = some (.dK (kdA l st)) ∧ H l = some (.lst (ds.map V.int)) ∧ ds.length ≤ 63
def ZA (K : PySem.W.Frag) : Zd where
  K := K
  sm := true
  dk := deckA
  loc := fun H H' p fp ⟨l, st, ds, e, n, h1, h2, h3⟩ k => ⟨l, st, ds, e, n, by rw [k p (by rw [e]; simp)]; exact h1, by rw [k l (by rw [e]; simp)]; exact h2, h3⟩
theorem kdA_ne : ¬ ((Sum.inr ("deep" : Str) : Key) = .inr "state") := by
  intro z
  have e := Sum.inr.inj z
  exact absurd e (by decide +kernel)
theorem kdA_deep (l : Addr) (st : Int) : valV (kdA l st) (.inr "deep") = some (.ref l) := valV_pos rfl
theorem kdA_state (l : Addr) (st : Int) : valV (kdA l st) (.inr "state") = some (.int st) := (valV_neg kdA_ne).trans (valV_pos rfl)
theorem kdA_put (l : Addr) (st x : Int) : putK (kdA l st) (.inr "state") (.int x) = kdA l x := by
  unfold putK
  rw [if_pos (by simp)]
  simp only [List.map_cons, List.map_nil, kdA_ne, if_false, if_true]
theorem kdA_putD (l m : Addr) (st : Int) : putK (kdA l st) (.inr "deep") (.ref m) = kdA m st := by
  unfold putK
  rw [if_pos (by simp)]
  have e : ¬ ((Sum.inr ("state" : Str) : Key) = .inr "deep") := fun z => kdA_ne z.symm
  simp only [List.map_cons, List.map_nil, e, if_false, if_true]
/-- a draw ends: the deck is one still, all else stands -/
theorem drawA_fin {K : PySem.W.Frag} {H B H' : Hp} {p l : Addr} {Q : VK} {r : Int} (hs : Sub B H) (hk : DkOk (ZA K) (some (p, [p, l])) H B) (hd : deckA H' p [p, l]) (keep : ∀ a o, H a = some o → a ≠ p → a ≠ l → H' a = some o) (tr : ∀ a, H' a = none → H a = none)
    (h : ∀ v H' B', Sub B' H' → DkOk (ZA K) (some (p, [p, l])) H' B' → Stp (Md (some (p, [p, l]))) (Md (some (p, [p, l]))) H B H' B' → RR (Md (some (p, [p, l]))) H H' B' (Md (some (p, [p, l]))) v (.va (.int r)) → Q v H') : Q (.int r) H' := by
  obtain ⟨k1, k2⟩ := hk p [p, l] rfl
  have np : B p = none := (k2 p (by simp)).1
  have nl : B l = none := (k2 l (by simp)).1
  refine h (.int r) H' B (fun a o e => keep a o (hs a o e) (fun z => by rw [z, np] at e; cases e) fun z => by rw [z, nl] at e; cases e) (fun p' fp' e => ?_) ⟨Sub.refl _, fun a o e m => keep a o e (fun z => m ⟨p, _, rfl, by rw [z]; simp⟩) fun z => m ⟨p, _, rfl, by rw [z]; simp⟩, fun a e => .inl e, fun a m => .inl m, tr⟩ (.int r)
  cases e
  exact ⟨hd, fun a ha => ⟨(k2 a ha).1, fun z => (k2 a ha).2 (tr a z)⟩⟩
theorem ite_tt' {c : Bool} {A B : Prop} (h : c = true) (a : A) : if c = true then A else B := by rw [if_pos h]; exact a
theorem ite_ff' {c : Bool} {A B : Prop} (h : c = false) (b : B) : if c = true then A else B := by rw [if_neg (by rw [h]; decide)]; exact b
theorem nosl_of (i : Expr) (h : ∀ ov iv, subscripted i false ov iv = operate [ov, iv] (getItem ov iv) := by intro _ _; rfl) : NoSl i := h
theorem mod_pos (a m : Int) (h : 0 < m) : 0 ≤ a % m ∧ a % m < m := ⟨Int.emod_nonneg a (by omega), Int.emod_lt_of_pos a h⟩
end DL
namespace DL
open PySem L2
theorem mergeA (l : Addr) (st : Int) : mergeK [] (kdA l st) = kdA l st := by
  have e : decide ((Sum.inr ("deep" : Str) : Key) = .inr "state") = false := decide_eq_false kdA_ne
  unfold mergeK putK
  simp only [List.foldl_cons, List.foldl_nil, List.any_nil, List.nil_append, List.any_cons, e, Bool.or_false, Bool.false_eq_true, if_false]
  rfl
def spDeckA (K : PySem.W.Frag) : Sp := fun vs H Q _ => ∃ (a : Addr) (ns : List Int), vs = [.ref a] ∧ SqL K H a (ns.map V.int) ∧ ns.length ≤ 63 ∧ ∀ (p l : Addr) (H' : Hp), (∀ b o, H b = some o → H' b = some o) → H p = none → H l = none → deckA H' p [p, l] → (∀ b, H' b = none → H b = none) → Q (.ref p) H'
end DL
namespace DL
open PySem L2
theorem law_rel {K : PySem.W.Frag} {a p l : Addr} {H : Hp} {φ : Heap → Prop} {n : Nat} (hd : deckA H p [p, l]) (np : p ≠ sysModules) (nl : l ≠ sysModules) (hm : H sysModules = some (.ext φ)) :
    Rel (ZA K) (some (p, [p, l])) ([some (.ref a), some (.ref p)] ++ List.replicate n none) H (fun b => if b = sysModules then some (.ext φ) else none) ([.un, .dk] ++ List.replicate n .un) := by
  have only : ∀ (i : Nat) (e : En), ([En.un, .dk] ++ List.replicate n En.un)[i]? = some e → e = .un ∨ (i = 1 ∧ e = .dk) := fun i e h => by
    match i, h with
    | 0, h => exact .inl (Option.some.inj h).symm
    | 1, h => exact .inr ⟨rfl, (Option.some.inj h).symm⟩
    | i + 2, h =>
      have h' : (List.replicate n En.un)[i]? = some e := h
      rw [List.getElem?_replicate] at h'
      split at h'
      · exact .inl (Option.some.inj h').symm
      · cases h'
  have noow : ∀ (i : Nat) (ds : List D), ([En.un, .dk] ++ List.replicate n En.un)[i]? ≠ some (.ow ds) := fun i ds h => by
    rcases only i _ h with z | ⟨_, z⟩ <;> cases z
  refine ⟨by simp, fun b o e => ?_, fun i d e => ?_, fun i ds e => absurd e (noow i ds), fun i j ds es q e _ _ _ => absurd e (noow i ds), fun i e => ?_, fun q fp e => ?_, fun i ns e => ?_, fun _ => ⟨φ, if_pos rfl⟩⟩
  · by_cases z : b = sysModules
    · have e' := (if_pos z).symm.trans e
      cases e'
      rw [z]; exact hm
    · have e' := (if_neg z).symm.trans e
      cases e'
  · rcases only i _ e with z | ⟨_, z⟩ <;> cases z
  · rcases only i _ e with z | ⟨z, _⟩
    · cases z
    · subst z; exact ⟨p, _, rfl, rfl⟩
  · cases e
    obtain ⟨l', st, ds, e1, e2, e3, e4, e5⟩ := id hd
    have el : l' = l := by simp at e1; exact e1.symm
    subst el
    refine ⟨hd, fun b hb => ?_, fun b hb j ds e => absurd e (noow j ds)⟩
    simp only [List.mem_cons, List.not_mem_nil, or_false] at hb
    rcases hb with rfl | rfl
    · exact ⟨if_neg np, by rw [e3]; simp⟩
    · exact ⟨if_neg nl, by rw [e4]; simp⟩
  · rcases only i _ e with z | ⟨_, z⟩ <;> cases z
end DL

namespace K35
open PySem L2 DL
abbrev bo (b : Bool) : Rt := .va (.bool b)
def isI : D → Bool
  | .int _ => true
  | _ => false
def rngB (d : D) (lo hi : Int) : Bool := match d with
  | .int i => decide (lo ≤ i) && decide (i ≤ hi)
  | _ => false
abbrev big : Int := 1000000000000000000000000000000000000000000000000000000000000
abbrev fac : Int := 100000000000000000000
abbrev numB (d : D) : Bool := rngB d (-big) big
def modB (lo hi s : Int) : Bool := decide (1 ≤ s) && (decide (s ≤ big) && (decide (lo ≤ hi) && decide ((hi - lo) % s = 0)))
def span3 (a b c : D) : Bool := numB a && (numB b && (match a, b, c with
  | .int i, .int j, .int s => modB i j s
  | _, _, _ => false))
def spanL : List D → Bool
  | [a, b, c] => span3 a b c
  | _ => false
def spanB : D → Bool
  | .tuple ds => spanL ds
  | _ => false
def aheadB (d : D) (p : Int) : Bool := rngB d 0 (p - 1)
def restB (w : Str) (p : Int) : List D → Bool
  | [x, y] => aheadB x p && (if w = "times" then rngB y (-fac) fac else (decide (w = "sum") || decide (w = "less")) && aheadB y p)
  | _ => false
def oneB : List D → Bool
  | [x] => numB x
  | _ => false
def stepL (p : Int) : List D → Bool
  | .str w :: r => if w = "in" then spanL r else if w = "is" then oneB r else restB w p r
  | _ => false
def stepB (d : D) (p : Int) : Bool := match d with
  | .tuple ds => stepL p ds
  | _ => false
/-- a step whose value may be asked for equality -/
def tok (d : D) : Prop := ∀ ds, d = .tuple ds → SeqAt.shaped d = true
def isIn : D → Bool
  | .tuple (.str w :: _) => decide (w = "in")
  | _ => false
def spanOf : D → D
  | .tuple ds => .tuple (ds.drop 1)
  | d => d
def spF (d : D) : Option D := if isIn d = true then some (spanOf d) else none
def spansOf (ds : List D) : List D := ds.filterMap spF
def named (d : D) : Prop := ∃ w r, d = .tuple (.str w :: r)
/-- the first step that is none -/
def badAt : Nat → List D → Option Nat
  | _, [] => none
  | n, d :: ds => if stepB d n then badAt (n + 1) ds else some n
def progE : D → D
  | .tuple ds => if 1 ≤ ds.length ∧ ds.length ≤ 30 then (match badAt 0 ds with
      | some n => .tuple [.str "step", .int n]
      | none => if 12 < (spansOf ds).length then .str "inputs" else .none) else .str "form"
  | _ => .str "form"
def spanOk (d : D) : Prop := ∃ lo hi s, d = .tuple [.int lo, .int hi, .int s] ∧ 0 < s ∧ s.natAbs < 10 ^ 61 ∧ lo.natAbs < 10 ^ 61 ∧ hi.natAbs < 10 ^ 61
def heldB (sp d : D) : Bool := match sp, d with
  | .tuple [.int lo, .int hi, .int s], .int i => decide (lo ≤ i) && (decide (i ≤ hi) && decide ((i - lo) % s = 0))
  | _, _ => false
def badIn : Nat → List D → List D → Option Nat
  | n, sp :: sps, d :: ds => if heldB sp d then badIn (n + 1) sps ds else some n
  | _, _, _ => none
def inpE (sps : List D) : D → D
  | .tuple ds => if ds.length = sps.length then (match badIn 0 sps ds with
      | some n => .tuple [.str "input", .int n]
      | none => .none) else .str "form"
  | _ => .str "form"
def C_is_integer : Con := fun as k => ∃ d, as = [.va d] ∧ k (bo (isI d))
def C_is_number : Con := fun as k => ∃ d, as = [.va d] ∧ k (bo (numB d))
def C_is_span : Con := fun as k => ∃ d, as = [.va d] ∧ k (bo (spanB d))
def C_is_held : Con := fun as k => ∃ sp d, as = [.va sp, .va d] ∧ spanOk sp ∧ k (bo (heldB sp d))
def C_is_ahead : Con := fun as k => ∃ d p, as = [.va d, .va (.int p)] ∧ k (bo (aheadB d p))
def C_is_step : Con := fun as k => ∃ d p, as = [.va d, .va (.int p)] ∧ tok d ∧ k (bo (stepB d p))
def C_spans_of : Con := fun as k => ∃ ds, as = [.va (.tuple ds)] ∧ ds.length ≤ 1000 ∧ (∀ x ∈ ds, named x) ∧ k (.ow (spansOf ds))
def C_program_error : Con := fun as k => ∃ d, as = [.va d] ∧ (∀ ds, d = .tuple ds → ds.length ≤ 1000 ∧ ∀ x ∈ ds, tok x) ∧ k (.va (progE d))
def C_inputs_error : Con := fun as k => ∃ ds d, as = [.va (.tuple ds), .va d] ∧ ds.length ≤ 1000 ∧ (∀ x ∈ ds, named x ∧ (isIn x = true → spanOk (spanOf x))) ∧ k (.va (inpE (spansOf ds) d))
def C__law_draw : Con := fun as k => ∃ many, as = [.dk, .va (.int many)] ∧ (1 ≤ many ∧ many ≤ 1000000) ∧ ∀ r, 0 ≤ r → r < many → k (.va (.int r))
def C__law_deck : Con := fun _ _ => False
def C__law_pick : Con := fun as k => ∃ row, as = [.dk, .va (.list row)] ∧ (row ≠ [] ∧ row.length ≤ 1000000) ∧ ∀ x ∈ row, k (.va x)
def C__law_span : Con := fun as k => ∃ most many, as = [.dk, .va (.int most), .va (.int many)] ∧ (0 ≤ most ∧ most ≤ 1000 ∧ 1 ≤ many ∧ many ≤ 1000) ∧
  ∀ lo r st : Int, lo.natAbs ≤ 20000 → 0 ≤ r → r < many → 1 ≤ st → st ≤ 10 → k (.va (.tuple [.int lo, .int (lo + st * r), .int st]))
def smI (i : Int) : Prop := i.natAbs < 10 ^ 61
/-- a step of a made program -/
inductive Made : D → Prop
  | inn (lo hi s : Int) : 0 < s → smI lo → smI hi → smI s → Made (.tuple [.str "in", .int lo, .int hi, .int s])
  | iss (i : Int) : smI i → Made (.tuple [.str "is", .int i])
  | two (w : Str) (i j : Int) : w = "sum" ∨ w = "less" ∨ w = "times" → smI i → smI j → Made (.tuple [.str w, .int i, .int j])
def C__law_program : Con := fun as k => ∃ many facs, as = [.dk, .va (.int many), .va (.int 60), .va (.list facs)] ∧ (1 ≤ many ∧ many ≤ 30) ∧ (facs ≠ [] ∧ facs.length ≤ 100 ∧ (∀ x ∈ facs, ∃ i, x = .int i ∧ smI i)) ∧
  ∀ ds, ds.length = many.toNat → (∀ x ∈ ds, Made x) → k (.va (.tuple ds))
def C__law_spans_of : Con := C_spans_of
def C__law_great : Con := fun as k => as = [.dk, .va (.int 30), .va (.int 12)] ∧ ∀ ds, ds.length = 30 → (∀ x ∈ ds, Made x) → k (.va (.tuple ds))
def C__law_some : Con := fun as k => ∃ sps, as = [.dk, .va (.list sps)] ∧ (sps.length ≤ 1000 ∧ (∀ x ∈ sps, spanOk x)) ∧
  ∀ ns : List Int, ns.length = sps.length → (∀ n ∈ ns, n.natAbs < 10 ^ 123) → k (.va (.tuple (ns.map .int)))
def C__law_is_whole : Con := fun as k => ∃ d lo hi, as = [.va d, .va (.int lo), .va (.int hi)] ∧ k (bo (rngB d lo hi))
def C__law_is_span : Con := fun as k => ∃ ds, as = [.va (.tuple ds)] ∧ ds.length ≤ 100000 ∧ k (bo (spanL ds))
def C__law_is_step : Con := fun as k => ∃ p d, as = [.va (.int p), .va d] ∧ tok d ∧ (∀ ds, d = .tuple ds → ds.length ≤ 100000) ∧ k (bo (stepB d p))
/-- a thing to be judged -/
def Step (d : D) : Prop := smol d = true ∧ nod d ≤ 20 ∧ d.depth ≤ 3 ∧ ∀ ds, d = .tuple ds → PyData.canLay0 d = true
def Thing (d : D) : Prop := smol d = true ∧ nod d ≤ 1000 ∧ d.depth ≤ 5 ∧ ∀ ds, d = .tuple ds → ∀ x ∈ ds, Step x
def C__law_program_error : Con := fun as k => ∃ d, as = [.va d] ∧ (∀ ds, d = .tuple ds → ds.length ≤ 1000 ∧ ∀ x ∈ ds, tok x ∧ ∀ es, x = .tuple es → es.length ≤ 100000) ∧ k (.va (progE d))
def C__law_inputs_error : Con := C_inputs_error
def C__law_odd_step : Con := fun as k => ∃ place, as = [.dk, .va (.int place)] ∧ smI place ∧ ∀ d, Step d → k (.va d)
def C__law_odd_inputs : Con := fun as k => ∃ ds, as = [.dk, .va (.tuple ds)] ∧ (ds.length ≤ 100 ∧ (∀ x ∈ ds, Made x)) ∧ ∀ d, smol d = true → nod d ≤ 1000 → d.depth ≤ 4 → k (.va d)
def C__law_is_judged : Con := fun as k => ∃ d b, as = [.va d, .va (.bool b)] ∧ Thing d ∧ k (bo true)
def C_law : Con := fun as k => k (bo true)

end K35

namespace K35
open PySem L2 DL
def rd_is_integer : SS := sRet (xAnd (xUn (oIsi .int) (xVar 0)) (xNot (xUn (oIsi .bool) (xVar 0))))
def rd_is_number : SS := sRet (xAnd (xDef C_is_integer (cVa (xVar 0) (cNil))) (xChain oLe oLe (xUn oNeg (xC (.int (1000000000000000000000000000000000000000000000000000000000000)))) (xVar 0) (xC (.int (1000000000000000000000000000000000000000000000000000000000000)))))
def rd_is_span : SS := sSeq (sIf (bOr (bNot (bX (xUn (oIsi .tuple) (xVar 0)))) (bOr (bX (xBin oNe (xLenN 0) (xC (.int 3)))) (bOr (bNot (bX (xDef C_is_number (cVa (xIxN 0 (xC (.int 0))) (cNil))))) (bNot (bX (xDef C_is_number (cVa (xIxN 0 (xC (.int 1))) (cNil)))))))) (sRet (xC (.bool false))) (sPass)) (sSeq (sUnp (.tup [.nm 1, .nm 2, .nm 3]) (xVar 0)) (sRet (xAnd (xDef C_is_integer (cVa (xVar 3) (cNil))) (xAnd (xChain oLe oLe (xC (.int 1)) (xVar 3) (xC (.int (1000000000000000000000000000000000000000000000000000000000000)))) (xAnd (xBin oLe (xVar 1) (xVar 2)) (xBin oEq (xBin oMod (xBin oSub (xVar 2) (xVar 1)) (xVar 3)) (xC (.int 0))))))))
def rd_is_held : SS := sSeq (sUnp (.tup [.nm 2, .nm 3, .nm 4]) (xVar 0)) (sRet (xAnd (xDef C_is_integer (cVa (xVar 1) (cNil))) (xAnd (xChain oLe oLe (xVar 2) (xVar 1) (xVar 3)) (xBin oEq (xBin oMod (xBin oSub (xVar 1) (xVar 2)) (xVar 4)) (xC (.int 0))))))
def rd_is_ahead : SS := sRet (xAnd (xDef C_is_integer (cVa (xVar 0) (cNil))) (xChain oLe oLt (xC (.int 0)) (xVar 0) (xVar 1)))
def rd_is_step : SS := sSeq (sIf (bOr (bNot (bX (xUn (oIsi .tuple) (xVar 0)))) (bOr (bX (xBin oEq (xVar 0) (xTup (aNil)))) (bNot (bX (xUn (oIsi .str) (xIxN 0 (xC (.int 0)))))))) (sRet (xC (.bool false))) (sPass)) (sSeq (sSet 2 (xIxN 0 (xC (.int 0)))) (sSeq (sIf (bX (xBin oEq (xVar 2) (xC (.str "in")))) (sRet (xDef C_is_span (cVa (xSl (xVar 0) (pAt (xC (.int 1))) (pNo)) (cNil)))) (sPass)) (sSeq (sIf (bX (xBin oEq (xVar 2) (xC (.str "is")))) (sRet (xAnd (xBin oEq (xLenN 0) (xC (.int 2))) (xDef C_is_number (cVa (xIxN 0 (xC (.int 1))) (cNil))))) (sPass)) (sSeq (sIf (bOr (bX (xBin oNe (xLenN 0) (xC (.int 3)))) (bNot (bX (xDef C_is_ahead (cVa (xIxN 0 (xC (.int 1))) (cVa (xVar 1) (cNil))))))) (sRet (xC (.bool false))) (sPass)) (sSeq (sIf (bX (xBin oEq (xVar 2) (xC (.str "times")))) (sRet (xAnd (xDef C_is_integer (cVa (xIxN 0 (xC (.int 2))) (cNil))) (xBin oLe (xCall fAbs (aCons (xIxN 0 (xC (.int 2))) (aNil))) (xC (.int (100000000000000000000)))))) (sPass)) (sRet (xAnd (xUn (oInC false [.str "sum", .str "less"]) (xVar 2)) (xDef C_is_ahead (cVa (xIxN 0 (xC (.int 2))) (cVa (xVar 1) (cNil)))))))))))
def rd_spans_of : SS := sRet (xLc (.nm 1) (iSeq (xVar 0)) (bX (xBin oEq (xIxN 1 (xC (.int 0))) (xC (.str "in")))) (xSl (xVar 1) (pAt (xC (.int 1))) (pNo)) [1])
def lp1_program_error : SS := sIf (bNot (bX (xDef C_is_step (cVa (xVar 2) (cVa (xVar 1) (cNil)))))) (sRet (xTup (aCons (xC (.str "step")) (aCons (xVar 1) (aNil))))) (sPass)
def rd_program_error : SS := sSeq (sIf (bOr (bNot (bX (xUn (oIsi .tuple) (xVar 0)))) (bNot (bX (xChain oLe oLe (xC (.int 1)) (xLenN 0) (xC (.int (30))))))) (sRet (xC (.str "form"))) (sPass)) (sSeq (sFor (.tup [.nm 1, .nm 2]) (iEnum (xVar 0)) lp1_program_error) (sRet (xIf (bX (xBin oGt (xCall fLen (aCons (xDef C_spans_of (cVa (xVar 0) (cNil))) aNil)) (xC (.int (12))))) (xC (.str "inputs")) (xC .none))))
def lp1_inputs_error : SS := sIf (bNot (bX (xDef C_is_held (cVa (xVar 4) (cVa (xIxN 1 (xVar 3)) (cNil)))))) (sRet (xTup (aCons (xC (.str "input")) (aCons (xVar 3) (aNil))))) (sPass)
def rd_inputs_error : SS := sSeq (sSet 2 (xDef C_spans_of (cVa (xVar 0) (cNil)))) (sSeq (sIf (bOr (bNot (bX (xUn (oIsi .tuple) (xVar 1)))) (bX (xBin oNe (xLenN 1) (xLenN 2)))) (sRet (xC (.str "form"))) (sPass)) (sSeq (sFor (.tup [.nm 3, .nm 4]) (iEnum (xVar 2)) lp1_inputs_error) (sRet (xC .none))))
def rd__law_pick : SS := sRet (xIxN 1 (xDef C__law_draw (cDk 0 (cVa (xLenN 1) (cNil)))))
def rd__law_span : SS := sSeq (sSet2 3 4 (xDef C__law_pick (cDk 0 (cVa (xLst (aCons (xC (.int 1)) (aCons (xC (.int 1)) (aCons (xC (.int 2)) (aCons (xC (.int 3)) (aCons (xC (.int 5)) (aCons (xC (.int 10)) (aCons (xC (.int 7)) (aNil))))))))) (cNil)))) (xBin oSub (xDef C__law_draw (cDk 0 (cVa (xBin oAdd (xBin oMul (xC (.int 2)) (xVar 1)) (xC (.int 1))) (cNil)))) (xVar 1))) (sSeq (sIf (bX (xBin oEq (xDef C__law_draw (cDk 0 (cVa (xC (.int 3)) (cNil)))) (xC (.int 0)))) (sSet 4 (xBin oMul (xVar 3) (xDef C__law_pick (cDk 0 (cVa (xLst (aCons (xC (.int 0)) (aCons (xC (.int 0)) (aCons (xUn oNeg (xC (.int 1))) (aCons (xUn oNeg (xVar 2)) (aCons (xC (.int 1)) (aCons (xC (.int 3)) (aNil)))))))) (cNil)))))) (sPass)) (sRet (xTup (aCons (xVar 4) (aCons (xBin oAdd (xVar 4) (xBin oMul (xVar 3) (xDef C__law_draw (cDk 0 (cVa (xVar 2) (cNil)))))) (aCons (xVar 3) (aNil)))))))
def lp1__law_program : SS := sSeq (sSet 8 (xIf (bX (xBin oGt (xVar 7) (xC (.int 0)))) (xDef C__law_pick (cDk 0 (cVa (xLst (aCons (xC (.str "in")) (aCons (xC (.str "in")) (aCons (xC (.str "is")) (aCons (xC (.str "sum")) (aCons (xC (.str "sum")) (aCons (xC (.str "less")) (aCons (xC (.str "times")) (aNil))))))))) (cNil)))) (xC (.str "in")))) (sIf (bAnd (bX (xBin oEq (xVar 8) (xC (.str "in")))) (bX (xBin oGt (xVar 6) (xC (.int 0))))) (sSeq (sUnp (.tup [.nm 9, .nm 10, .nm 11]) (xDef C__law_span (cDk 0 (cVa (xC (.int 30)) (cVa (xCall fMax2 (aCons (xC (.int 1)) (aCons (xCall fMin2 (aCons (xVar 5) (aCons (xC (.int 6)) (aNil)))) (aNil)))) (cNil)))))) (sSeq (sSet2 5 6 (xBin oDiv (xVar 5) (xBin oAdd (xBin oDiv (xBin oSub (xVar 10) (xVar 9)) (xVar 11)) (xC (.int 1)))) (xBin oSub (xVar 6) (xC (.int 1)))) (sExpr (xMth mAppend 4 (aCons (xTup (aCons (xC (.str "in")) (aCons (xVar 9) (aCons (xVar 10) (aCons (xVar 11) (aNil)))))) (aNil)))))) (sIf (bAnd (bX (xBin (oIn false) (xVar 8) (xTup (aCons (xC (.str "sum")) (aCons (xC (.str "less")) (aNil)))))) (bX (xBin oGt (xVar 7) (xC (.int 0))))) (sExpr (xMth mAppend 4 (aCons (xTup (aCons (xVar 8) (aCons (xDef C__law_draw (cDk 0 (cVa (xVar 7) (cNil)))) (aCons (xDef C__law_draw (cDk 0 (cVa (xVar 7) (cNil)))) (aNil))))) (aNil)))) (sIf (bAnd (bX (xBin oEq (xVar 8) (xC (.str "times")))) (bX (xBin oGt (xVar 7) (xC (.int 0))))) (sExpr (xMth mAppend 4 (aCons (xTup (aCons (xVar 8) (aCons (xDef C__law_draw (cDk 0 (cVa (xVar 7) (cNil)))) (aCons (xDef C__law_pick (cDk 0 (cVa (xVar 3) (cNil)))) (aNil))))) (aNil)))) (sExpr (xMth mAppend 4 (aCons (xTup (aCons (xC (.str "is")) (aCons (xBin oSub (xDef C__law_draw (cDk 0 (cVa (xC (.int 61)) (cNil)))) (xC (.int 30))) (aNil)))) (aNil)))))))
def rd__law_program : SS := sSeq (sSet3 4 5 6 (xLst (aNil)) (xVar 2) (xC (.int 12))) (sSeq (sFor (.nm 7) (iRng1 (xVar 1)) lp1__law_program) (sRet (xTupN 4)))
def rd__law_spans_of : SS := sRet (xLc (.nm 1) (iSeq (xVar 0)) (bX (xBin oEq (xIxN 1 (xC (.int 0))) (xC (.str "in")))) (xSl (xVar 1) (pAt (xC (.int 1))) (pNo)) [1])
def lp1__law_great : SS := sSeq (sSet 5 (xDef C__law_pick (cDk 0 (cVa (xLst (aCons (xC (.str "is")) (aCons (xC (.str "sum")) (aCons (xC (.str "sum")) (aCons (xC (.str "less")) (aCons (xC (.str "times")) (aNil))))))) (cNil))))) (sIf (bX (xBin oLt (xVar 4) (xVar 2))) (sSeq (sSet 6 (xDef C__law_pick (cDk 0 (cVa (xLst (aCons (xC (.int 1)) (aCons (xC (.int 2)) (aCons (xBin oPow (xC (.int 10)) (xC (.int 9))) (aCons (xBin oPow (xC (.int 10)) (xC (.int 30))) (aCons (xBin oPow (xC (.int 10)) (xC (.int 59))) (aCons (xBin oMul (xC (.int 7)) (xBin oPow (xC (.int 10)) (xC (.int 20)))) (aNil)))))))) (cNil))))) (sSeq (sSet 7 (xDef C__law_pick (cDk 0 (cVa (xLst (aCons (xC (.int 0)) (aCons (xBin oMul (xBin oDiv (xBin oPow (xC (.int 10)) (xC (.int 60))) (xVar 6)) (xVar 6)) (aCons (xVar 6) (aCons (xBin oMul (xC (.int 3)) (xVar 6)) (aNil)))))) (cNil))))) (sSeq (sSet 8 (xDef C__law_pick (cDk 0 (cVa (xLst (aCons (xC (.int 0)) (aCons (xUn oNeg (xVar 7)) (aCons (xVar 7) (aCons (xBin oMul (xUn oNeg (xBin oDiv (xBin oPow (xC (.int 10)) (xC (.int 60))) (xVar 6))) (xVar 6)) (aNil)))))) (cNil))))) (sExpr (xMth mAppend 3 (aCons (xTup (aCons (xC (.str "in")) (aCons (xCall fMin2 (aCons (xVar 8) (aCons (xVar 7) (aNil)))) (aCons (xCall fMax2 (aCons (xVar 8) (aCons (xVar 7) (aNil)))) (aCons (xVar 6) (aNil)))))) (aNil))))))) (sIf (bOr (bX (xBin oEq (xVar 5) (xC (.str "is")))) (bX (xBin oEq (xVar 4) (xC (.int 0))))) (sExpr (xMth mAppend 3 (aCons (xTup (aCons (xC (.str "is")) (aCons (xDef C__law_pick (cDk 0 (cVa (xLst (aCons (xC (.int 0)) (aCons (xBin oPow (xC (.int 10)) (xC (.int 60))) (aCons (xUn oNeg (xBin oPow (xC (.int 10)) (xC (.int 60)))) (aCons (xBin oPow (xC (.int 10)) (xC (.int 20))) (aCons (xC (.int 7)) (aCons (xUn oNeg (xC (.int 1))) (aNil)))))))) (cNil)))) (aNil)))) (aNil)))) (sIf (bX (xBin oEq (xVar 5) (xC (.str "times")))) (sExpr (xMth mAppend 3 (aCons (xTup (aCons (xVar 5) (aCons (xDef C__law_draw (cDk 0 (cVa (xVar 4) (cNil)))) (aCons (xDef C__law_pick (cDk 0 (cVa (xLst (aCons (xBin oPow (xC (.int 10)) (xC (.int 20))) (aCons (xUn oNeg (xBin oPow (xC (.int 10)) (xC (.int 20)))) (aCons (xC (.int 0)) (aCons (xC (.int 3)) (aCons (xUn oNeg (xC (.int 1))) (aCons (xBin oPow (xC (.int 10)) (xC (.int 9))) (aNil)))))))) (cNil)))) (aNil))))) (aNil)))) (sExpr (xMth mAppend 3 (aCons (xTup (aCons (xVar 5) (aCons (xBin oSub (xBin oSub (xVar 4) (xC (.int 1))) (xDef C__law_draw (cDk 0 (cVa (xCall fMin2 (aCons (xVar 4) (aCons (xC (.int 4)) (aNil)))) (cNil))))) (aCons (xDef C__law_draw (cDk 0 (cVa (xVar 4) (cNil)))) (aNil))))) (aNil)))))))
def rd__law_great : SS := sSeq (sSet 3 (xLst (aNil))) (sSeq (sFor (.nm 4) (iRng1 (xVar 1)) lp1__law_great) (sRet (xTupN 3)))
def lp1__law_some : SS := sSeq (sSet 6 (xBin oDiv (xBin oSub (xVar 4) (xVar 3)) (xVar 5))) (sExpr (xMth mAppend 2 (aCons (xBin oAdd (xVar 3) (xBin oMul (xVar 5) (xDef C__law_pick (cDk 0 (cVa (xLst (aCons (xC (.int 0)) (aCons (xVar 6) (aCons (xBin oDiv (xVar 6) (xC (.int 2))) (aCons (xCall fMin2 (aCons (xC (.int 1)) (aCons (xVar 6) (aNil)))) (aCons (xCall fMax2 (aCons (xC (.int 0)) (aCons (xBin oSub (xVar 6) (xC (.int 1))) (aNil)))) (aCons (xBin oDiv (xVar 6) (xC (.int 3))) (aNil)))))))) (cNil)))))) (aNil))))
def rd__law_some : SS := sSeq (sSet 2 (xLst (aNil))) (sSeq (sFor (.tup [.nm 3, .nm 4, .nm 5]) (iSeq (xVar 1)) lp1__law_some) (sRet (xTupN 2)))
def rd__law_is_whole : SS := sRet (xAnd (xUn (oIsi .int) (xVar 0)) (xAnd (xNot (xUn (oIsi .bool) (xVar 0))) (xChain oLe oLe (xVar 1) (xVar 0) (xVar 2))))
def rd__law_is_span : SS := sSeq (sIf (bOr (bX (xBin oNe (xLenN 0) (xC (.int 3)))) (bX (xUn (oNil true) (xLc (.nm 1) (iSeq (xSl (xVar 0) (pNo) (pAt (xC (.int 2))))) (bNot (bX (xDef C__law_is_whole (cVa (xVar 1) (cVa (xUn oNeg (xBin oPow (xC (.int 10)) (xC (.int 60)))) (cVa (xBin oPow (xC (.int 10)) (xC (.int 60))) (cNil))))))) (xC (.int 1)) [1])))) (sRet (xC (.bool false))) (sPass)) (sRet (xAnd (xBin oLe (xIxN 0 (xC (.int 0))) (xIxN 0 (xC (.int 1)))) (xAnd (xDef C__law_is_whole (cVa (xIxN 0 (xC (.int 2))) (cVa (xC (.int 1)) (cVa (xBin oPow (xC (.int 10)) (xC (.int 60))) (cNil))))) (xBin oEq (xBin oMod (xBin oSub (xIxN 0 (xC (.int 1))) (xIxN 0 (xC (.int 0)))) (xIxN 0 (xC (.int 2)))) (xC (.int 0))))))
def rd__law_is_step : SS := sSeq (sIf (bOr (bNot (bX (xUn (oIsi .tuple) (xVar 1)))) (bOr (bX (xBin oEq (xVar 1) (xTup (aNil)))) (bNot (bX (xUn (oIsi .str) (xIxN 1 (xC (.int 0)))))))) (sRet (xC (.bool false))) (sPass)) (sSeq (sSet 2 (xIxN 1 (xC (.int 0)))) (sSeq (sIf (bX (xBin oEq (xVar 2) (xC (.str "in")))) (sRet (xDef C__law_is_span (cVa (xSl (xVar 1) (pAt (xC (.int 1))) (pNo)) (cNil)))) (sPass)) (sSeq (sIf (bX (xBin oEq (xVar 2) (xC (.str "is")))) (sRet (xAnd (xBin oEq (xLenN 1) (xC (.int 2))) (xDef C__law_is_whole (cVa (xIxN 1 (xC (.int 1))) (cVa (xUn oNeg (xBin oPow (xC (.int 10)) (xC (.int 60)))) (cVa (xBin oPow (xC (.int 10)) (xC (.int 60))) (cNil))))))) (sPass)) (sSeq (sIf (bOr (bX (xBin (oIn true) (xVar 2) (xTup (aCons (xC (.str "sum")) (aCons (xC (.str "less")) (aCons (xC (.str "times")) (aNil))))))) (bOr (bX (xBin oNe (xLenN 1) (xC (.int 3)))) (bNot (bX (xDef C__law_is_whole (cVa (xIxN 1 (xC (.int 1))) (cVa (xC (.int 0)) (cVa (xBin oSub (xVar 0) (xC (.int 1))) (cNil))))))))) (sRet (xC (.bool false))) (sPass)) (sSeq (sIf (bX (xBin oEq (xVar 2) (xC (.str "times")))) (sRet (xDef C__law_is_whole (cVa (xIxN 1 (xC (.int 2))) (cVa (xUn oNeg (xBin oPow (xC (.int 10)) (xC (.int 20)))) (cVa (xBin oPow (xC (.int 10)) (xC (.int 20))) (cNil)))))) (sPass)) (sRet (xDef C__law_is_whole (cVa (xIxN 1 (xC (.int 2))) (cVa (xC (.int 0)) (cVa (xBin oSub (xVar 0) (xC (.int 1))) (cNil)))))))))))
def lp1__law_program_error : SS := sIf (bNot (bX (xDef C__law_is_step (cVa (xVar 1) (cVa (xVar 2) (cNil)))))) (sRet (xTup (aCons (xC (.str "step")) (aCons (xVar 1) (aNil))))) (sPass)
def rd__law_program_error : SS := sSeq (sIf (bOr (bNot (bX (xUn (oIsi .tuple) (xVar 0)))) (bNot (bX (xChain oLe oLe (xC (.int 1)) (xLenN 0) (xC (.int 30)))))) (sRet (xC (.str "form"))) (sPass)) (sSeq (sFor (.tup [.nm 1, .nm 2]) (iEnum (xVar 0)) lp1__law_program_error) (sRet (xIf (bX (xBin oGt (xCall fLen (aCons (xLc (.nm 2) (iSeq (xVar 0)) (bX (xBin oEq (xIxN 2 (xC (.int 0))) (xC (.str "in")))) (xC (.int 1)) [2]) aNil)) (xC (.int 12)))) (xC (.str "inputs")) (xC .none))))
def lp1__law_inputs_error : SS := sSeq (sUnp (.tup [.nm 5, .nm 6, .nm 7]) (xIxN 2 (xVar 3))) (sIf (bOr (bNot (bX (xDef C__law_is_whole (cVa (xVar 4) (cVa (xVar 5) (cVa (xVar 6) (cNil))))))) (bX (xBin oNe (xBin oMod (xBin oSub (xVar 4) (xVar 5)) (xVar 7)) (xC (.int 0))))) (sRet (xTup (aCons (xC (.str "input")) (aCons (xVar 3) (aNil))))) (sPass))
def rd__law_inputs_error : SS := sSeq (sSet 2 (xDef C__law_spans_of (cVa (xVar 0) (cNil)))) (sSeq (sIf (bOr (bNot (bX (xUn (oIsi .tuple) (xVar 1)))) (bX (xBin oNe (xLenN 1) (xLenN 2)))) (sRet (xC (.str "form"))) (sPass)) (sSeq (sFor (.tup [.nm 3, .nm 4]) (iEnum (xVar 1)) lp1__law_inputs_error) (sRet (xC .none))))
def rd__law_odd_step : SS := sSeq (sSet 2 (xBin oPow (xC (.int 10)) (xC (.int 60)))) (sSeq (sSet 3 (xLst (aCons (xTup (aCons (xC (.str "in")) (aCons (xC (.int 0)) (aCons (xC (.int 9)) (aCons (xC (.int 2)) (aNil)))))) (aCons (xTup (aCons (xC (.str "in")) (aCons (xC (.int 9)) (aCons (xC (.int 0)) (aCons (xC (.int 3)) (aNil)))))) (aCons (xTup (aCons (xC (.str "in")) (aCons (xC (.int 0)) (aCons (xC (.int 0)) (aCons (xC (.int 0)) (aNil)))))) (aCons (xTup (aCons (xC (.str "in")) (aCons (xC (.int 0)) (aCons (xC (.int 0)) (aCons (xVar 2) (aNil)))))) (aNil))))))) (sSeq (sSet 3 (xBin oAdd (xVar 3) (xLst (aCons (xTup (aCons (xC (.str "in")) (aCons (xC (.int 0)) (aCons (xC (.int 0)) (aCons (xBin oAdd (xVar 2) (xC (.int 1))) (aNil)))))) (aCons (xTup (aCons (xC (.str "in")) (aCons (xUn oNeg (xVar 2)) (aCons (xVar 2) (aCons (xC (.int 2)) (aNil)))))) (aNil)))))) (sSeq (sSet 3 (xBin oAdd (xVar 3) (xLst (aCons (xTup (aCons (xC (.str "in")) (aCons (xC (.int 0)) (aCons (xBin oAdd (xVar 2) (xC (.int 1))) (aCons (xC (.int 1)) (aNil)))))) (aCons (xTup (aCons (xC (.str "in")) (aCons (xBin oSub (xUn oNeg (xVar 2)) (xC (.int 1))) (aCons (xC (.int 0)) (aCons (xC (.int 1)) (aNil)))))) (aCons (xTup (aCons (xC (.str "in")) (aCons (xC (.int 0)) (aCons (xC (.bool true)) (aCons (xC (.int 1)) (aNil)))))) (aNil))))))) (sSeq (sSet 3 (xBin oAdd (xVar 3) (xLst (aCons (xTup (aCons (xC (.str "in")) (aCons (xC (.int 0)) (aCons (xC (.int 1)) (aCons (xC (.bool true)) (aNil)))))) (aCons (xTup (aCons (xC (.str "in")) (aCons (xC (.bool false)) (aCons (xC (.int 1)) (aCons (xC (.int 1)) (aNil)))))) (aNil)))))) (sSeq (sSet 3 (xBin oAdd (xVar 3) (xLst (aCons (xTup (aCons (xC (.str "in")) (aCons (xC (.int 0)) (aCons (xC (.int 1)) (aNil))))) (aCons (xTup (aCons (xC (.str "in")) (aCons (xC (.int 0)) (aCons (xC (.int 1)) (aCons (xC (.int 1)) (aCons (xC (.int 1)) (aNil))))))) (aCons (xLst (aCons (xC (.str "in")) (aCons (xC (.int 0)) (aCons (xC (.int 1)) (aCons (xC (.int 1)) (aNil)))))) (aNil))))))) (sSeq (sSet 3 (xBin oAdd (xVar 3) (xLst (aCons (xTup (aCons (xC (.str "in")) (aCons (xC (.int 0)) (aCons (xC (.int 9)) (aCons (xUn oNeg (xC (.int 3))) (aNil)))))) (aCons (xTup (aCons (xC (.str "in")) (aCons (xC .none) (aCons (xC (.int 1)) (aCons (xC (.int 1)) (aNil)))))) (aCons (xTup (aCons (xC (.str "in")) (aCons (xC (.str "0")) (aCons (xC (.int 1)) (aCons (xC (.int 1)) (aNil)))))) (aNil))))))) (sSeq (sSet 3 (xBin oAdd (xVar 3) (xLst (aCons (xTup (aCons (xC (.str "is")) (aCons (xVar 2) (aNil)))) (aCons (xTup (aCons (xC (.str "is")) (aCons (xBin oAdd (xVar 2) (xC (.int 1))) (aNil)))) (aCons (xTup (aCons (xC (.str "is")) (aCons (xUn oNeg (xVar 2)) (aNil)))) (aCons (xTup (aCons (xC (.str "is")) (aCons (xBin oSub (xUn oNeg (xVar 2)) (xC (.int 1))) (aNil)))) (aNil)))))))) (sSeq (sSet 3 (xBin oAdd (xVar 3) (xLst (aCons (xTup (aCons (xC (.str "is")) (aCons (xC (.bool true)) (aNil)))) (aCons (xTup (aCons (xC (.str "is")) (aNil))) (aCons (xTup (aCons (xC (.str "is")) (aCons (xC (.int 1)) (aCons (xC (.int 1)) (aNil))))) (aCons (xTup (aCons (xC (.str "is")) (aCons (xC (.str "7")) (aNil)))) (aNil)))))))) (sSeq (sSet 3 (xBin oAdd (xVar 3) (xLst (aCons (xTup (aCons (xC (.str "sum")) (aCons (xVar 1) (aCons (xC (.int 0)) (aNil))))) (aCons (xTup (aCons (xC (.str "sum")) (aCons (xC (.int 0)) (aCons (xVar 1) (aNil))))) (aCons (xTup (aCons (xC (.str "less")) (aCons (xUn oNeg (xC (.int 1))) (aCons (xC (.int 0)) (aNil))))) (aNil))))))) (sSeq (sSet 3 (xBin oAdd (xVar 3) (xLst (aCons (xTup (aCons (xC (.str "less")) (aCons (xC (.int 0)) (aCons (xC (.int 0)) (aNil))))) (aCons (xTup (aCons (xC (.str "sum")) (aCons (xC (.int 0)) (aCons (xC (.bool true)) (aNil))))) (aCons (xTup (aCons (xC (.str "sum")) (aCons (xC (.int 0)) (aNil)))) (aCons (xTup (aCons (xC (.str "sum")) (aNil))) (aNil)))))))) (sSeq (sSet 3 (xBin oAdd (xVar 3) (xLst (aCons (xTup (aCons (xC (.str "times")) (aCons (xC (.int 0)) (aCons (xBin oPow (xC (.int 10)) (xC (.int 20))) (aNil))))) (aCons (xTup (aCons (xC (.str "times")) (aCons (xC (.int 0)) (aCons (xBin oSub (xUn oNeg (xBin oPow (xC (.int 10)) (xC (.int 20)))) (xC (.int 1))) (aNil))))) (aNil)))))) (sSeq (sSet 3 (xBin oAdd (xVar 3) (xLst (aCons (xTup (aCons (xC (.str "times")) (aCons (xC (.int 0)) (aCons (xBin oAdd (xBin oPow (xC (.int 10)) (xC (.int 20))) (xC (.int 1))) (aNil))))) (aCons (xTup (aCons (xC (.str "times")) (aCons (xVar 1) (aCons (xC (.int 1)) (aNil))))) (aNil)))))) (sSeq (sSet 3 (xBin oAdd (xVar 3) (xLst (aCons (xTup (aCons (xC (.str "times")) (aCons (xC (.int 0)) (aCons (xC (.bool true)) (aNil))))) (aCons (xTup (aCons (xC (.str "times")) (aCons (xC (.int 0)) (aCons (xC (.int 0)) (aNil))))) (aCons (xTup (aCons (xC (.str "times")) (aCons (xC (.bool false)) (aCons (xC (.int 3)) (aNil))))) (aNil))))))) (sSeq (sSet 3 (xBin oAdd (xVar 3) (xLst (aCons (xTup (aCons (xC (.str "less")) (aCons (xC (.int 0)) (aCons (xC (.int 0)) (aCons (xC (.int 0)) (aNil)))))) (aCons (xTup (aCons (xC (.str "plus")) (aCons (xC (.int 0)) (aCons (xC (.int 0)) (aNil))))) (aCons (xTup (aCons (xC (.str "Sum")) (aCons (xC (.int 0)) (aCons (xC (.int 0)) (aNil))))) (aNil))))))) (sRet (xDef C__law_pick (cDk 0 (cVa (xBin oAdd (xVar 3) (xLst (aCons (xC .none) (aCons (xTup (aNil)) (aCons (xC (.int 7)) (aCons (xC (.str "sum")) (aCons (xTup (aCons (xLst (aCons (xC (.str "in")) (aNil))) (aCons (xC (.int 0)) (aCons (xC (.int 1)) (aCons (xC (.int 1)) (aNil)))))) (aCons (xC (.dict [])) (aCons (xTup (aCons (xTup (aNil)) (aNil))) (aCons (xTup (aCons (xC (.str "in")) (aNil))) (aCons (xTup (aCons (xTup (aCons (xC (.str "is")) (aCons (xC (.int 1)) (aNil)))) (aNil))) (aCons (xTup (aCons (xLst (aNil)) (aCons (xC (.int 0)) (aNil)))) (aNil))))))))))))) (cNil)))))))))))))))))))
def rd__law_odd_inputs : SS := sSeq (sSet 2 (xDef C__law_spans_of (cVa (xVar 1) (cNil)))) (sSeq (sSet 3 (xCall fList (aCons (xDef C__law_some (cDk 0 (cVa (xVar 2) (cNil)))) (aNil)))) (sSeq (sSet 4 (xLst (aCons (xC .none) (aCons (xLst (aNil)) (aCons (xC (.dict [])) (aCons (xC (.str "")) (aCons (xBin oMul (xTup (aCons (xC (.int 0)) (aNil))) (xC (.int 13))) (aCons (xCall fTuple (aCons (xAddN 3 (xLst (aCons (xC (.int 0)) (aNil)))) (aNil))) (aCons (xListN 3) (aCons (xCall fTuple (aCons (xSlN 3 (pAt (xC (.int 1))) (pNo)) (aNil))) (aCons (xBin oMul (xTup (aCons (xC .none) (aNil))) (xLenN 3)) (aCons (xC (.int 3)) (aNil))))))))))))) (sSeq (sIf (bAnd (bX (xNilN true 3)) (bX (xBin oGt (xDef C__law_draw (cDk 0 (cVa (xC (.int 3)) (cNil)))) (xC (.int 0))))) (sSeq (sSet 5 (xDef C__law_draw (cDk 0 (cVa (xLenN 3) (cNil))))) (sSeq (sUnp (.tup [.nm 6, .nm 7, .nm 8]) (xIxN 2 (xVar 5))) (sSeq (sSet 9 (xLst (aCons (xBin oSub (xVar 6) (xVar 8)) (aCons (xBin oAdd (xVar 7) (xVar 8)) (aCons (xBin oAdd (xVar 6) (xC (.int 1))) (aCons (xBin oSub (xVar 7) (xC (.int 1))) (aCons (xC (.bool true)) (aCons (xC (.bool false)) (aCons (xC .none) (aCons (xC (.str "0")) (aCons (xLst (aCons (xVar 6) (aNil))) (aCons (xVar 6) (aCons (xVar 7) (aNil)))))))))))))) (sSeq (sSetIx 3 (xVar 5) (xDef C__law_pick (cDk 0 (cVa (xVar 9) (cNil))))) (sRet (xTupN 3)))))) (sPass)) (sRet (xDef C__law_pick (cDk 0 (cVa (xVar 4) (cNil))))))))
def rd__law_is_judged : SS := sSeq (sSet2 2 3 (xUn oRepr (xVar 0)) (xDef C__law_program_error (cVa (xVar 0) (cNil)))) (sSeq (sSet 4 (xIf (bX (xVar 1)) (xDefK C_program_error [0] (cVa (xVar 0) (cNil))) (xDef C_program_error (cVa (xVar 0) (cNil))))) (sRet (xBin oEq (xUn oRepr (xLst (aCons (xVar 4) (aCons (xDef C_program_error (cVa (xVar 0) (cNil))) (aCons (xUn oRepr (xVar 0)) (aNil)))))) (xUn oRepr (xLst (aCons (xVar 3) (aCons (xVar 3) (aCons (xVar 2) (aNil)))))))))
def lp2_law : SS := sSeq (sSet 9 (xIf (bX (xBin oEq (xVar 8) (xC (.int 0)))) (xDef C__law_odd_inputs (cDk 1 (cVa (xVar 6) (cNil)))) (xDef C__law_some (cDk 1 (cVa (xDef C__law_spans_of (cVa (xVar 6) (cNil))) (cNil)))))) (sSeq (sSet2 10 11 (xUn oRepr (xLst (aCons (xVar 6) (aCons (xVar 9) (aNil))))) (xDef C__law_inputs_error (cVa (xVar 6) (cVa (xVar 9) (cNil))))) (sSeq (sSet 12 (xIf (bX (xBin oEq (xVar 5) (xC (.int 3)))) (xDefK C_inputs_error [1, 0] (cVa (xVar 9) (cVa (xVar 6) (cNil)))) (xDef C_inputs_error (cVa (xVar 6) (cVa (xVar 9) (cNil)))))) (sIf (bOr (bX (xBin oNe (xUn oRepr (xVar 12)) (xUn oRepr (xVar 11)))) (bX (xBin oNe (xUn oRepr (xLst (aCons (xVar 6) (aCons (xVar 9) (aNil))))) (xVar 10)))) (sRet (xC (.bool false))) (sPass))))
def lp1_law : SS := sSeq (sSet 6 (xDef C__law_program (cDk 1 (cVa (xBin oAdd (xC (.int 1)) (xDef C__law_draw (cDk 1 (cVa (xC (.int 8)) (cNil))))) (cVa (xC (.int 60)) (cVa (xLst (aCons (xC (.int 3)) (aCons (xUn oNeg (xC (.int 2))) (aCons (xC (.int 0)) (aCons (xBin oPow (xC (.int 10)) (xC (.int 20))) (aNil)))))) (cNil))))))) (sSeq (sSet 7 (xDef C__law_draw (cDk 1 (cVa (xBin oAdd (xLenN 6) (xC (.int 1))) (cNil))))) (sSeq (sSet 4 (xBin oAdd (xVar 4) (xLst (aCons (xVar 6) (aCons (xBin oAdd (xBin oAdd (xSl (xVar 6) (pNo) (pAt (xVar 7))) (xTup (aCons (xDef C__law_odd_step (cDk 1 (cVa (xVar 7) (cNil)))) (aNil)))) (xSl (xVar 6) (pAt (xBin oAdd (xVar 7) (xC (.int 1)))) (pNo))) (aCons (xSl (xVar 6) (pAt (xVar 7)) (pNo)) (aNil))))))) (sSeq (sSet 7 (xDef C__law_draw (cDk 1 (cVa (xC (.int 30)) (cNil))))) (sSeq (sSet 4 (xBin oAdd (xVar 4) (xLst (aCons (xBin oAdd (xBin oAdd (xSl (xVar 3) (pNo) (pAt (xVar 7))) (xTup (aCons (xDef C__law_odd_step (cDk 1 (cVa (xVar 7) (cNil)))) (aNil)))) (xSl (xVar 3) (pAt (xBin oAdd (xVar 7) (xC (.int 1)))) (pNo))) (aNil))))) (sFor (.nm 8) (iRng1 (xC (.int 2))) lp2_law)))))
def lp3_law : SS := sSeq (sSet 9 (xDef C__law_odd_inputs (cDk 1 (cVa (xVar 3) (cNil))))) (sIf (bX (xBin oNe (xUn oRepr (xDef C_inputs_error (cVa (xVar 3) (cVa (xVar 9) (cNil))))) (xUn oRepr (xDef C__law_inputs_error (cVa (xVar 3) (cVa (xVar 9) (cNil))))))) (sRet (xC (.bool false))) (sPass))
def rd_law : SS := sSeq (sSet 2 (xTup (aCons (xC (.str "in")) (aCons (xC (.int 0)) (aCons (xC (.int 1)) (aCons (xC (.int 1)) (aNil))))))) (sSeq (sSet 3 (xDef C__law_great (cDk 1 (cVa (xC (.int 30)) (cVa (xC (.int 12)) (cNil)))))) (sSeq (sSet 4 (xLst (aCons (xVar 3) (aCons (xBin oAdd (xVar 3) (xTup (aCons (xTup (aCons (xC (.str "is")) (aCons (xC (.int 0)) (aNil)))) (aNil)))) (aCons (xBin oMul (xTup (aCons (xVar 2) (aNil))) (xC (.int 12))) (aCons (xBin oMul (xTup (aCons (xVar 2) (aNil))) (xC (.int 13))) (aCons (xBin oAdd (xBin oMul (xTup (aCons (xVar 2) (aNil))) (xC (.int 13))) (xTup (aCons (xTup (aCons (xC (.str "sum")) (aCons (xC (.int 0)) (aCons (xC (.int 13)) (aNil))))) (aNil)))) (aCons (xBin oAdd (xSl (xVar 3) (pNo) (pAt (xC (.int 29)))) (xTup (aCons (xVar 2) (aNil)))) (aNil))))))))) (sSeq (sSet 4 (xBin oAdd (xVar 4) (xLst (aCons (xTup (aNil)) (aCons (xC .none) (aCons (xTup (aCons (xVar 2) (aCons (xTup (aCons (xC (.str "sum")) (aCons (xC (.int 0)) (aCons (xC (.int 0)) (aNil))))) (aNil)))) (aNil))))))) (sSeq (sSet 4 (xBin oAdd (xVar 4) (xLst (aCons (xCall fList (aCons (xVar 3) (aNil))) (aCons (xC (.str "program")) (aCons (xC (.int 7)) (aCons (xC (.dict [])) (aCons (xTup (aCons (xVar 2) (aCons (xC .none) (aNil)))) (aCons (xVar 2) (aCons (xBin oMul (xTup (aCons (xVar 2) (aNil))) (xC (.int 31))) (aCons (xTup (aCons (xTup (aCons (xC (.str "less")) (aCons (xC (.int 0)) (aCons (xC (.int 0)) (aNil))))) (aNil))) (aNil)))))))))))) (sSeq (sFor (.nm 5) (iRng1 (xC (.int 10))) lp1_law) (sSeq (sFor (.nm 5) (iRng1 (xC (.int 3))) lp3_law) (sRet (xUn (oNil false) (xLc (.tup [.nm 13, .nm 14]) (iEnum (xVar 4)) (bNot (bX (xDef C__law_is_judged (cVa (xVar 14) (cVa (xBin oEq (xBin oMod (xCall fInt (aCons (xVar 13) (aNil))) (xC (.int 5))) (xC (.int 2))) (cNil)))))) (xC (.int 1)) [13, 14])))))))))

end K35

namespace K35
open PySem DL
local macro_rules | `(tactic| walk_at "dl side") => `(tactic| first | assumption | omega | rfl | decide | (simp; done) | (simp; omega) | fail)
local macro_rules | `(tactic| walk_at "dl mul") => `(tactic| first | exact mul_l (by first | decide | omega) | exact mul_r (by first | decide | omega) | exact mul_b (by first | decide | omega) (by first | decide | omega))
local macro_rules | `(tactic| walk_at "dl div") => `(tactic| exact div_ok (by first | decide | omega) (by first | decide | omega))
local macro_rules | `(tactic| walk_at "dl go") => `(tactic| repeat (first | refine St.out ?_ | (with_reducible refine t_brbT (by first | assumption | with_unfolding_all rfl) ?_) | (with_reducible refine t_brbF (by first | assumption | with_unfolding_all rfl) ?_) | ((with_reducible refine And.intro ?_ ?_); focus (first | walk_at "dl mul" | walk_at "dl div" | walk_at "dl side" | fail)) | fail))
local macro_rules | `(tactic| walk_at "dl in") => `(tactic| (refine ⟨rfl, ?_⟩; simp only [List.map_cons, List.map_nil, List.replicate_succ, List.replicate_zero, List.cons_append, List.nil_append, List.append_nil]))
abbrev En0 (q : Rt → Prop) : Wd := { nx := fun _ => q (.va .none), rt := q }
theorem fin {q : Rt → Prop} {b b' : Bool} (h : q (bo b)) (e : b' = b) : q (.va (.bool b')) := by subst e; exact h
theorem p_is_integer (as : List Ar) (q : Rt → Prop) (h : C_is_integer as q) : as.length = 1 ∧ rd_is_integer (En0 q) (as.map Ar.en ++ List.replicate 0 .un) := by
  obtain ⟨d, rfl, h⟩ := h
  walk_at "dl in"
  unfold rd_is_integer
  cases d <;> walk_at "dl go" <;> exact h
instance t_is_integer {d : D} {k : Rt → Prop} : St (C_is_integer [.va d] k) (k (bo (isI d))) := ⟨fun h => ⟨d, rfl, h⟩⟩
theorem p_is_number (as : List Ar) (q : Rt → Prop) (h : C_is_number as q) : as.length = 1 ∧ rd_is_number (En0 q) (as.map Ar.en ++ List.replicate 0 .un) := by
  obtain ⟨d, rfl, h⟩ := h
  walk_at "dl in"
  unfold rd_is_number
  cases d with
  | int i =>
    walk_at "dl go"
    refine t_brb (fun e => ?_) (fun e => ?_) <;> walk_at "dl go" <;> exact fin h (by simp [rngB, big, e])
  | _ => walk_at "dl go"; exact h
instance t_is_number {d : D} {k : Rt → Prop} : St (C_is_number [.va d] k) (k (bo (numB d))) := ⟨fun h => ⟨d, rfl, h⟩⟩
theorem p_is_ahead (as : List Ar) (q : Rt → Prop) (h : C_is_ahead as q) : as.length = 2 ∧ rd_is_ahead (En0 q) (as.map Ar.en ++ List.replicate 0 .un) := by
  obtain ⟨d, p, rfl, h⟩ := h
  walk_at "dl in"
  unfold rd_is_ahead
  cases d with
  | int i =>
    have e2 : decide (i ≤ p - 1) = decide (i < p) := by
      by_cases z : i < p
      · rw [decide_eq_true z, decide_eq_true (by omega)]
      · rw [decide_eq_false z, decide_eq_false (by omega)]
    walk_at "dl go"
    refine t_brb (fun e => ?_) (fun e => ?_) <;> walk_at "dl go" <;> exact fin h (by simp [rngB, aheadB, e, e2])
  | _ => walk_at "dl go"; exact h
instance t_is_ahead {d : D} {p : Int} {k : Rt → Prop} : St (C_is_ahead [.va d, .va (.int p)] k) (k (bo (aheadB d p))) := ⟨fun h => ⟨d, p, rfl, h⟩⟩
theorem p__law_is_whole (as : List Ar) (q : Rt → Prop) (h : C__law_is_whole as q) : as.length = 3 ∧ rd__law_is_whole (En0 q) (as.map Ar.en ++ List.replicate 0 .un) := by
  obtain ⟨d, lo, hi, rfl, h⟩ := h
  walk_at "dl in"
  unfold rd__law_is_whole
  cases d with
  | int i =>
    walk_at "dl go"
    refine t_brb (fun e => ?_) (fun e => ?_) <;> walk_at "dl go" <;> exact fin h (by simp [rngB, big, e])
  | _ => walk_at "dl go"; exact h
instance t__law_is_whole {d : D} {lo hi : Int} {k : Rt → Prop} : St (C__law_is_whole [.va d, .va (.int lo), .va (.int hi)] k) (k (bo (rngB d lo hi))) := ⟨fun h => ⟨d, lo, hi, rfl, h⟩⟩
theorem num_int {d : D} {lo hi : Int} (h : rngB d lo hi = true) : ∃ i, d = .int i := by
  cases d <;> first | exact ⟨_, rfl⟩ | (simp [rngB] at h)
theorem p_is_held (as : List Ar) (q : Rt → Prop) (h : C_is_held as q) : as.length = 2 ∧ rd_is_held (En0 q) (as.map Ar.en ++ List.replicate 3 .un) := by
  obtain ⟨sp, d, rfl, ⟨lo, hi, s, rfl, hs, _⟩, h⟩ := h
  walk_at "dl in"
  unfold rd_is_held
  cases d with
  | int i =>
    walk_at "dl go"
    refine t_brb (fun e => ?_) (fun e => ?_) <;> walk_at "dl go"
    · refine t_brb (fun e2 => ?_) (fun e2 => ?_) <;> walk_at "dl go"
      · exact fin h (by simp [heldB, e, e2])
      · exact fin h (by simp [heldB, e, e2])
    · exact fin h (by simp [heldB, e])
  | _ => walk_at "dl go"; exact h
instance t_is_held {lo hi s : Int} {d : D} {k : Rt → Prop} : St (C_is_held [.va (.tuple [.int lo, .int hi, .int s]), .va d] k) ((0 < s ∧ s.natAbs < 10 ^ 61 ∧ lo.natAbs < 10 ^ 61 ∧ hi.natAbs < 10 ^ 61) ∧ k (bo (heldB (.tuple [.int lo, .int hi, .int s]) d))) := ⟨fun h => ⟨_, d, rfl, ⟨lo, hi, s, rfl, h.1⟩, h.2⟩⟩
theorem p_is_span (as : List Ar) (q : Rt → Prop) (h : C_is_span as q) : as.length = 1 ∧ rd_is_span (En0 q) (as.map Ar.en ++ List.replicate 3 .un) := by
  obtain ⟨d, rfl, h⟩ := h
  walk_at "dl in"
  unfold rd_is_span
  cases d with
  | tuple ds =>
    match ds, h with
    | [], h => walk_at "dl go"; exact h
    | [_], h => walk_at "dl go"; exact h
    | [_, _], h => walk_at "dl go"; exact h
    | a :: b :: c :: e :: r, h =>
      walk_at "dl go"
      exact h
    | [a, b, c], h =>
      walk_at "dl go"
      refine t_brb (fun e1 => ?_) (fun e1 => ?_)
      · walk_at "dl go"
        rw [Bool.not_eq_true'] at e1
        exact fin h (by simp [spanB, spanL, span3, e1])
      · rw [Bool.not_eq_false'] at e1
        walk_at "dl go"
        refine t_brb (fun e2 => ?_) (fun e2 => ?_)
        · walk_at "dl go"
          rw [Bool.not_eq_true'] at e2
          exact fin h (by simp [spanB, spanL, span3, e1, e2])
        · rw [Bool.not_eq_false'] at e2
          obtain ⟨i, rfl⟩ := num_int e1
          obtain ⟨j, rfl⟩ := num_int e2
          walk_at "dl go"
          cases c with
          | int s =>
            walk_at "dl go"
            refine t_brb (fun e3 => ?_) (fun e3 => ?_)
            · walk_at "dl go"
              refine t_brb (fun e4 => ?_) (fun e4 => ?_)
              · walk_at "dl go"
                refine t_brb (fun e5 => ?_) (fun e5 => ?_)
                · walk_at "dl go"
                  refine ⟨by have := of_decide_eq_true e3; omega, ?_⟩
                  walk_at "dl go"
                  exact fin h (by simp [spanB, spanL, span3, modB, e1, e2, e3, e4, e5, big])
                · walk_at "dl go"
                  exact fin h (by simp [spanB, spanL, span3, modB, e1, e2, e3, e4, e5, big])
              · walk_at "dl go"
                exact fin h (by simp [spanB, spanL, span3, modB, e1, e2, e3, e4, big])
            · walk_at "dl go"
              exact fin h (by simp [spanB, spanL, span3, modB, e1, e2, e3, big])
          | _ => walk_at "dl go"; exact fin h (by simp [spanB, spanL, span3, e1, e2])
  | _ => walk_at "dl go"; exact h
instance t_is_span {d : D} {k : Rt → Prop} : St (C_is_span [.va d] k) (k (bo (spanB d))) := ⟨fun h => ⟨d, rfl, h⟩⟩

end K35

namespace K35
open PySem DL
local macro_rules | `(tactic| walk_at "dl side") => `(tactic| first | assumption | omega | rfl | decide | (simp; done) | (simp; omega) | fail)
local macro_rules | `(tactic| walk_at "dl mul") => `(tactic| first | exact mul_l (by first | decide | omega) | exact mul_r (by first | decide | omega) | exact mul_b (by first | decide | omega) (by first | decide | omega))
local macro_rules | `(tactic| walk_at "dl div") => `(tactic| exact div_ok (by first | decide | omega) (by first | decide | omega))
local macro_rules | `(tactic| walk_at "dl go") => `(tactic| repeat (first | refine St.out ?_ | (with_reducible refine t_brbT (by first | assumption | with_unfolding_all rfl) ?_) | (with_reducible refine t_brbF (by first | assumption | with_unfolding_all rfl) ?_) | ((with_reducible refine And.intro ?_ ?_); focus (first | walk_at "dl mul" | walk_at "dl div" | walk_at "dl side" | fail)) | fail))
local macro_rules | `(tactic| walk_at "dl in") => `(tactic| (refine ⟨rfl, ?_⟩; simp only [List.map_cons, List.map_nil, List.replicate_succ, List.replicate_zero, List.cons_append, List.nil_append, List.append_nil]))
theorem not_t {b : Bool} (e : (!b) = true) : b = false := by rw [Bool.not_eq_true'] at e; exact e
theorem not_f {b : Bool} (e : (!b) = false) : b = true := by rw [Bool.not_eq_false'] at e; exact e
theorem dec_t {p : Prop} [Decidable p] (e : decide p = true) : p := of_decide_eq_true e
theorem dec_f {p : Prop} [Decidable p] (e : decide p = false) : ¬ p := of_decide_eq_false e
theorem cut1 {d : D} {ds : List D} : cutL (d :: ds) (some 1) none = ds := by
  have e : slAt (d :: ds).length 0 (some 1) = 1 := by
    show (if (1 : Int) < 0 then ((1 : Int) + ((d :: ds).length : Nat)).toNat else min (1 : Int).toNat (d :: ds).length) = 1
    rw [if_neg (by decide)]
    show min 1 (ds.length + 1) = 1
    omega
  unfold cutL
  rw [e]
  show (ds.take ((d :: ds).length - 1)) = ds
  rw [List.length_cons, Nat.add_sub_cancel, List.take_length]
theorem eqv_nil {d : D} {ds : List D} : PyData.eqv (.tuple (d :: ds)) (.tuple []) = false := by simp [PyData.eqv, PyData.eqvAll]
theorem sh_nil : SeqAt.shaped (.tuple []) = true := by decide
theorem p_is_step (as : List Ar) (q : Rt → Prop) (h : C_is_step as q) : as.length = 2 ∧ rd_is_step (En0 q) (as.map Ar.en ++ List.replicate 1 .un) := by
  obtain ⟨d, p, rfl, ok, h⟩ := h
  walk_at "dl in"
  unfold rd_is_step
  cases d with
  | tuple ds =>
    walk_at "dl go"
    refine t_eqG (ok _ rfl) sh_nil ?_
    walk_at "dl go"
    match ds, h with
    | [], h => walk_at "dl go"; exact h
    | a :: r, h =>
      rw [eqv_nil]
      walk_at "dl go"
      cases a with
      | str w =>
        walk_at "dl go"
        refine t_brb (fun e => ?_) (fun e => ?_)
        · walk_at "dl go"
          rw [cut1]
          exact fin h (by simp [stepB, stepL, e, spanB, dec_t e])
        · have e' := dec_f e
          walk_at "dl go"
          refine t_brb (fun e2 => ?_) (fun e2 => ?_)
          · walk_at "dl go"
            have e2' := dec_t e2
            subst e2'
            match r, h with
            | [], h => walk_at "dl go"; exact h
            | [x], h => walk_at "dl go"; exact h
            | _ :: _ :: _, h => walk_at "dl go"; exact h
          · have e2' := dec_f e2
            walk_at "dl go"
            match r, h with
            | [], h => walk_at "dl go"; exact fin h (by simp [stepB, stepL, e', e2', restB])
            | [x], h => walk_at "dl go"; exact fin h (by simp [stepB, stepL, e', e2', restB])
            | _ :: _ :: _ :: _, h => walk_at "dl go"; exact fin h (by simp [stepB, stepL, e', e2', restB])
            | [x, y], h =>
              walk_at "dl go"
              refine t_brb (fun e3 => ?_) (fun e3 => ?_)
              · walk_at "dl go"
                exact fin h (by simp [stepB, stepL, e', e2', restB, not_t e3])
              · have e3' : aheadB x p = true := not_f e3
                walk_at "dl go"
                refine t_brb (fun e4 => ?_) (fun e4 => ?_)
                · have e4' := dec_t e4
                  walk_at "dl go"
                  cases y with
                  | int i =>
                    walk_at "dl go"
                    refine fin h ?_
                    have z : decide ((if i < 0 then -i else i) ≤ fac) = (decide (-fac ≤ i) && decide (i ≤ fac)) := by
                      rw [← Bool.decide_and]
                      refine decide_eq_decide.mpr ?_
                      unfold fac
                      split <;> omega
                    simp only [stepB, stepL, e', e2', restB, e3', e4', if_false, if_true, Bool.true_and, rngB]
                    exact z
                  | _ => walk_at "dl go"; exact fin h (by simp only [stepB, stepL, if_neg e', if_neg e2', restB, e3', if_pos e4', Bool.true_and, rngB])
                · have e4' := dec_f e4
                  walk_at "dl go"
                  refine t_brb (fun e5 => ?_) (fun e5 => ?_)
                  · walk_at "dl go"
                    have z : (decide (w = "sum") || decide (w = "less")) = true := by
                      simp only [List.any_cons, List.any_nil, Bool.or_false, PyData.eqv, str_dec, if_false] at e5
                      rw [← e5]
                      congr 1 <;> exact decide_eq_decide.mpr eq_comm
                    exact fin h (by simp only [stepB, stepL, e', e2', restB, e3', e4', z, if_false, Bool.true_and])
                  · walk_at "dl go"
                    have z : (decide (w = "sum") || decide (w = "less")) = false := by
                      simp only [List.any_cons, List.any_nil, Bool.or_false, PyData.eqv, str_dec, if_false] at e5
                      rw [← e5]
                      congr 1 <;> exact decide_eq_decide.mpr eq_comm
                    exact fin h (by simp only [stepB, stepL, e', e2', restB, e3', e4', z, if_false, Bool.true_and, Bool.false_and])
      | _ => walk_at "dl go"; exact h
  | _ => walk_at "dl go"; exact h

end K35

namespace K35
open PySem DL
local macro_rules | `(tactic| walk_at "dl side") => `(tactic| first | assumption | omega | rfl | decide | (simp; done) | (simp; omega) | fail)
local macro_rules | `(tactic| walk_at "dl mul") => `(tactic| first | exact mul_l (by first | decide | omega) | exact mul_r (by first | decide | omega) | exact mul_b (by first | decide | omega) (by first | decide | omega))
local macro_rules | `(tactic| walk_at "dl div") => `(tactic| exact div_ok (by first | decide | omega) (by first | decide | omega))
local macro_rules | `(tactic| walk_at "dl go") => `(tactic| repeat (first | refine St.out ?_ | (with_reducible refine t_brbT (by first | assumption | with_unfolding_all rfl) ?_) | (with_reducible refine t_brbF (by first | assumption | with_unfolding_all rfl) ?_) | ((with_reducible refine And.intro ?_ ?_); focus (first | walk_at "dl mul" | walk_at "dl div" | walk_at "dl side" | fail)) | fail))
local macro_rules | `(tactic| walk_at "dl in") => `(tactic| (refine ⟨rfl, ?_⟩; simp only [List.map_cons, List.map_nil, List.replicate_succ, List.replicate_zero, List.cons_append, List.nil_append, List.append_nil]))
instance t_is_step {d : D} {p : Int} {k : Rt → Prop} : St (C_is_step [.va d, .va (.int p)] k) (tok d ∧ k (bo (stepB d p))) := ⟨fun h => ⟨d, p, rfl, h.1, h.2⟩⟩
theorem mem_at {α : Type} {l : List α} {j : Nat} {d : α} (e : l[j]? = some d) : d ∈ l := List.mem_of_getElem? e
theorem spans_run {ds : List D} {k : List D → Ev → Prop} {ρ : Ev} (hl : ds.length ≤ 1000) (hn : ∀ x ∈ ds, named x) (hr : ρ = [.va (.tuple ds), .un]) (hk : k (spansOf ds) ρ) :
    lcL (.nm 1) (bX (xBin oEq (xIxN 1 (xC (.int 0))) (xC (.str "in")))) (xSl (xVar 1) (pAt (xC (.int 1))) (pNo)) [1] ds [] ρ k := by
  subst hr
  refine lcL_fm spF (by omega) (fun j d acc G e hl h1 h2 => ?_) hk
  obtain ⟨w, r, rfl⟩ := hn d (mem_at e)
  walk_at "dl go"
  refine t_brb (fun e => ?_) (fun e => ?_)
  · walk_at "dl go"
    refine h1 _ ?_
    rw [cut1, spF, isIn, e]
    rfl
  · exact h2 (by simp only [spF, isIn, e]; rfl)
theorem p_spans_of (as : List Ar) (q : Rt → Prop) (h : C_spans_of as q) : as.length = 1 ∧ rd_spans_of (En0 q) (as.map Ar.en ++ List.replicate 1 .un) := by
  obtain ⟨ds, rfl, hl, hn, h⟩ := h
  walk_at "dl in"
  unfold rd_spans_of
  walk_at "dl go"
  exact spans_run hl hn rfl h
theorem p__law_spans_of (as : List Ar) (q : Rt → Prop) (h : C__law_spans_of as q) : as.length = 1 ∧ rd__law_spans_of (En0 q) (as.map Ar.en ++ List.replicate 1 .un) := p_spans_of as q h
instance t_spans_of {ds : List D} {k : Rt → Prop} : St (C_spans_of [.va (.tuple ds)] k) ((ds.length ≤ 1000 ∧ ∀ x ∈ ds, named x) ∧ k (.ow (spansOf ds))) := ⟨fun h => ⟨ds, rfl, h.1.1, h.1.2, h.2⟩⟩
instance t__law_spans_of {ds : List D} {k : Rt → Prop} : St (C__law_spans_of [.va (.tuple ds)] k) ((ds.length ≤ 1000 ∧ ∀ x ∈ ds, named x) ∧ k (.ow (spansOf ds))) := t_spans_of
theorem step_named {d : D} {p : Int} (h : stepB d p = true) : named d := by
  cases d with
  | tuple ds =>
    match ds, h with
    | [], h => cases h
    | .str w :: r, h => exact ⟨w, r, rfl⟩
    | .none :: r, h => cases h
    | .bool _ :: r, h => cases h
    | .int _ :: r, h => cases h
    | .list _ :: r, h => cases h
    | .tuple _ :: r, h => cases h
    | .dict _ :: r, h => cases h
  | _ => cases h
theorem bad_none : ∀ {ds : List D} {n : Nat}, badAt n ds = none → ∀ x ∈ ds, named x
  | [], _, _, x, hx => by cases hx
  | d :: ds, n, h, x, hx => by
    rw [badAt] at h
    split at h
    · rename_i e
      rcases List.mem_cons.mp hx with rfl | hx
      · exact step_named e
      · exact bad_none h x hx
    · cases h
theorem p_program_error (as : List Ar) (q : Rt → Prop) (h : C_program_error as q) : as.length = 1 ∧ rd_program_error (En0 q) (as.map Ar.en ++ List.replicate 2 .un) := by
  obtain ⟨d, rfl, ok, h⟩ := h
  walk_at "dl in"
  unfold rd_program_error
  cases d with
  | tuple ds =>
    obtain ⟨hl, hs⟩ := ok ds rfl
    walk_at "dl go"
    refine t_brb (fun e => ?_) (fun e => ?_)
    · walk_at "dl go"
      refine t_brb (fun e2 => ?_) (fun e2 => ?_)
      · have e2' := dec_f (not_t e2)
        have w : progE (.tuple ds) = .str "form" := by rw [progE, if_neg (by omega)]
        rw [w] at h
        walk_at "dl go"
        exact h
      · have e2' := dec_t (not_f e2)
        have e1' := dec_t e
        have hb : 1 ≤ ds.length ∧ ds.length ≤ 30 := by omega
        walk_at "dl go"
        refine forL_of (fun n ρ => (∃ x y, ρ = [.va (.tuple ds), x, y]) ∧ badAt 0 ds = badAt n (ds.drop n)) _ 0 _ ⟨⟨_, _, rfl⟩, rfl⟩ ?_ ?_
        · rintro j d ρ N C e ⟨⟨x, y, rfl⟩, hI⟩ h1 h2
          obtain ⟨z, ez, rfl⟩ := enum_get e
          rw [Nat.zero_add] at hI h1
          rw [drop_one ez, badAt] at hI
          unfold lp1_program_error
          walk_at "dl go"
          try refine ⟨hs z (mem_at ez), ?_⟩
          walk_at "dl go"
          refine t_brb (fun e => ?_) (fun e => ?_)
          · rw [not_t e] at hI
            walk_at "dl go"
            have w : progE (.tuple ds) = .tuple [.str "step", .int j] := by rw [progE, if_pos hb, hI]; rfl
            rw [w] at h
            exact h
          · rw [not_f e] at hI
            walk_at "dl go"
            exact h1 _ ⟨⟨_, _, rfl⟩, hI⟩
        · rintro ρ ⟨⟨x, y, rfl⟩, hI⟩
          rw [Nat.zero_add, List.drop_eq_nil_of_le (by simp), badAt] at hI
          walk_at "dl go"
          refine ⟨⟨hl, bad_none hI⟩, ?_⟩
          walk_at "dl go"
          have w : progE (.tuple ds) = if 12 < (spansOf ds).length then .str "inputs" else .none := by rw [progE, if_pos hb, hI]
          rw [w] at h
          refine t_brb (fun e => ?_) (fun e => ?_)
          · rw [if_pos (by have := dec_t e; omega)] at h
            walk_at "dl go"
            exact h
          · rw [if_neg (by have := dec_f e; omega)] at h
            walk_at "dl go"
            exact h
    · have e1' := dec_f e
      have w : progE (.tuple ds) = .str "form" := by rw [progE, if_neg (by omega)]
      rw [w] at h
      walk_at "dl go"
      exact h
  | _ => walk_at "dl go"; exact h

end K35

namespace K35
open PySem DL
local macro_rules | `(tactic| walk_at "dl side") => `(tactic| first | assumption | omega | rfl | decide | (simp; done) | (simp; omega) | fail)
local macro_rules | `(tactic| walk_at "dl mul") => `(tactic| first | exact mul_l (by first | decide | omega) | exact mul_r (by first | decide | omega) | exact mul_b (by first | decide | omega) (by first | decide | omega))
local macro_rules | `(tactic| walk_at "dl div") => `(tactic| exact div_ok (by first | decide | omega) (by first | decide | omega))
local macro_rules | `(tactic| walk_at "dl go") => `(tactic| repeat (first | refine St.out ?_ | (with_reducible refine t_brbT (by first | assumption | with_unfolding_all rfl) ?_) | (with_reducible refine t_brbF (by first | assumption | with_unfolding_all rfl) ?_) | ((with_reducible refine And.intro ?_ ?_); focus (first | walk_at "dl mul" | walk_at "dl div" | walk_at "dl side" | fail)) | fail))
local macro_rules | `(tactic| walk_at "dl in") => `(tactic| (refine ⟨rfl, ?_⟩; simp only [List.map_cons, List.map_nil, List.replicate_succ, List.replicate_zero, List.cons_append, List.nil_append, List.append_nil]))
theorem spans_ok {ds : List D} (h : ∀ x ∈ ds, named x ∧ (isIn x = true → spanOk (spanOf x))) : ∀ sp ∈ spansOf ds, spanOk sp := by
  intro sp hsp
  obtain ⟨x, hx, e⟩ := List.mem_filterMap.mp hsp
  unfold spF at e
  by_cases z : isIn x = true
  · rw [if_pos z] at e
    cases e
    exact (h x hx).2 z
  · rw [if_neg z] at e
    cases e
theorem bad_step {n : Nat} {sps es : List D} {j : Nat} {sp y : D} (e1 : sps[j]? = some sp) (e2 : es[j]? = some y) : badIn n (sps.drop j) (es.drop j) = if heldB sp y then badIn (n + 1) (sps.drop (j + 1)) (es.drop (j + 1)) else some n := by
  rw [drop_one e1, drop_one e2, badIn]
theorem bad_nilL {n : Nat} {l : List D} : badIn n [] l = none := by cases l <;> rfl
theorem bad_nilR {n : Nat} {l : List D} : badIn n l [] = none := by cases l <;> rfl
theorem at_len {α : Type} {l : List α} {j : Nat} (h : j < l.length) : ∃ y, l[j]? = some y := ⟨l[j], List.getElem?_eq_getElem h⟩
theorem lt_len {α : Type} {l : List α} {j : Nat} {y : α} (h : l[j]? = some y) : j < l.length := (List.getElem?_eq_some_iff.mp h).1
theorem p_inputs_error (as : List Ar) (q : Rt → Prop) (h : C_inputs_error as q) : as.length = 2 ∧ rd_inputs_error (En0 q) (as.map Ar.en ++ List.replicate 3 .un) := by
  obtain ⟨ds, d, rfl, hl, ok, h⟩ := h
  have sok := spans_ok ok
  walk_at "dl in"
  unfold rd_inputs_error
  walk_at "dl go"
  refine ⟨⟨hl, fun x hx => (ok x hx).1⟩, ?_⟩
  walk_at "dl go"
  generalize spansOf ds = sps at h sok
  cases d with
  | tuple es =>
    walk_at "dl go"
    refine t_brb (fun e => ?_) (fun e => ?_)
    · have e' := dec_f (not_t e)
      have w : inpE sps (.tuple es) = .str "form" := by rw [inpE, if_neg (by omega)]
      rw [w] at h
      walk_at "dl go"
      exact h
    · have e' := dec_t (not_f e)
      have el : es.length = sps.length := by omega
      walk_at "dl go"
      refine forL_of (fun n ρ => (∃ x y, ρ = [.va (.tuple ds), .va (.tuple es), .va (.list sps), x, y]) ∧ badIn 0 sps es = badIn n (sps.drop n) (es.drop n)) _ 0 _ ⟨⟨_, _, rfl⟩, rfl⟩ ?_ ?_
      · rintro j d ρ N C e ⟨⟨x, y, rfl⟩, hI⟩ h1 h2
        obtain ⟨sp, ez, rfl⟩ := enum_get e
        obtain ⟨y0, ey⟩ := at_len (l := es) (j := j) (by rw [el]; exact lt_len ez)
        rw [Nat.zero_add] at hI h1
        rw [bad_step ez ey] at hI
        unfold lp1_inputs_error
        obtain ⟨lo, hi, s, rfl, b1, b2, b3, b4⟩ := sok sp (mem_at ez)
        walk_at "dl go"
        refine ixAt_of rfl ey ?_
        walk_at "dl go"
        try refine ⟨⟨b1, b2, b3, b4⟩, ?_⟩
        walk_at "dl go"
        refine t_brb (fun e => ?_) (fun e => ?_)
        · rw [not_t e] at hI
          walk_at "dl go"
          have w : inpE sps (.tuple es) = .tuple [.str "input", .int j] := by rw [inpE, if_pos el, hI]; rfl
          rw [w] at h
          exact h
        · rw [not_f e] at hI
          walk_at "dl go"
          exact h1 _ ⟨⟨_, _, rfl⟩, hI⟩
      · rintro ρ ⟨⟨x, y, rfl⟩, hI⟩
        rw [Nat.zero_add, List.drop_eq_nil_of_le (as := sps) (by simp), bad_nilL] at hI
        walk_at "dl go"
        have w : inpE sps (.tuple es) = .none := by rw [inpE, if_pos el, hI]
        rw [w] at h
        exact h
  | _ => walk_at "dl go"; exact h
instance t_inputs_error {ds : List D} {d : D} {k : Rt → Prop} : St (C_inputs_error [.va (.tuple ds), .va d] k) ((ds.length ≤ 1000 ∧ ∀ x ∈ ds, named x ∧ (isIn x = true → spanOk (spanOf x))) ∧ k (.va (inpE (spansOf ds) d))) := ⟨fun h => ⟨ds, d, rfl, h.1.1, h.1.2, h.2⟩⟩
instance t__law_inputs_error {ds : List D} {d : D} {k : Rt → Prop} : St (C__law_inputs_error [.va (.tuple ds), .va d] k) ((ds.length ≤ 1000 ∧ ∀ x ∈ ds, named x ∧ (isIn x = true → spanOk (spanOf x))) ∧ k (.va (inpE (spansOf ds) d))) := t_inputs_error
theorem p__law_inputs_error (as : List Ar) (q : Rt → Prop) (h : C__law_inputs_error as q) : as.length = 2 ∧ rd__law_inputs_error (En0 q) (as.map Ar.en ++ List.replicate 6 .un) := by
  obtain ⟨ds, d, rfl, hl, ok, h⟩ := h
  have sok := spans_ok ok
  walk_at "dl in"
  unfold rd__law_inputs_error
  walk_at "dl go"
  refine ⟨⟨hl, fun x hx => (ok x hx).1⟩, ?_⟩
  walk_at "dl go"
  generalize spansOf ds = sps at h sok
  cases d with
  | tuple es =>
    walk_at "dl go"
    refine t_brb (fun e => ?_) (fun e => ?_)
    · have e' := dec_f (not_t e)
      have w : inpE sps (.tuple es) = .str "form" := by rw [inpE, if_neg (by omega)]
      rw [w] at h
      walk_at "dl go"
      exact h
    · have e' := dec_t (not_f e)
      have el : es.length = sps.length := by omega
      walk_at "dl go"
      refine forL_of (fun n ρ => (∃ x y a b c, ρ = [.va (.tuple ds), .va (.tuple es), .ow sps, x, y, a, b, c]) ∧ badIn 0 sps es = badIn n (sps.drop n) (es.drop n)) _ 0 _ ⟨⟨_, _, _, _, _, rfl⟩, rfl⟩ ?_ ?_
      · rintro j d ρ N C e ⟨⟨x, y, a, b, c, rfl⟩, hI⟩ h1 h2
        obtain ⟨y0, ey, rfl⟩ := enum_get e
        obtain ⟨sp, ez⟩ := at_len (l := sps) (j := j) (by rw [← el]; exact lt_len ey)
        rw [Nat.zero_add] at hI h1
        rw [bad_step ez ey] at hI
        unfold lp1__law_inputs_error
        obtain ⟨lo, hi, s, rfl, b1, b2, b3, b4⟩ := sok sp (mem_at ez)
        walk_at "dl go"
        refine ixAt_of rfl ez ?_
        walk_at "dl go"
        refine t_brb (fun e => ?_) (fun e => ?_)
        · have e1 := not_t e
          have hb : heldB (.tuple [.int lo, .int hi, .int s]) y0 = false := by
            cases y0 with
            | int i =>
              rw [rngB] at e1
              rw [heldB, ← Bool.and_assoc, e1, Bool.false_and]
            | _ => rfl
          rw [hb] at hI
          walk_at "dl go"
          have w : inpE sps (.tuple es) = .tuple [.str "input", .int j] := by rw [inpE, if_pos el, hI]; rfl
          rw [w] at h
          exact h
        · have e1 := not_f e
          obtain ⟨i, rfl⟩ := num_int e1
          rw [rngB] at e1
          walk_at "dl go"
          try refine ⟨b1, ?_⟩
          walk_at "dl go"
          refine t_brb (fun e => ?_) (fun e => ?_)
          · have e2 := not_t e
            have hb : heldB (.tuple [.int lo, .int hi, .int s]) (.int i) = false := by rw [heldB, ← Bool.and_assoc, e1, Bool.true_and, e2]
            rw [hb] at hI
            walk_at "dl go"
            have w : inpE sps (.tuple es) = .tuple [.str "input", .int j] := by rw [inpE, if_pos el, hI]; rfl
            rw [w] at h
            exact h
          · have e2 := not_f e
            have hb : heldB (.tuple [.int lo, .int hi, .int s]) (.int i) = true := by rw [heldB, ← Bool.and_assoc, e1, Bool.true_and, e2]
            rw [hb] at hI
            walk_at "dl go"
            exact h1 _ ⟨⟨_, _, _, _, _, rfl⟩, hI⟩
      · rintro ρ ⟨⟨x, y, a, b, c, rfl⟩, hI⟩
        rw [Nat.zero_add, List.drop_eq_nil_of_le (as := es) (by simp), bad_nilR] at hI
        walk_at "dl go"
        have w : inpE sps (.tuple es) = .none := by rw [inpE, if_pos el, hI]
        rw [w] at h
        exact h
  | _ => walk_at "dl go"; exact h
instance t_program_error {d : D} {k : Rt → Prop} : St (C_program_error [.va d] k) ((∀ ds, d = .tuple ds → ds.length ≤ 1000 ∧ ∀ x ∈ ds, tok x) ∧ k (.va (progE d))) := ⟨fun h => ⟨d, rfl, h.1, h.2⟩⟩
instance t__law_program_error {d : D} {k : Rt → Prop} : St (C__law_program_error [.va d] k) ((∀ ds, d = .tuple ds → ds.length ≤ 1000 ∧ ∀ x ∈ ds, tok x ∧ ∀ es, x = .tuple es → es.length ≤ 100000) ∧ k (.va (progE d))) := ⟨fun h => ⟨d, rfl, h.1, h.2⟩⟩

end K35

namespace K35
open PySem DL
local macro_rules | `(tactic| walk_at "dl side") => `(tactic| first | assumption | omega | rfl | decide | (simp; done) | (simp; omega) | fail)
local macro_rules | `(tactic| walk_at "dl mul") => `(tactic| first | exact mul_l (by first | decide | omega) | exact mul_r (by first | decide | omega) | exact mul_b (by first | decide | omega) (by first | decide | omega))
local macro_rules | `(tactic| walk_at "dl div") => `(tactic| exact div_ok (by first | decide | omega) (by first | decide | omega))
local macro_rules | `(tactic| walk_at "dl go") => `(tactic| repeat (first | refine St.out ?_ | (with_reducible refine t_brbT (by first | assumption | with_unfolding_all rfl) ?_) | (with_reducible refine t_brbF (by first | assumption | with_unfolding_all rfl) ?_) | ((with_reducible refine And.intro ?_ ?_); focus (first | walk_at "dl mul" | walk_at "dl div" | walk_at "dl side" | fail)) | fail))
local macro_rules | `(tactic| walk_at "dl in") => `(tactic| (refine ⟨rfl, ?_⟩; simp only [List.map_cons, List.map_nil, List.replicate_succ, List.replicate_zero, List.cons_append, List.nil_append, List.append_nil]))
instance t__law_is_span {ds : List D} {k : Rt → Prop} : St (C__law_is_span [.va (.tuple ds)] k) (ds.length ≤ 100000 ∧ k (bo (spanL ds))) := ⟨fun h => ⟨ds, rfl, h.1, h.2⟩⟩
theorem cut2 {a b c : D} : cutL [a, b, c] none (some 2) = [a, b] := by unfold cutL; rfl
theorem pow60 : (10 : Int) ^ (60 : Int).toNat = big := by decide +kernel
theorem pow20 : (10 : Int) ^ (20 : Int).toNat = fac := by decide +kernel
theorem p__law_is_span (as : List Ar) (q : Rt → Prop) (h : C__law_is_span as q) : as.length = 1 ∧ rd__law_is_span (En0 q) (as.map Ar.en ++ List.replicate 1 .un) := by
  obtain ⟨ds, rfl, hl, h⟩ := h
  walk_at "dl in"
  unfold rd__law_is_span
  match ds, h with
  | [], h => walk_at "dl go"; exact h
  | [_], h => walk_at "dl go"; exact h
  | [_, _], h => walk_at "dl go"; exact h
  | _ :: _ :: _ :: _ :: _, h => walk_at "dl go"; exact h
  | [a, b, c], h =>
    walk_at "dl go"
    rw [cut2]
    walk_at "dl go"
    rw [pow60]
    refine t_brb (fun e => ?_) (fun e => ?_)
    · have e1 : numB a = false := not_t e
      walk_at "dl go"
      rw [pow60]
      have fin1 : q (.va (.bool false)) := fin h (by simp only [spanL, span3, e1, Bool.false_and])
      refine t_brb (fun e => ?_) (fun e => ?_) <;> walk_at "dl go" <;> exact fin1
    · have e1 : numB a = true := not_f e
      walk_at "dl go"
      rw [pow60]
      refine t_brb (fun e => ?_) (fun e => ?_)
      · have e2 : numB b = false := not_t e
        walk_at "dl go"
        exact fin h (by simp only [spanL, span3, e1, e2, Bool.false_and, Bool.true_and])
      · have e2 : numB b = true := not_f e
        obtain ⟨i, rfl⟩ := num_int e1
        obtain ⟨j, rfl⟩ := num_int e2
        walk_at "dl go"
        refine t_brb (fun e => ?_) (fun e => ?_)
        · have e3 := dec_t e
          walk_at "dl go"
          rw [pow60]
          refine t_brb (fun e => ?_) (fun e => ?_)
          · have e4 : rngB c 1 big = true := e
            obtain ⟨s, rfl⟩ := num_int e4
            rw [rngB, Bool.and_eq_true] at e4
            have e5 := dec_t e4.1
            have e6 : 0 < s := by omega
            walk_at "dl go"
            refine fin h ?_
            simp only [spanL, span3, e1, e2, Bool.true_and]
            simp only [modB, e4.1, e4.2, decide_eq_true e3, Bool.true_and]
          · have e4 : rngB c 1 big = false := e
            walk_at "dl go"
            refine fin h ?_
            simp only [spanL, span3, e1, e2, Bool.true_and]
            cases c with
            | int s =>
              rw [rngB] at e4
              simp only [modB, Bool.true_and]
              rw [← Bool.and_assoc, e4]
              rfl
            | _ => rfl
        · have e3 := dec_f e
          walk_at "dl go"
          refine fin h ?_
          simp only [spanL, span3, e1, e2, Bool.true_and]
          cases c with
          | int s => simp only [modB, decide_eq_false e3, Bool.false_and, Bool.and_false, Bool.true_and]
          | _ => rfl
theorem in3 {w : Str} : (if true = true then !([PyData.str "sum", PyData.str "less", PyData.str "times"].any fun y => PyData.eqv y (.str w)) else [PyData.str "sum", PyData.str "less", PyData.str "times"].any fun y => PyData.eqv y (.str w)) = !(decide (w = "sum") || (decide (w = "less") || decide (w = "times"))) := by
  rw [if_pos rfl]
  simp only [List.any_cons, List.any_nil, Bool.or_false, PyData.eqv, str_dec]
  congr 1
  congr 1
  · exact decide_eq_decide.mpr eq_comm
  · congr 1 <;> exact decide_eq_decide.mpr eq_comm
theorem p__law_is_step (as : List Ar) (q : Rt → Prop) (h : C__law_is_step as q) : as.length = 2 ∧ rd__law_is_step (En0 q) (as.map Ar.en ++ List.replicate 1 .un) := by
  obtain ⟨p, d, rfl, ok, hl, h⟩ := h
  walk_at "dl in"
  unfold rd__law_is_step
  cases d with
  | tuple ds =>
    walk_at "dl go"
    refine t_eqG (ok _ rfl) sh_nil ?_
    walk_at "dl go"
    have hl := hl ds rfl
    match ds, h, hl with
    | [], h, hl => walk_at "dl go"; exact h
    | a :: r, h, hl =>
      rw [eqv_nil]
      walk_at "dl go"
      cases a with
      | str w =>
        walk_at "dl go"
        refine t_brb (fun e => ?_) (fun e => ?_)
        · walk_at "dl go"
          rw [cut1]
          refine ⟨by rw [List.length_cons] at hl; omega, ?_⟩
          exact fin h (by simp [stepB, stepL, e, dec_t e])
        · have e' := dec_f e
          walk_at "dl go"
          refine t_brb (fun e2 => ?_) (fun e2 => ?_)
          · walk_at "dl go"
            have e2' := dec_t e2
            subst e2'
            match r, h with
            | [], h => walk_at "dl go"; exact h
            | [x], h =>
              walk_at "dl go"
              rw [pow60]
              exact h
            | _ :: _ :: _, h => walk_at "dl go"; exact h
          · have e2' := dec_f e2
            walk_at "dl go"
            refine t_inT rfl rfl ?_
            rw [in3]
            walk_at "dl go"
            have hs : stepB (.tuple (.str w :: r)) p = restB w p r := by rw [stepB, stepL, if_neg e', if_neg e2']
            rw [hs] at h
            refine t_brb (fun e => ?_) (fun e => ?_)
            · have e3 := not_t e
              rw [Bool.or_eq_false_iff, Bool.or_eq_false_iff] at e3
              have hr : restB w p r = false := by
                match r with
                | [] => rfl
                | [_] => rfl
                | _ :: _ :: _ :: _ => rfl
                | [x, y] => rw [restB, if_neg (dec_f e3.2.2), e3.1, e3.2.1]; simp
              walk_at "dl go"
              exact fin h hr.symm
            · have e3 := not_f e
              walk_at "dl go"
              match r, h with
              | [], h => walk_at "dl go"; exact h
              | [x], h => walk_at "dl go"; exact h
              | _ :: _ :: _ :: _, h => walk_at "dl go"; exact h
              | [x, y], h =>
                walk_at "dl go"
                refine t_brb (fun e => ?_) (fun e => ?_)
                · have e4 : aheadB x p = false := not_t e
                  walk_at "dl go"
                  exact fin h (by rw [restB, e4]; rfl)
                · have e4 : aheadB x p = true := not_f e
                  walk_at "dl go"
                  refine t_brb (fun e => ?_) (fun e => ?_)
                  · walk_at "dl go"
                    rw [pow20]
                    exact fin h (by rw [restB, e4, if_pos (dec_t e)]; rfl)
                  · walk_at "dl go"
                    refine fin h ?_
                    rw [restB, e4, if_neg (dec_f e)]
                    rw [e, Bool.or_false] at e3
                    rw [e3]
                    rfl
      | _ => walk_at "dl go"; exact h
  | _ => walk_at "dl go"; exact h
instance t__law_is_step {d : D} {p : Int} {k : Rt → Prop} : St (C__law_is_step [.va (.int p), .va d] k) ((tok d ∧ (∀ ds, d = .tuple ds → ds.length ≤ 100000)) ∧ k (bo (stepB d p))) := ⟨fun h => ⟨p, d, rfl, h.1.1, h.1.2, h.2⟩⟩
theorem spans_len {ds : List D} : (spansOf ds).length = (ds.filterMap fun d => if isIn d = true then some (PyData.int 1) else none).length := by
  unfold spansOf
  induction ds with
  | nil => rfl
  | cons d ds ih =>
    rw [List.filterMap_cons, List.filterMap_cons]
    unfold spF at ih ⊢
    by_cases z : isIn d = true
    · rw [if_pos z, if_pos z, List.length_cons, List.length_cons, ih]
    · rw [if_neg z, if_neg z]
      exact ih
theorem p__law_program_error (as : List Ar) (q : Rt → Prop) (h : C__law_program_error as q) : as.length = 1 ∧ rd__law_program_error (En0 q) (as.map Ar.en ++ List.replicate 2 .un) := by
  obtain ⟨d, rfl, ok, h⟩ := h
  walk_at "dl in"
  unfold rd__law_program_error
  cases d with
  | tuple ds =>
    obtain ⟨hl, hs⟩ := ok ds rfl
    walk_at "dl go"
    refine t_brb (fun e => ?_) (fun e => ?_)
    · walk_at "dl go"
      refine t_brb (fun e2 => ?_) (fun e2 => ?_)
      · have e2' := dec_f (not_t e2)
        have w : progE (.tuple ds) = .str "form" := by rw [progE, if_neg (by omega)]
        rw [w] at h
        walk_at "dl go"
        exact h
      · have e2' := dec_t (not_f e2)
        have e1' := dec_t e
        have hb : 1 ≤ ds.length ∧ ds.length ≤ 30 := by omega
        walk_at "dl go"
        refine forL_of (fun n ρ => (∃ x y, ρ = [.va (.tuple ds), x, y]) ∧ badAt 0 ds = badAt n (ds.drop n)) _ 0 _ ⟨⟨_, _, rfl⟩, rfl⟩ ?_ ?_
        · rintro j d ρ N C e ⟨⟨x, y, rfl⟩, hI⟩ h1 h2
          obtain ⟨z, ez, rfl⟩ := enum_get e
          rw [Nat.zero_add] at hI h1
          rw [drop_one ez, badAt] at hI
          unfold lp1__law_program_error
          walk_at "dl go"
          refine ⟨hs z (mem_at ez), ?_⟩
          walk_at "dl go"
          refine t_brb (fun e => ?_) (fun e => ?_)
          · rw [not_t e] at hI
            walk_at "dl go"
            have w : progE (.tuple ds) = .tuple [.str "step", .int j] := by rw [progE, if_pos hb, hI]; rfl
            rw [w] at h
            exact h
          · rw [not_f e] at hI
            walk_at "dl go"
            exact h1 _ ⟨⟨_, _, rfl⟩, hI⟩
        · rintro ρ ⟨⟨x, y, rfl⟩, hI⟩
          rw [Nat.zero_add, List.drop_eq_nil_of_le (by simp), badAt] at hI
          have hn := bad_none hI
          walk_at "dl go"
          refine lcL_fm (ρ := [.va (.tuple ds), x, .un]) (fun d => if isIn d = true then some (PyData.int 1) else none) (by omega) (fun j d acc G e hl h1 h2 => ?_) ?_
          · obtain ⟨w, r, rfl⟩ := hn d (mem_at e)
            walk_at "dl go"
            refine t_brb (fun e => ?_) (fun e => ?_)
            · walk_at "dl go"
              first | exact ⟨hl, h1 _ (by simp only [isIn, e]; rfl)⟩ | exact h1 _ (by simp only [isIn, e]; rfl)
            · exact h2 (by simp only [isIn, e]; rfl)
          · walk_at "dl go"
            rw [← spans_len]
            have w : progE (.tuple ds) = if 12 < (spansOf ds).length then .str "inputs" else .none := by rw [progE, if_pos hb, hI]
            rw [w] at h
            refine t_brb (fun e => ?_) (fun e => ?_)
            · rw [if_pos (by have := dec_t e; omega)] at h
              walk_at "dl go"
              exact h
            · rw [if_neg (by have := dec_f e; omega)] at h
              walk_at "dl go"
              exact h
    · have e1' := dec_f e
      have w : progE (.tuple ds) = .str "form" := by rw [progE, if_neg (by omega)]
      rw [w] at h
      walk_at "dl go"
      exact h
  | _ => walk_at "dl go"; exact h

end K35

namespace K35
open PySem DL
local macro_rules | `(tactic| walk_at "dl side") => `(tactic| first | assumption | omega | rfl | decide | (simp; done) | (simp; omega) | fail)
local macro_rules | `(tactic| walk_at "dl mul") => `(tactic| first | exact mul_l (by first | decide | omega) | exact mul_r (by first | decide | omega) | exact mul_b (by first | decide | omega) (by first | decide | omega))
local macro_rules | `(tactic| walk_at "dl div") => `(tactic| exact div_ok (by first | decide | omega) (by first | decide | omega))
local macro_rules | `(tactic| walk_at "dl go") => `(tactic| repeat (first | refine St.out ?_ | (with_reducible refine t_brbT (by first | assumption | with_unfolding_all rfl) ?_) | (with_reducible refine t_brbF (by first | assumption | with_unfolding_all rfl) ?_) | ((with_reducible refine And.intro ?_ ?_); focus (first | walk_at "dl mul" | walk_at "dl div" | walk_at "dl side" | fail)) | fail))
local macro_rules | `(tactic| walk_at "dl in") => `(tactic| (refine ⟨rfl, ?_⟩; simp only [List.map_cons, List.map_nil, List.replicate_succ, List.replicate_zero, List.cons_append, List.nil_append, List.append_nil]))
instance t__law_draw {m : Int} {k : Rt → Prop} : St (C__law_draw [.dk, .va (.int m)] k) ((1 ≤ m ∧ m ≤ 1000000) ∧ ∀ r, 0 ≤ r → r < m → k (.va (.int r))) := ⟨fun h => ⟨m, rfl, h⟩⟩
instance t__law_pick {row : List D} {k : Rt → Prop} : St (C__law_pick [.dk, .va (.list row)] k) ((row ≠ [] ∧ row.length ≤ 1000000) ∧ ∀ x ∈ row, k (.va x)) := ⟨fun h => ⟨row, rfl, h⟩⟩
instance t__law_span {a m : Int} {k : Rt → Prop} : St (C__law_span [.dk, .va (.int a), .va (.int m)] k) ((0 ≤ a ∧ a ≤ 1000 ∧ 1 ≤ m ∧ m ≤ 1000) ∧ ∀ lo r st : Int, lo.natAbs ≤ 20000 → 0 ≤ r → r < m → 1 ≤ st → st ≤ 10 → k (.va (.tuple [.int lo, .int (lo + st * r), .int st]))) := ⟨fun h => ⟨a, m, rfl, h⟩⟩
theorem p__law_pick (as : List Ar) (q : Rt → Prop) (h : C__law_pick as q) : as.length = 2 ∧ rd__law_pick (En0 q) (as.map Ar.en ++ List.replicate 0 .un) := by
  obtain ⟨row, rfl, ⟨h1, h2⟩, h⟩ := h
  walk_at "dl in"
  unfold rd__law_pick
  have h3 : row.length ≠ 0 := fun e => h1 (List.eq_nil_of_length_eq_zero e)
  walk_at "dl go"
  intro r hr hr2
  obtain ⟨x, hx⟩ := at_len (l := row) (j := r.toNat) (by omega)
  walk_at "dl go"
  refine ixAt_of (j := r.toNat) (by omega) hx ?_
  walk_at "dl go"
  exact h x (mem_at hx)
theorem mem_ints {x : D} {ns : List Int} (h : x ∈ ns.map PyData.int) : ∃ i ∈ ns, x = .int i := by
  obtain ⟨i, h1, h2⟩ := List.mem_map.mp h
  exact ⟨i, h1, h2.symm⟩
/-- a product of bounded numbers -/
theorem mul_bd {a b : Int} {m n : Nat} (h : a.natAbs ≤ m) (k : b.natAbs ≤ n) : (a * b).natAbs ≤ m * n := by
  rw [Int.natAbs_mul]
  exact Nat.mul_le_mul h k
theorem p__law_span (as : List Ar) (q : Rt → Prop) (h : C__law_span as q) : as.length = 3 ∧ rd__law_span (En0 q) (as.map Ar.en ++ List.replicate 2 .un) := by
  obtain ⟨most, many, rfl, ⟨h1, h2, h3, h4⟩, h⟩ := h
  walk_at "dl in"
  unfold rd__law_span
  have fin2 : ∀ (st lo : Int), 1 ≤ st → st ≤ 10 → lo.natAbs ≤ 20000 → ∀ r, 0 ≤ r → r < many → q (.va (.tuple [.int lo, .int (lo + st * r), .int st])) := fun st lo a b c r d e => h lo r st c d e a b
  walk_at "dl go"
  intro x hx
  obtain ⟨st, hst, rfl⟩ : ∃ st : Int, (1 ≤ st ∧ st ≤ 10) ∧ x = .int st := by
    simp only [List.mem_cons, List.not_mem_nil, or_false] at hx
    rcases hx with rfl | rfl | rfl | rfl | rfl | rfl | rfl <;> exact ⟨_, by decide, rfl⟩
  walk_at "dl go"
  intro r0 a0 b0
  walk_at "dl go"
  intro r1 a1 b1
  walk_at "dl go"
  refine t_brb (fun e => ?_) (fun e => ?_)
  · walk_at "dl go"
    intro y hy
    obtain ⟨z, hz, rfl⟩ : ∃ z : Int, z.natAbs ≤ 1000 ∧ y = .int z := by
      simp only [List.mem_cons, List.not_mem_nil, or_false] at hy
      rcases hy with rfl | rfl | rfl | rfl | rfl | rfl <;> exact ⟨_, by omega, rfl⟩
    walk_at "dl go"
    intro r2 a2 b2
    have hm := mul_bd (a := st) (b := z) (m := 10) (n := 1000) (by omega) hz
    walk_at "dl go"
    exact fin2 st _ hst.1 hst.2 (by omega) r2 a2 b2
  · walk_at "dl go"
    intro r2 a2 b2
    walk_at "dl go"
    exact fin2 st _ hst.1 hst.2 (by omega) r2 a2 b2

end K35

namespace K35
open PySem DL
local macro_rules | `(tactic| walk_at "dl side") => `(tactic| first | assumption | omega | rfl | decide | (simp; done) | (simp; omega) | fail)
local macro_rules | `(tactic| walk_at "dl mul") => `(tactic| first | exact mul_l (by first | decide | omega) | exact mul_r (by first | decide | omega) | exact mul_b (by first | decide | omega) (by first | decide | omega))
local macro_rules | `(tactic| walk_at "dl div") => `(tactic| exact div_ok (by first | decide | omega) (by first | decide | omega))
local macro_rules | `(tactic| walk_at "dl go") => `(tactic| repeat (first | refine St.out ?_ | (with_reducible refine t_brbT (by first | assumption | with_unfolding_all rfl) ?_) | (with_reducible refine t_brbF (by first | assumption | with_unfolding_all rfl) ?_) | ((with_reducible refine And.intro ?_ ?_); focus (first | walk_at "dl mul" | walk_at "dl div" | walk_at "dl side" | fail)) | fail))
local macro_rules | `(tactic| walk_at "dl in") => `(tactic| (refine ⟨rfl, ?_⟩; simp only [List.map_cons, List.map_nil, List.replicate_succ, List.replicate_zero, List.cons_append, List.nil_append, List.append_nil]))
theorem in2 {w : Str} : (if false = true then !([PyData.str "sum", PyData.str "less"].any fun y => PyData.eqv y (.str w)) else [PyData.str "sum", PyData.str "less"].any fun y => PyData.eqv y (.str w)) = (decide (w = "sum") || decide (w = "less")) := by
  rw [if_neg (by decide)]
  simp only [List.any_cons, List.any_nil, Bool.or_false, PyData.eqv, str_dec]
  congr 1 <;> exact decide_eq_decide.mpr eq_comm
theorem w1 : decide (("is" : Str) = "in") = false := by decide +kernel
theorem w2 : decide (("sum" : Str) = "in") = false := by decide +kernel
theorem w3 : decide (("less" : Str) = "in") = false := by decide +kernel
theorem w4 : decide (("times" : Str) = "in") = false := by decide +kernel
theorem w5 : decide (("in" : Str) = "in") = true := by decide +kernel
theorem w6 : (decide (("is" : Str) = "sum") || decide (("is" : Str) = "less")) = false := by decide +kernel
theorem w7 : (decide (("sum" : Str) = "sum") || decide (("sum" : Str) = "less")) = true := by decide +kernel
theorem w8 : (decide (("less" : Str) = "sum") || decide (("less" : Str) = "less")) = true := by decide +kernel
theorem w9 : (decide (("times" : Str) = "sum") || decide (("times" : Str) = "less")) = false := by decide +kernel
theorem wA : (decide (("in" : Str) = "sum") || decide (("in" : Str) = "less")) = false := by decide +kernel
theorem wB : decide (("is" : Str) = "times") = false := by decide +kernel
theorem wC : decide (("in" : Str) = "times") = false := by decide +kernel
theorem wD : decide (("times" : Str) = "times") = true := by decide +kernel
theorem wE : decide (("sum" : Str) = "is") = false := by decide +kernel
theorem wF : decide (("less" : Str) = "is") = false := by decide +kernel
theorem wG : decide (("times" : Str) = "is") = false := by decide +kernel
theorem wH : decide (("is" : Str) = "is") = true := by decide +kernel
theorem wI : decide (("sum" : Str) = "times") = false := by decide +kernel
theorem wJ : decide (("less" : Str) = "times") = false := by decide +kernel
theorem made_app {acc : List D} {x : D} (h : ∀ y ∈ acc, Made y) (hx : Made x) : ∀ y ∈ acc ++ [x], Made y := by
  intro y hy
  rcases List.mem_append.mp hy with hy | hy
  · exact h y hy
  · rw [List.mem_singleton.mp hy]; exact hx
theorem len_app {acc : List D} {x : D} {n : Nat} (h : acc.length = n) : (acc ++ [x]).length = n + 1 := by rw [List.length_append, h]; rfl
theorem sm_of {i : Int} (h : i.natAbs < 10 ^ 61) : smI i := h
theorem p__law_program (as : List Ar) (q : Rt → Prop) (h : C__law_program as q) : as.length = 4 ∧ rd__law_program (En0 q) (as.map Ar.en ++ List.replicate 8 .un) := by
  obtain ⟨many, facs, rfl, ⟨h1, h2⟩, ⟨h3, h4, h5⟩, h⟩ := h
  walk_at "dl in"
  unfold rd__law_program
  walk_at "dl go"
  refine forL_of (fun n ρ => ∃ (acc : List D) (left kept : Int) (a b c d e : En), ρ = [.dk, .va (.int many), .va (.int 60), .va (.list facs), .ow acc, .va (.int left), .va (.int kept), a, b, c, d, e] ∧ acc.length = n ∧ (∀ x ∈ acc, Made x)) _ 0 _ ⟨[], 60, 12, _, _, _, _, _, rfl, rfl, by simp⟩ ?_ ?_
  · rintro j d ρ N C e ⟨acc, left, kept, a, b, c, d', e', rfl, hacc, hmade⟩ n1 n2
    obtain ⟨rfl, hj⟩ := rng_get e
    rw [Int.zero_add]
    rw [Nat.zero_add] at hacc n1
    have hal : acc.length ≤ 1000000 := by omega
    have next : ∀ (x : D) (left kept : Int) (a b c d e : En), Made x → N [.dk, .va (.int many), .va (.int 60), .va (.list facs), .ow (acc ++ [x]), .va (.int left), .va (.int kept), a, b, c, d, e] :=
      fun x left kept a b c d e hx => n1 _ ⟨_, left, kept, a, b, c, d, e, rfl, len_app hacc, made_app hmade hx⟩
    have k1 := w1; have k2 := w2; have k3 := w3; have k4 := w4; have k5 := w5; have k6 := w6; have k7 := w7; have k8 := w8; have k9 := w9; have kA := wA; have kB := wB; have kC := wC; have kD := wD
    unfold lp1__law_program
    have span : ∀ (rt : Rt → Prop) (bk : Ev → Prop) (a b c d e : En), (sSeq (sUnp (.tup [.nm 9, .nm 10, .nm 11]) (xDef C__law_span (cDk 0 (cVa (xC (.int 30)) (cVa (xCall fMax2 (aCons (xC (.int 1)) (aCons (xCall fMin2 (aCons (xVar 5) (aCons (xC (.int 6)) (aNil)))) (aNil)))) (cNil)))))) (sSeq (sSet2 5 6 (xBin oDiv (xVar 5) (xBin oAdd (xBin oDiv (xBin oSub (xVar 10) (xVar 9)) (xVar 11)) (xC (.int 1)))) (xBin oSub (xVar 6) (xC (.int 1)))) (sExpr (xMth mAppend 4 (aCons (xTup (aCons (xC (.str "in")) (aCons (xVar 9) (aCons (xVar 10) (aCons (xVar 11) (aNil)))))) (aNil)))))) ⟨N, rt, bk, C⟩ [.dk, .va (.int many), .va (.int 60), .va (.list facs), .ow acc, .va (.int left), .va (.int kept), a, b, c, d, e] := by
      intro rt bk a b c d e
      walk_at "dl go"
      intro lo r st b1 b2 b3 b4 b5
      have b6 : (lo + st * r - lo) / st = r := by
        rw [show lo + st * r - lo = st * r by omega]
        exact Int.mul_ediv_cancel_left r (by omega)
      have b7 : r < 1000 := by
        have : (if (if (6 : Int) < left then 6 else left) > 1 then (if (6 : Int) < left then 6 else left) else 1) ≤ 6 := by split <;> split <;> omega
        omega
      have b8 := mul_bd (a := st) (b := r) (m := 10) (n := 1000) (by omega) (by omega)
      walk_at "dl go"
      rw [b6]
      walk_at "dl go"
      exact next _ _ _ _ _ _ _ _ (.inn _ _ _ (by omega) (sm_of (by omega)) (sm_of (by omega)) (sm_of (by omega)))
    have isx : ∀ (left kept : Int) (a b c d e : En) (r : Int), 0 ≤ r → r < 61 → N [.dk, .va (.int many), .va (.int 60), .va (.list facs), .ow (acc ++ [.tuple [.str "is", .int (r - 30)]]), .va (.int left), .va (.int kept), a, b, c, d, e] :=
      fun left kept a b c d e r h0 h1 => next _ _ _ _ _ _ _ _ (.iss _ (sm_of (by omega)))
    rcases Nat.eq_zero_or_pos j with hj0 | hj0
    · subst hj0
      walk_at "dl go"
      refine t_brb (fun e => span _ _ _ _ _ _ _) (fun e => ?_)
      walk_at "dl go"
      refine t_inT rfl rfl ?_
      rw [in2]
      walk_at "dl go"
      intro r b1 b2
      walk_at "dl go"
      exact isx _ _ _ _ _ _ _ r b1 b2
    · have hjp : decide ((0 : Int) < (j : Int)) = true := decide_eq_true (by omega)
      walk_at "dl go"
      intro x hx
      simp only [List.mem_cons, List.not_mem_nil, or_false] at hx
      rcases hx with rfl | rfl | rfl | rfl | rfl | rfl | rfl
      · walk_at "dl go"
        refine t_brb (fun e => span _ _ _ _ _ _ _) (fun e => ?_)
        walk_at "dl go"
        refine t_inT rfl rfl ?_
        rw [in2]
        walk_at "dl go"
        intro r b1 b2
        walk_at "dl go"
        exact isx _ _ _ _ _ _ _ r b1 b2
      · walk_at "dl go"
        refine t_brb (fun e => span _ _ _ _ _ _ _) (fun e => ?_)
        walk_at "dl go"
        refine t_inT rfl rfl ?_
        rw [in2]
        walk_at "dl go"
        intro r b1 b2
        walk_at "dl go"
        exact isx _ _ _ _ _ _ _ r b1 b2
      · walk_at "dl go"
        refine t_inT rfl rfl ?_
        rw [in2]
        walk_at "dl go"
        intro r b1 b2
        walk_at "dl go"
        exact isx _ _ _ _ _ _ _ r b1 b2
      · walk_at "dl go"
        refine t_inT rfl rfl ?_
        rw [in2]
        walk_at "dl go"
        intro r b1 b2
        walk_at "dl go"
        intro r' b1' b2'
        walk_at "dl go"
        exact next _ _ _ _ _ _ _ _ (.two _ _ _ (.inl rfl) (sm_of (by omega)) (sm_of (by omega)))
      · walk_at "dl go"
        refine t_inT rfl rfl ?_
        rw [in2]
        walk_at "dl go"
        intro r b1 b2
        walk_at "dl go"
        intro r' b1' b2'
        walk_at "dl go"
        exact next _ _ _ _ _ _ _ _ (.two _ _ _ (.inl rfl) (sm_of (by omega)) (sm_of (by omega)))
      · walk_at "dl go"
        refine t_inT rfl rfl ?_
        rw [in2]
        walk_at "dl go"
        intro r b1 b2
        walk_at "dl go"
        intro r' b1' b2'
        walk_at "dl go"
        exact next _ _ _ _ _ _ _ _ (.two _ _ _ (.inr (.inl rfl)) (sm_of (by omega)) (sm_of (by omega)))
      · walk_at "dl go"
        refine t_inT rfl rfl ?_
        rw [in2]
        walk_at "dl go"
        intro r b1 b2
        walk_at "dl go"
        have hfl : facs.length ≤ 1000000 := by omega
        try refine ⟨⟨h3, hfl⟩, ?_⟩
        intro y hy
        obtain ⟨i, rfl, hi⟩ := h5 y hy
        walk_at "dl go"
        exact next _ _ _ _ _ _ _ _ (.two _ _ _ (.inr (.inr rfl)) (sm_of (by omega)) hi)
  · rintro ρ ⟨acc, left, kept, a, b, c, d, e, rfl, hacc, hmade⟩
    walk_at "dl go"
    refine h acc ?_ hmade
    rw [hacc, rng_len]
    omega

end K35

namespace K35
open PySem DL
local macro_rules | `(tactic| walk_at "dl side") => `(tactic| first | assumption | omega | rfl | decide | (simp; done) | (simp; omega) | fail)
local macro_rules | `(tactic| walk_at "dl mul") => `(tactic| first | exact mul_l (by first | decide | omega) | exact mul_r (by first | decide | omega) | exact mul_b (by first | decide | omega) (by first | decide | omega))
local macro_rules | `(tactic| walk_at "dl div") => `(tactic| exact div_ok (by first | decide | omega) (by first | decide | omega))
local macro_rules | `(tactic| walk_at "dl go") => `(tactic| repeat (first | refine St.out ?_ | (with_reducible refine t_brbT (by first | assumption | with_unfolding_all rfl) ?_) | (with_reducible refine t_brbF (by first | assumption | with_unfolding_all rfl) ?_) | ((with_reducible refine And.intro ?_ ?_); focus (first | walk_at "dl mul" | walk_at "dl div" | walk_at "dl side" | fail)) | fail))
local macro_rules | `(tactic| walk_at "dl in") => `(tactic| (refine ⟨rfl, ?_⟩; simp only [List.map_cons, List.map_nil, List.replicate_succ, List.replicate_zero, List.cons_append, List.nil_append, List.append_nil]))
instance t__law_program {m : Int} {facs : List D} {k : Rt → Prop} : St (C__law_program [.dk, .va (.int m), .va (.int 60), .va (.list facs)] k) ((1 ≤ m ∧ m ≤ 30) ∧ (facs ≠ [] ∧ facs.length ≤ 100 ∧ (∀ x ∈ facs, ∃ i, x = .int i ∧ smI i)) ∧ ∀ ds, ds.length = m.toNat → (∀ x ∈ ds, Made x) → k (.va (.tuple ds))) := ⟨fun h => ⟨m, facs, rfl, h⟩⟩
instance t__law_great {k : Rt → Prop} : St (C__law_great [.dk, .va (.int 30), .va (.int 12)] k) (∀ ds, ds.length = 30 → (∀ x ∈ ds, Made x) → k (.va (.tuple ds))) := ⟨fun h => ⟨rfl, h⟩⟩
instance t__law_some {sps : List D} {k : Rt → Prop} : St (C__law_some [.dk, .va (.list sps)] k) ((sps.length ≤ 1000 ∧ (∀ x ∈ sps, spanOk x)) ∧ ∀ ns : List Int, ns.length = sps.length → (∀ n ∈ ns, n.natAbs < 10 ^ 123) → k (.va (.tuple (ns.map .int)))) := ⟨fun h => ⟨sps, rfl, h⟩⟩
theorem p__law_great (as : List Ar) (q : Rt → Prop) (h : C__law_great as q) : as.length = 3 ∧ rd__law_great (En0 q) (as.map Ar.en ++ List.replicate 6 .un) := by
  obtain ⟨rfl, h⟩ := h
  walk_at "dl in"
  unfold rd__law_great
  walk_at "dl go"
  refine forL_of (fun n ρ => ∃ (acc : List D) (a b c d e : En), ρ = [.dk, .va (.int 30), .va (.int 12), .ow acc, a, b, c, d, e] ∧ acc.length = n ∧ (∀ x ∈ acc, Made x)) _ 0 _ ⟨[], _, _, _, _, _, rfl, rfl, by simp⟩ ?_ ?_
  · rintro j d ρ N C e ⟨acc, a, b, c, d', e', rfl, hacc, hmade⟩ n1 n2
    obtain ⟨rfl, hj⟩ := rng_get e
    rw [Int.zero_add]
    rw [Nat.zero_add] at hacc n1
    have hj30 : j < 30 := by simpa using hj
    have hal : acc.length ≤ 1000000 := by omega
    have next : ∀ (x : D) (a b c d e : En), Made x → N [.dk, .va (.int 30), .va (.int 12), .ow (acc ++ [x]), a, b, c, d, e] :=
      fun x a b c d e hx => n1 _ ⟨_, a, b, c, d, e, rfl, len_app hacc, made_app hmade hx⟩
    unfold lp1__law_great
    walk_at "dl go"
    intro x hx
    obtain ⟨w, rfl, hw⟩ : ∃ w : Str, x = .str w ∧ (w = "is" ∨ w = "sum" ∨ w = "less" ∨ w = "times") := by
      simp only [List.mem_cons, List.not_mem_nil, or_false] at hx
      rcases hx with rfl | rfl | rfl | rfl | rfl
      · exact ⟨_, rfl, .inl rfl⟩
      · exact ⟨_, rfl, .inr (.inl rfl)⟩
      · exact ⟨_, rfl, .inr (.inl rfl)⟩
      · exact ⟨_, rfl, .inr (.inr (.inl rfl))⟩
      · exact ⟨_, rfl, .inr (.inr (.inr rfl))⟩
    by_cases hk : (j : Int) < 12
    · have hk' := decide_eq_true hk
      walk_at "dl go"
      intro y hy
      obtain ⟨s, ⟨s1, s2⟩, rfl⟩ : ∃ s : Int, (1 ≤ s ∧ s ≤ 10 ^ 59) ∧ y = .int s := by
        simp only [List.mem_cons, List.not_mem_nil, or_false] at hy
        rcases hy with rfl | rfl | rfl | rfl | rfl | rfl <;> exact ⟨_, by decide +kernel, rfl⟩
      have hq : ((10 : Int) ^ (60 : Int).toNat / s).natAbs ≤ 10 ^ 60 := Nat.le_trans (Int.natAbs_ediv_le_natAbs _ _) (by decide +kernel)
      have hm : mulOk ((10 : Int) ^ (60 : Int).toNat / s) s := mul_b (by omega) (by omega)
      have hm' : mulOk (-((10 : Int) ^ (60 : Int).toNat / s)) s := mul_b (by omega) (by omega)
      have hb : ((10 : Int) ^ (60 : Int).toNat / s * s).natAbs ≤ 10 ^ 60 := by
        have e1 : (10 : Int) ^ (60 : Int).toNat / s * s ≤ (10 : Int) ^ (60 : Int).toNat := Int.ediv_mul_le _ (by omega)
        have e2 : 0 ≤ (10 : Int) ^ (60 : Int).toNat / s := Int.ediv_nonneg (by decide +kernel) (by omega)
        have e3 : 0 ≤ (10 : Int) ^ (60 : Int).toNat / s * s := Int.mul_nonneg e2 (by omega)
        rw [pow60] at e1 e3 ⊢
        have e4 : big = 1000000000000000000000000000000000000000000000000000000000000 := rfl
        omega
      walk_at "dl go"
      intro z hz
      obtain ⟨hi, h0, rfl⟩ : ∃ hi : Int, hi.natAbs ≤ 3 * 10 ^ 60 ∧ z = .int hi := by
        simp only [List.mem_cons, List.not_mem_nil, or_false] at hz
        rcases hz with rfl | rfl | rfl | rfl
        · exact ⟨_, by decide +kernel, rfl⟩
        · exact ⟨_, by omega, rfl⟩
        · exact ⟨_, by omega, rfl⟩
        · exact ⟨_, by omega, rfl⟩
      walk_at "dl go"
      intro u hu
      obtain ⟨lo, h1, rfl⟩ : ∃ lo : Int, lo.natAbs ≤ 3 * 10 ^ 60 ∧ u = .int lo := by
        simp only [List.mem_cons, List.not_mem_nil, or_false] at hu
        rcases hu with rfl | rfl | rfl | rfl
        · exact ⟨_, by decide +kernel, rfl⟩
        · exact ⟨_, by omega, rfl⟩
        · exact ⟨_, by omega, rfl⟩
        · exact ⟨_, by rw [Int.neg_mul]; omega, rfl⟩
      walk_at "dl go"
      exact next _ _ _ _ _ _ (.inn _ _ _ (by omega) (sm_of (by split <;> omega)) (sm_of (by split <;> omega)) (sm_of (by omega)))
    · have hk' := decide_eq_false hk
      have hz : decide ((j : Int) = 0) = false := decide_eq_false (by omega)
      have k1 := wE; have k2 := wF; have k3 := wG; have k4 := wH; have k5 := wI; have k6 := wJ; have k7 := wD
      rcases hw with rfl | rfl | rfl | rfl
      · walk_at "dl go"
        intro y hy
        obtain ⟨s, s1, rfl⟩ : ∃ s : Int, smI s ∧ y = .int s := by
          simp only [List.mem_cons, List.not_mem_nil, or_false] at hy
          rcases hy with rfl | rfl | rfl | rfl | rfl | rfl <;> exact ⟨_, sm_of (by decide +kernel), rfl⟩
        walk_at "dl go"
        exact next _ _ _ _ _ _ (.iss _ s1)
      · walk_at "dl go"
        intro r b1 b2
        walk_at "dl go"
        intro r' b1' b2'
        walk_at "dl go"
        exact next _ _ _ _ _ _ (.two _ _ _ (.inl rfl) (sm_of (by split at b2 <;> omega)) (sm_of (by omega)))
      · walk_at "dl go"
        intro r b1 b2
        walk_at "dl go"
        intro r' b1' b2'
        walk_at "dl go"
        exact next _ _ _ _ _ _ (.two _ _ _ (.inr (.inl rfl)) (sm_of (by split at b2 <;> omega)) (sm_of (by omega)))
      · walk_at "dl go"
        intro r b1 b2
        walk_at "dl go"
        intro y hy
        obtain ⟨s, s1, rfl⟩ : ∃ s : Int, smI s ∧ y = .int s := by
          simp only [List.mem_cons, List.not_mem_nil, or_false] at hy
          rcases hy with rfl | rfl | rfl | rfl | rfl | rfl <;> exact ⟨_, sm_of (by decide +kernel), rfl⟩
        walk_at "dl go"
        exact next _ _ _ _ _ _ (.two _ _ _ (.inr (.inr rfl)) (sm_of (by omega)) s1)
  · rintro ρ ⟨acc, a, b, c, d, e, rfl, hacc, hmade⟩
    walk_at "dl go"
    refine h acc ?_ hmade
    rw [hacc, rng_len]
    rfl
theorem p__law_some (as : List Ar) (q : Rt → Prop) (h : C__law_some as q) : as.length = 2 ∧ rd__law_some (En0 q) (as.map Ar.en ++ List.replicate 5 .un) := by
  obtain ⟨sps, rfl, ⟨h1, h2⟩, h⟩ := h
  walk_at "dl in"
  unfold rd__law_some
  walk_at "dl go"
  refine forL_of (fun n ρ => ∃ (ns : List Int) (a b c d : En), ρ = [.dk, .va (.list sps), .ow (ns.map .int), a, b, c, d] ∧ ns.length = n ∧ (∀ x ∈ ns, x.natAbs < 10 ^ 123)) _ 0 _ ⟨[], _, _, _, _, rfl, rfl, by simp⟩ ?_ ?_
  · rintro j d ρ N C e ⟨ns, a, b, c, d', rfl, hacc, hsm⟩ n1 n2
    rw [Nat.zero_add] at hacc n1
    have hjl := lt_len e
    have hal : (ns.map PyData.int).length ≤ 1000000 := by rw [List.length_map]; omega
    have next : ∀ (x : Int) (a b c d : En), x.natAbs < 10 ^ 123 → N [.dk, .va (.list sps), .ow (ns.map .int ++ [.int x]), a, b, c, d] :=
      fun x a b c d hx => n1 _ ⟨ns ++ [x], a, b, c, d, by simp, by simp [hacc], fun y hy => by
        rcases List.mem_append.mp hy with hy | hy
        · exact hsm y hy
        · rw [List.mem_singleton.mp hy]; exact hx⟩
    obtain ⟨lo, hi, s, rfl, b1, b2, b3, b4⟩ := h2 d (mem_at e)
    unfold lp1__law_some
    have hq : ((hi - lo) / s).natAbs ≤ 2 * 10 ^ 61 := Nat.le_trans (Int.natAbs_ediv_le_natAbs _ _) (by omega)
    walk_at "dl go"
    intro y hy
    obtain ⟨z, hz, rfl⟩ : ∃ z : Int, z.natAbs ≤ 2 * 10 ^ 61 + 1 ∧ y = .int z := by
      simp only [List.mem_cons, List.not_mem_nil, or_false] at hy
      rcases hy with rfl | rfl | rfl | rfl | rfl | rfl
      · exact ⟨_, by decide +kernel, rfl⟩
      · exact ⟨_, by omega, rfl⟩
      · exact ⟨_, by omega, rfl⟩
      · exact ⟨_, by split <;> omega, rfl⟩
      · exact ⟨_, by split <;> omega, rfl⟩
      · exact ⟨_, by omega, rfl⟩
    have hm := mul_bd (a := s) (b := z) (m := 10 ^ 61) (n := 2 * 10 ^ 61 + 1) (by omega) hz
    have hm2 : (s * z).natAbs ≤ 3 * 10 ^ 122 := Nat.le_trans hm (by decide +kernel)
    walk_at "dl go"
    exact next _ _ _ _ _ (by omega)
  · rintro ρ ⟨ns, a, b, c, d, rfl, hacc, hsm⟩
    rw [Nat.zero_add] at hacc
    walk_at "dl go"
    exact h ns hacc hsm

end K35

namespace K35
open PySem DL
local macro_rules | `(tactic| walk_at "dl side") => `(tactic| first | assumption | omega | rfl | decide | (simp; done) | (simp; omega) | fail)
local macro_rules | `(tactic| walk_at "dl mul") => `(tactic| first | exact mul_l (by first | decide | omega) | exact mul_r (by first | decide | omega) | exact mul_b (by first | decide | omega) (by first | decide | omega))
local macro_rules | `(tactic| walk_at "dl div") => `(tactic| exact div_ok (by first | decide | omega) (by first | decide | omega))
local macro_rules | `(tactic| walk_at "dl go") => `(tactic| repeat (first | refine St.out ?_ | (with_reducible refine t_brbT (by first | assumption | with_unfolding_all rfl) ?_) | (with_reducible refine t_brbF (by first | assumption | with_unfolding_all rfl) ?_) | ((with_reducible refine And.intro ?_ ?_); focus (first | walk_at "dl mul" | walk_at "dl div" | walk_at "dl side" | fail)) | fail))
local macro_rules | `(tactic| walk_at "dl in") => `(tactic| (refine ⟨rfl, ?_⟩; simp only [List.map_cons, List.map_nil, List.replicate_succ, List.replicate_zero, List.cons_append, List.nil_append, List.append_nil]))
instance t__law_odd_step {p : Int} {k : Rt → Prop} : St (C__law_odd_step [.dk, .va (.int p)] k) (smI p ∧ ∀ d, Step d → k (.va d)) := ⟨fun h => ⟨p, rfl, h⟩⟩
instance t__law_odd_inputs {ds : List D} {k : Rt → Prop} : St (C__law_odd_inputs [.dk, .va (.tuple ds)] k) ((ds.length ≤ 100 ∧ (∀ x ∈ ds, Made x)) ∧ ∀ d, smol d = true → nod d ≤ 1000 → d.depth ≤ 4 → k (.va d)) := ⟨fun h => ⟨ds, rfl, h⟩⟩
instance t__law_is_judged {d : D} {b : Bool} {k : Rt → Prop} : St (C__law_is_judged [.va d, .va (.bool b)] k) (Thing d ∧ k (bo true)) := ⟨fun h => ⟨d, b, rfl, h⟩⟩
theorem smol_int {i : Int} (h : smI i) : smol (.int i) = true := by
  unfold smI at h
  rw [smol]
  exact decide_eq_true (by omega)
theorem step2 {w : Str} {a : D} (hw : smol (.str w) = true ∧ nod (.str w) = 1 ∧ PyData.strOk w = true) (ha : smol a = true ∧ nod a = 1 ∧ a.depth = 0 ∧ a.canLay0 = true) : Step (.tuple [.str w, a]) := by
  obtain ⟨w1, w2, w3⟩ := hw
  obtain ⟨a1, a2, a3, a4⟩ := ha
  exact ⟨by rw [smol, smolAll, smolAll, smolAll, w1, a1]; rfl, by rw [nod, nodAll, nodAll, nodAll, w2, a2]; decide, by simp [PyData.depth, PyData.depthAll, a3], fun _ _ => by simp [PyData.canLay0, PyData.canLayAll0, w3, a4]⟩
theorem step3 {w : Str} {a b : D} (hw : smol (.str w) = true ∧ nod (.str w) = 1 ∧ PyData.strOk w = true) (ha : smol a = true ∧ nod a = 1 ∧ a.depth = 0 ∧ a.canLay0 = true) (hb : smol b = true ∧ nod b = 1 ∧ b.depth = 0 ∧ b.canLay0 = true) : Step (.tuple [.str w, a, b]) := by
  obtain ⟨w1, w2, w3⟩ := hw
  obtain ⟨a1, a2, a3, a4⟩ := ha
  obtain ⟨b1, b2, b3, b4⟩ := hb
  exact ⟨by rw [smol, smolAll, smolAll, smolAll, smolAll, w1, a1, b1]; rfl, by rw [nod, nodAll, nodAll, nodAll, nodAll, w2, a2, b2]; decide, by simp [PyData.depth, PyData.depthAll, a3, b3], fun _ _ => by simp [PyData.canLay0, PyData.canLayAll0, w3, a4, b4]⟩
theorem step4 {w : Str} {a b c : D} (hw : smol (.str w) = true ∧ nod (.str w) = 1 ∧ PyData.strOk w = true) (ha : smol a = true ∧ nod a = 1 ∧ a.depth = 0 ∧ a.canLay0 = true) (hb : smol b = true ∧ nod b = 1 ∧ b.depth = 0 ∧ b.canLay0 = true) (hc : smol c = true ∧ nod c = 1 ∧ c.depth = 0 ∧ c.canLay0 = true) : Step (.tuple [.str w, a, b, c]) := by
  obtain ⟨w1, w2, w3⟩ := hw
  obtain ⟨a1, a2, a3, a4⟩ := ha
  obtain ⟨b1, b2, b3, b4⟩ := hb
  obtain ⟨c1, c2, c3, c4⟩ := hc
  exact ⟨by rw [smol, smolAll, smolAll, smolAll, smolAll, smolAll, w1, a1, b1, c1]; rfl, by rw [nod, nodAll, nodAll, nodAll, nodAll, nodAll, w2, a2, b2, c2]; decide, by simp [PyData.depth, PyData.depthAll, a3, b3, c3], fun _ _ => by simp [PyData.canLay0, PyData.canLayAll0, w3, a4, b4, c4]⟩
theorem okI {i : Int} (h : smI i) : smol (.int i) = true ∧ nod (.int i) = 1 ∧ (PyData.int i).depth = 0 ∧ (PyData.int i).canLay0 = true := ⟨smol_int h, by rw [nod], by rw [PyData.depth], by rw [PyData.canLay0]⟩
theorem made_step {d : D} (h : Made d) : Step d := by
  cases h with
  | inn lo hi s _ h1 h2 h3 => exact step4 (by decide +kernel) (okI h1) (okI h2) (okI h3)
  | iss i h => exact step2 (by decide +kernel) (okI h)
  | two w i j hw h1 h2 => exact step3 (by rcases hw with rfl | rfl | rfl <;> decide +kernel) (okI h1) (okI h2)
theorem made_named {d : D} (h : Made d) : named d := by
  cases h <;> exact ⟨_, _, rfl⟩
theorem made_span {d : D} (h : Made d) (hin : isIn d = true) : spanOk (spanOf d) := by
  cases h with
  | inn lo hi s h0 h1 h2 h3 => exact ⟨lo, hi, s, rfl, h0, h3, h1, h2⟩
  | iss i h => rw [isIn, w1] at hin; cases hin
  | two w i j hw h1 h2 =>
    rw [isIn] at hin
    rcases hw with rfl | rfl | rfl
    · rw [w2] at hin; cases hin
    · rw [w3] at hin; cases hin
    · rw [w4] at hin; cases hin
theorem p__law_odd_step (as : List Ar) (q : Rt → Prop) (h : C__law_odd_step as q) : as.length = 2 ∧ rd__law_odd_step (En0 q) (as.map Ar.en ++ List.replicate 2 .un) := by
  obtain ⟨p, rfl, hp, h⟩ := h
  walk_at "dl in"
  unfold rd__law_odd_step
  walk_at "dl go"
  intro x hx
  walk_at "dl go"
  refine h x ?_
  simp only [List.mem_append, List.mem_cons, List.not_mem_nil, or_false] at hx
  repeat' (with_reducible refine Or.elim hx (fun hx => ?_) (fun hx => ?_))
  all_goals subst hx
  all_goals first
    | exact ⟨by decide +kernel, by decide +kernel, by decide +kernel, fun _ _ => by decide +kernel⟩
    | exact ⟨by decide +kernel, by decide +kernel, by decide +kernel, fun _ e => nomatch e⟩
    | exact step3 (by decide +kernel) (okI (by first | exact hp | exact sm_of (by decide +kernel))) (okI (by first | exact hp | exact sm_of (by decide +kernel)))

end K35

namespace K35
open PySem DL
local macro_rules | `(tactic| walk_at "dl side") => `(tactic| first | assumption | omega | rfl | decide | (simp; done) | (simp; omega) | fail)
local macro_rules | `(tactic| walk_at "dl mul") => `(tactic| first | exact mul_l (by first | decide | omega) | exact mul_r (by first | decide | omega) | exact mul_b (by first | decide | omega) (by first | decide | omega))
local macro_rules | `(tactic| walk_at "dl div") => `(tactic| exact div_ok (by first | decide | omega) (by first | decide | omega))
local macro_rules | `(tactic| walk_at "dl go") => `(tactic| repeat (first | refine St.out ?_ | (with_reducible refine t_brbT (by first | assumption | with_unfolding_all rfl) ?_) | (with_reducible refine t_brbF (by first | assumption | with_unfolding_all rfl) ?_) | ((with_reducible refine And.intro ?_ ?_); focus (first | walk_at "dl mul" | walk_at "dl div" | walk_at "dl side" | fail)) | fail))
local macro_rules | `(tactic| walk_at "dl in") => `(tactic| (refine ⟨rfl, ?_⟩; simp only [List.map_cons, List.map_nil, List.replicate_succ, List.replicate_zero, List.cons_append, List.nil_append, List.append_nil]))
theorem nod_len : ∀ {xs : List D}, xs.length ≤ nodAll xs
  | [] => Nat.le_refl _
  | x :: xs => by
    have := nod_len (xs := xs)
    have h1 : 1 ≤ nod x := by cases x <;> rw [nod] <;> omega
    rw [nodAll, List.length_cons]
    omega
theorem row_sm {n k : Nat} : ∀ {xs : List D}, (∀ x ∈ xs, smol x = true ∧ nod x ≤ k ∧ x.depth ≤ n) → smolAll xs = true ∧ nodAll xs ≤ k * xs.length ∧ PyData.depthAll xs ≤ n
  | [], _ => ⟨rfl, by simp [nodAll], by simp [PyData.depthAll]⟩
  | x :: xs, h => by
    obtain ⟨h1, h2, h3⟩ := row_sm (xs := xs) fun y hy => h y (List.mem_cons_of_mem _ hy)
    obtain ⟨k1, k2, k3⟩ := h x (by simp)
    refine ⟨by rw [smolAll, k1, h1]; rfl, ?_, ?_⟩
    · rw [nodAll, List.length_cons, Nat.mul_succ]; omega
    · rw [PyData.depthAll]; exact Nat.max_le.mpr ⟨k3, h3⟩
theorem tup_sm {n k m : Nat} {xs : List D} (h : ∀ x ∈ xs, smol x = true ∧ nod x ≤ k ∧ x.depth ≤ n) (hl : xs.length ≤ m) : smol (.tuple xs) = true ∧ nod (.tuple xs) ≤ 1 + k * m ∧ (PyData.tuple xs).depth ≤ n + 1 := by
  obtain ⟨h1, h2, h3⟩ := row_sm h
  refine ⟨by rw [smol]; exact h1, ?_, by rw [PyData.depth]; omega⟩
  rw [nod]
  have := Nat.mul_le_mul_left k hl
  omega
theorem lis_sm {n k m : Nat} {xs : List D} (h : ∀ x ∈ xs, smol x = true ∧ nod x ≤ k ∧ x.depth ≤ n) (hl : xs.length ≤ m) : smol (.list xs) = true ∧ nod (.list xs) ≤ 1 + k * m ∧ (PyData.list xs).depth ≤ n + 1 := by
  obtain ⟨h1, h2, h3⟩ := row_sm h
  refine ⟨by rw [smol]; exact h1, ?_, by rw [PyData.depth]; omega⟩
  rw [nod]
  have := Nat.mul_le_mul_left k hl
  omega
theorem int_sm {i : Int} (h : i.natAbs < 10 ^ 124) : smol (.int i) = true ∧ nod (.int i) ≤ 2 ∧ (PyData.int i).depth ≤ 1 := ⟨by rw [smol]; exact decide_eq_true h, by rw [nod]; omega, by rw [PyData.depth]; omega⟩
theorem cut_sub {xs : List D} {lo hi : Option Int} : ∀ x ∈ cutL xs lo hi, x ∈ xs := fun x hx => by
  unfold cutL at hx
  exact List.mem_of_mem_drop (List.mem_of_mem_take hx)
theorem cut_len {xs : List D} {lo hi : Option Int} : (cutL xs lo hi).length ≤ xs.length := by
  unfold cutL
  rw [List.length_take, List.length_drop]
  omega
theorem rep_mem {n : Nat} {a x : D} (h : x ∈ (List.replicate n [a]).flatten) : x = a := by
  obtain ⟨l, h1, h2⟩ := List.mem_flatten.mp h
  rw [(List.mem_replicate.mp h1).2] at h2
  exact List.mem_singleton.mp h2
theorem rep_len {n : Nat} {a : D} : (List.replicate n [a]).flatten.length = n := by simp
theorem leaf_ok {x : D} (h : smol x = true ∧ nod x ≤ 2 ∧ x.depth ≤ 1) : smol x = true ∧ nod x ≤ 1000 ∧ x.depth ≤ 4 := ⟨h.1, by omega, by omega⟩
theorem odd_ok {own : List D} (nl : own.length ≤ 100) (allI : ∀ x ∈ own, smol x = true ∧ nod x ≤ 2 ∧ x.depth ≤ 1) {x : D} (hx : x ∈ [PyData.none, .list [], .dict [], .str "", .tuple (List.replicate (Int.toNat 13) [PyData.int 0]).flatten, .tuple (own ++ [.int 0]), .list own, .tuple (cutL own (some 1) none),
    .tuple (List.replicate ((own.length : Int)).toNat [PyData.none]).flatten, .int 3]) : smol x = true ∧ nod x ≤ 1000 ∧ x.depth ≤ 4 := by
  simp only [List.mem_cons, List.not_mem_nil, or_false] at hx
  have big : ∀ {y : D}, (smol y = true ∧ nod y ≤ 1 + 2 * 101 ∧ y.depth ≤ 1 + 1) → smol y = true ∧ nod y ≤ 1000 ∧ y.depth ≤ 4 := fun h => ⟨h.1, by omega, by omega⟩
  rcases hx with rfl | rfl | rfl | rfl | rfl | rfl | rfl | rfl | rfl | rfl
  · exact leaf_ok (by decide)
  · exact leaf_ok (by decide)
  · exact leaf_ok (by decide)
  · exact leaf_ok (by decide +kernel)
  · exact big (tup_sm (fun y hy => by rw [rep_mem hy]; decide +kernel) (by rw [rep_len]; decide))
  · exact big (tup_sm (fun y hy => by
      rcases List.mem_append.mp hy with hy | hy
      · exact allI y hy
      · rw [List.mem_singleton.mp hy]; decide +kernel) (by simp; omega))
  · exact big (lis_sm allI (by omega))
  · exact big (tup_sm (fun y hy => allI y (cut_sub y hy)) (Nat.le_trans cut_len (by omega)))
  · exact big (tup_sm (fun y hy => by rw [rep_mem hy]; decide) (by rw [rep_len]; omega))
  · exact leaf_ok (by decide +kernel)
theorem p__law_odd_inputs (as : List Ar) (q : Rt → Prop) (h : C__law_odd_inputs as q) : as.length = 2 ∧ rd__law_odd_inputs (En0 q) (as.map Ar.en ++ List.replicate 8 .un) := by
  obtain ⟨ds, rfl, ⟨hl, hm⟩, h⟩ := h
  walk_at "dl in"
  unfold rd__law_odd_inputs
  have sok : ∀ sp ∈ spansOf ds, spanOk sp := spans_ok fun x hx => ⟨made_named (hm x hx), made_span (hm x hx)⟩
  have sl : (spansOf ds).length ≤ 100 := Nat.le_trans (List.length_filterMap_le _ _) hl
  walk_at "dl go"
  refine ⟨⟨by omega, fun x hx => made_named (hm x hx)⟩, ?_⟩
  walk_at "dl go"
  refine ⟨⟨by omega, sok⟩, ?_⟩
  generalize spansOf ds = sps at sok sl
  intro ns hns hsm
  have nl : (ns.map PyData.int).length = sps.length := by rw [List.length_map, hns]
  have allI : ∀ x ∈ ns.map PyData.int, smol x = true ∧ nod x ≤ 2 ∧ x.depth ≤ 1 := fun x hx => by
    obtain ⟨i, hi, rfl⟩ := mem_ints hx
    exact int_sm (by have := hsm i hi; omega)
  have nl1 : (ns.map PyData.int).length + [PyData.int 0].length ≤ 1000000 := by rw [nl]; simp; omega
  generalize ns.map PyData.int = own at nl allI nl1
  have hown : own.length ≤ 1000000 := by omega
  have o100 : own.length ≤ 100 := by omega
  walk_at "dl go"
  try refine ⟨⟨by omega, by omega, by decide⟩, ?_⟩
  walk_at "dl go"
  refine t_brb (fun e => ?_) (fun e => ?_)
  · have hne : own ≠ [] := by
      intro z
      rw [z] at e
      cases e
    have hpos : own.length ≠ 0 := fun z => hne (List.eq_nil_of_length_eq_zero z)
    walk_at "dl go"
    intro r b1 b2
    walk_at "dl go"
    refine t_brb (fun e => ?_) (fun e => ?_)
    · walk_at "dl go"
      intro r2 c1 c2
      obtain ⟨sp, hsp⟩ := at_len (l := sps) (j := r2.toNat) (by omega)
      obtain ⟨lo, hi, st, rfl, d1, d2, d3, d4⟩ := sok sp (mem_at hsp)
      walk_at "dl go"
      refine ixAt_of (j := r2.toNat) (by omega) hsp ?_
      walk_at "dl go"
      intro x hx
      have hx2 : smol x = true ∧ nod x ≤ 2 ∧ x.depth ≤ 1 := by
        simp only [List.mem_cons, List.not_mem_nil, or_false] at hx
        rcases hx with rfl | rfl | rfl | rfl | rfl | rfl | rfl | rfl | rfl | rfl | rfl
        · exact int_sm (by omega)
        · exact int_sm (by omega)
        · exact int_sm (by omega)
        · exact int_sm (by omega)
        · decide
        · decide
        · decide
        · decide +kernel
        · obtain ⟨k1, k2, k3⟩ := int_sm (i := lo) (by omega)
          exact ⟨by rw [smol, smolAll, smolAll, k1]; rfl, by rw [nod, nodAll, nodAll, nod]; decide, by rw [PyData.depth, PyData.depthAll, PyData.depthAll, PyData.depth]; decide⟩
        · exact int_sm (by omega)
        · exact int_sm (by omega)
      walk_at "dl go"
      refine atIx_of (j := r2.toNat) (by omega) (by omega) ?_
      walk_at "dl go"
      have fin3 := tup_sm (n := 1) (k := 2) (m := 100) (xs := own.set r2.toNat x) (fun y hy => by
        rcases List.mem_or_eq_of_mem_set hy with hy | hy
        · exact allI y hy
        · rw [hy]; exact hx2) (by rw [List.length_set]; omega)
      exact h _ fin3.1 (Nat.le_trans fin3.2.1 (by decide)) (Nat.le_trans fin3.2.2 (by decide))
    · walk_at "dl go"
      intro x hx
      walk_at "dl go"
      obtain ⟨k1, k2, k3⟩ := odd_ok o100 allI hx
      exact h _ k1 k2 k3
  · walk_at "dl go"
    intro x hx
    walk_at "dl go"
    obtain ⟨k1, k2, k3⟩ := odd_ok o100 allI hx
    exact h _ k1 k2 k3
theorem bad_lt : ∀ {ds : List D} {n m : Nat}, badAt n ds = some m → m < n + ds.length
  | [], _, _, h => by rw [badAt] at h; cases h
  | d :: ds, n, m, h => by
    rw [badAt] at h
    split at h
    · have := bad_lt h
      rw [List.length_cons]; omega
    · cases h
      rw [List.length_cons]; omega
theorem prog_sm (d : D) : smol (progE d) = true ∧ nod (progE d) ≤ 3 ∧ (progE d).depth ≤ 1 := by
  unfold progE
  split
  · split
    · rename_i ds hb
      split
      · rename_i n e
        have := bad_lt e
        have k := smol_int (i := (n : Int)) (by unfold smI; omega)
        exact ⟨by rw [smol, smolAll, smolAll, smolAll, k]; decide +kernel, by rw [nod, nodAll, nodAll, nodAll, nod, nod]; decide +kernel, by simp [PyData.depth, PyData.depthAll]⟩
      · split <;> decide +kernel
    · decide +kernel
  · decide +kernel
theorem step_tok {d : D} (h : Step d) : tok d := fun ds e => by
  unfold SeqAt.shaped
  rw [Bool.and_eq_true]
  exact ⟨h.2.2.2 ds e, decide_eq_true (Nat.le_trans h.2.2.1 (by decide))⟩
theorem thing_ok {d : D} (h : Thing d) : ∀ ds, d = .tuple ds → ds.length ≤ 1000 ∧ ∀ x ∈ ds, tok x ∧ ∀ es, x = .tuple es → es.length ≤ 100000 := by
  intro ds e
  subst e
  obtain ⟨h1, h2, h3, h4⟩ := h
  rw [nod] at h2
  refine ⟨by have := nod_len (xs := ds); omega, fun x hx => ⟨step_tok (h4 ds rfl x hx), fun es e => ?_⟩⟩
  have k := (h4 ds rfl x hx).2.1
  subst e
  rw [nod] at k
  have := nod_len (xs := es)
  omega
theorem p__law_is_judged (as : List Ar) (q : Rt → Prop) (h : C__law_is_judged as q) : as.length = 2 ∧ rd__law_is_judged (En0 q) (as.map Ar.en ++ List.replicate 3 .un) := by
  obtain ⟨d, b, rfl, ht, h⟩ := h
  have hok := thing_ok ht
  have hok2 : ∀ ds, d = .tuple ds → ds.length ≤ 1000 ∧ ∀ x ∈ ds, tok x := fun ds e => ⟨(hok ds e).1, fun x hx => ((hok ds e).2 x hx).1⟩
  obtain ⟨h1, h2, h3, h4⟩ := ht
  have sh := show_ok h1 h2 (by decide) (by omega)
  obtain ⟨p1, p2, p3⟩ := prog_sm d
  have t1 := smol_text h1
  have t2 := nod_text h1 h2
  have shL : (PyData.list [progE d, progE d, .str d.shown]).showable = true ∧ (PyData.list [progE d, progE d, .str d.shown]).shown.length ≤ 16000000 ∧ (PyData.list [progE d, progE d, .str d.shown]).depth ≤ 40 := by
    refine show_ok (n := 20000) (by rw [smol, smolAll, smolAll, smolAll, smolAll, p1, t1]; rfl) ?_ (by decide) ?_
    · rw [nod, nodAll, nodAll, nodAll, nodAll]; omega
    · rw [PyData.depth, PyData.depthAll, PyData.depthAll, PyData.depthAll, PyData.depthAll, PyData.depth]; omega
  walk_at "dl in"
  unfold rd__law_is_judged
  walk_at "dl go"
  cases b with
  | true =>
    walk_at "dl go"
    change C_program_error [.va d] _
    walk_at "dl go"
    exact fin h (decide_eq_true rfl)
  | false =>
    walk_at "dl go"
    exact fin h (decide_eq_true rfl)

end K35

namespace K35
open PySem DL
local macro_rules | `(tactic| walk_at "dl side") => `(tactic| first | assumption | omega | rfl | decide | (simp; done) | (simp; omega) | fail)
local macro_rules | `(tactic| walk_at "dl mul") => `(tactic| first | exact mul_l (by first | decide | omega) | exact mul_r (by first | decide | omega) | exact mul_b (by first | decide | omega) (by first | decide | omega))
local macro_rules | `(tactic| walk_at "dl div") => `(tactic| exact div_ok (by first | decide | omega) (by first | decide | omega))
local macro_rules | `(tactic| walk_at "dl go") => `(tactic| repeat (first | refine St.out ?_ | (with_reducible refine t_brbT (by first | assumption | with_unfolding_all rfl) ?_) | (with_reducible refine t_brbF (by first | assumption | with_unfolding_all rfl) ?_) | ((with_reducible refine And.intro ?_ ?_); focus (first | walk_at "dl mul" | walk_at "dl div" | walk_at "dl side" | fail)) | fail))
local macro_rules | `(tactic| walk_at "dl in") => `(tactic| (refine ⟨rfl, ?_⟩; simp only [List.map_cons, List.map_nil, List.replicate_succ, List.replicate_zero, List.cons_append, List.nil_append, List.append_nil]))
theorem one_step : Step (.tuple [.str "in", .int 0, .int 1, .int 1]) := ⟨by decide +kernel, by decide +kernel, by decide +kernel, fun _ _ => by decide +kernel⟩
theorem thing_tup {xs : List D} (h : ∀ x ∈ xs, Step x) (hl : xs.length ≤ 40) : Thing (.tuple xs) := by
  obtain ⟨h1, h2, h3⟩ := tup_sm (n := 3) (k := 20) (m := 40) (fun x hx => ⟨(h x hx).1, (h x hx).2.1, (h x hx).2.2.1⟩) hl
  exact ⟨h1, by omega, by omega, fun ds e x hx => by cases e; exact h x hx⟩
theorem thing_list {xs : List D} (h : ∀ x ∈ xs, Step x) (hl : xs.length ≤ 40) : Thing (.list xs) := by
  obtain ⟨h1, h2, h3⟩ := lis_sm (n := 3) (k := 20) (m := 40) (fun x hx => ⟨(h x hx).1, (h x hx).2.1, (h x hx).2.2.1⟩) hl
  exact ⟨h1, by omega, by omega, fun ds e x hx => by cases e⟩
theorem step_app {xs ys : List D} (h : ∀ x ∈ xs, Step x) (k : ∀ x ∈ ys, Step x) : ∀ x ∈ xs ++ ys, Step x := fun x hx => (List.mem_append.mp hx).elim (h x) (k x)
theorem step_cut {xs : List D} {lo hi : Option Int} (h : ∀ x ∈ xs, Step x) : ∀ x ∈ cutL xs lo hi, Step x := fun x hx => h x (cut_sub x hx)
theorem step_one {d : D} (h : Step d) : ∀ x ∈ [d], Step x := fun x hx => by rw [List.mem_singleton.mp hx]; exact h
theorem step_rep {n : Nat} {d : D} (h : Step d) : ∀ x ∈ (List.replicate n [d]).flatten, Step x := fun x hx => by rw [rep_mem hx]; exact h
theorem things_app {xs ys : List D} (h : ∀ x ∈ xs, Thing x) (k : ∀ x ∈ ys, Thing x) : ∀ x ∈ xs ++ ys, Thing x := fun x hx => (List.mem_append.mp hx).elim (h x) (k x)
theorem pair_show {ds : List D} {d : D} (h : ∀ x ∈ ds, Step x) (hl : ds.length ≤ 100) (h1 : smol d = true) (h2 : nod d ≤ 1000) (h3 : d.depth ≤ 4) :
    (PyData.list [.tuple ds, d]).showable = true ∧ (PyData.list [.tuple ds, d]).shown.length ≤ 16000000 ∧ (PyData.list [.tuple ds, d]).depth ≤ 40 := by
  obtain ⟨k1, k2, k3⟩ := tup_sm (n := 3) (k := 20) (m := 100) (fun x hx => ⟨(h x hx).1, (h x hx).2.1, (h x hx).2.2.1⟩) hl
  refine show_ok (n := 5000) (by rw [smol, smolAll, smolAll, smolAll, k1, h1]; rfl) ?_ (by decide) ?_
  · rw [nod, nodAll, nodAll, nodAll]; omega
  · rw [PyData.depth, PyData.depthAll, PyData.depthAll, PyData.depthAll]; omega
theorem badIn_lt : ∀ {sps ds : List D} {n m : Nat}, badIn n sps ds = some m → m < n + sps.length
  | [], _, _, _, h => by rw [bad_nilL] at h; cases h
  | _ :: _, [], _, _, h => by rw [bad_nilR] at h; cases h
  | sp :: sps, d :: ds, n, m, h => by
    rw [badIn] at h
    split at h
    · have := badIn_lt h
      rw [List.length_cons]; omega
    · cases h
      rw [List.length_cons]; omega
theorem inp_show {sps : List D} {d : D} (hl : sps.length ≤ 1000) : (inpE sps d).showable = true ∧ (inpE sps d).shown.length ≤ 16000000 ∧ (inpE sps d).depth ≤ 40 := by
  unfold inpE
  split
  · split
    · split
      · rename_i n e
        have := badIn_lt e
        have k := smol_int (i := (n : Int)) (by unfold smI; omega)
        exact show_ok (n := 10) (by rw [smol, smolAll, smolAll, smolAll, k]; decide +kernel) (by rw [nod, nodAll, nodAll, nodAll, nod, nod]; decide +kernel) (by decide) (by simp [PyData.depth, PyData.depthAll])
      · exact show_ok (n := 10) (by decide +kernel) (by decide +kernel) (by decide) (by decide +kernel)
    · exact show_ok (n := 10) (by decide +kernel) (by decide +kernel) (by decide) (by decide +kernel)
  · exact show_ok (n := 10) (by decide +kernel) (by decide +kernel) (by decide) (by decide +kernel)
/-- inputs judged twice, within the law's turns -/
theorem made_ok {ds : List D} (h : ∀ x ∈ ds, Made x) : ∀ x ∈ ds, named x ∧ (isIn x = true → spanOk (spanOf x)) := fun x hx => ⟨made_named (h x hx), made_span (h x hx)⟩
instance (priority := high) i_neSame {x : Str} {k : Rt → Prop} : St (oNe (.str x) (.str x) k) (k (.va (.bool false))) := ⟨fun h => t_neS (by rw [decide_eq_true rfl]; exact h)⟩
theorem sum00 : Step (.tuple [.str "sum", .int 0, .int 0]) := ⟨by decide +kernel, by decide +kernel, by decide +kernel, fun _ _ => by decide +kernel⟩
theorem less00 : Step (.tuple [.str "less", .int 0, .int 0]) := ⟨by decide +kernel, by decide +kernel, by decide +kernel, fun _ _ => by decide +kernel⟩
theorem sum13 : Step (.tuple [.str "sum", .int 0, .int 13]) := ⟨by decide +kernel, by decide +kernel, by decide +kernel, fun _ _ => by decide +kernel⟩
theorem is0 : Step (.tuple [.str "is", .int 0]) := ⟨by decide +kernel, by decide +kernel, by decide +kernel, fun _ _ => by decide +kernel⟩
theorem step_two {a b : D} (h : Step a) (k : Step b) : ∀ x ∈ [a, b], Step x := fun x hx => by
  simp only [List.mem_cons, List.not_mem_nil, or_false] at hx
  rcases hx with rfl | rfl
  · exact h
  · exact k
theorem step_leaf {d : D} (h : smol d = true ∧ nod d ≤ 20 ∧ d.depth ≤ 3 ∧ ¬ ∃ ds, d = .tuple ds) : Step d := ⟨h.1, h.2.1, h.2.2.1, fun ds e => absurd ⟨ds, e⟩ h.2.2.2⟩
theorem step_none : Step .none := step_leaf ⟨by decide, by decide, by decide, fun ⟨_, e⟩ => nomatch e⟩
theorem step_int {i : Int} (h : smI i) : Step (.int i) := step_leaf ⟨smol_int h, by rw [nod]; decide, by rw [PyData.depth]; decide, fun ⟨_, e⟩ => nomatch e⟩
theorem step_in : Step (.str "in") := step_leaf ⟨by decide +kernel, by decide +kernel, by decide, fun ⟨_, e⟩ => nomatch e⟩
theorem thing_one : Thing (.tuple [.str "in", .int 0, .int 1, .int 1]) := thing_tup (fun x hx => by
  simp only [List.mem_cons, List.not_mem_nil, or_false] at hx
  rcases hx with rfl | rfl | rfl | rfl
  · exact step_in
  · exact step_int (sm_of (by decide))
  · exact step_int (sm_of (by decide))
  · exact step_int (sm_of (by decide))) (by decide)
theorem thing_leaf {d : D} (h : smol d = true ∧ nod d ≤ 1000 ∧ d.depth ≤ 5 ∧ ¬ ∃ ds, d = .tuple ds) : Thing d := ⟨h.1, h.2.1, h.2.2.1, fun ds e => absurd ⟨ds, e⟩ h.2.2.2⟩
theorem thing_nil : Thing (.tuple []) := ⟨by decide, by decide, by decide, fun ds e x hx => by cases e; cases hx⟩
def rest2 : SS := sSeq (sSet2 10 11 (xUn oRepr (xLst (aCons (xVar 6) (aCons (xVar 9) (aNil))))) (xDef C__law_inputs_error (cVa (xVar 6) (cVa (xVar 9) (cNil))))) (sSeq (sSet 12 (xIf (bX (xBin oEq (xVar 5) (xC (.int 3)))) (xDefK C_inputs_error [1, 0] (cVa (xVar 9) (cVa (xVar 6) (cNil)))) (xDef C_inputs_error (cVa (xVar 6) (cVa (xVar 9) (cNil)))))) (sIf (bOr (bX (xBin oNe (xUn oRepr (xVar 12)) (xUn oRepr (xVar 11)))) (bX (xBin oNe (xUn oRepr (xLst (aCons (xVar 6) (aCons (xVar 9) (aNil))))) (xVar 10)))) (sRet (xC (.bool false))) (sPass)))
theorem rest2_ok {N C bk : Ev → Prop} {rt : Rt → Prop} {s a2 a3 a4 a7 a8 a10 a11 a12 : En} {t : Int} {prog : List D} {v : D} (hp : ∀ x ∈ prog, Made x) (hl : prog.length ≤ 30) (h1 : smol v = true) (h2 : nod v ≤ 1000) (h3 : v.depth ≤ 4)
    (hN : ∀ a10 a11 a12 : En, N [s, .dk, a2, a3, a4, .va (.int t), .va (.tuple prog), a7, a8, .va v, a10, a11, a12, .un, .un]) : rest2 ⟨N, rt, bk, C⟩ [s, .dk, a2, a3, a4, .va (.int t), .va (.tuple prog), a7, a8, .va v, a10, a11, a12, .un, .un] := by
  have sp : ∀ x ∈ prog, Step x := fun x hx => made_step (hp x hx)
  have ps := pair_show sp (by omega) h1 h2 h3
  have mk : prog.length ≤ 1000 ∧ ∀ x ∈ prog, named x ∧ (isIn x = true → spanOk (spanOf x)) := ⟨by omega, made_ok hp⟩
  have is := inp_show (sps := spansOf prog) (d := v) (Nat.le_trans (List.length_filterMap_le _ _) mk.1)
  unfold rest2
  walk_at "dl go"
  refine t_brb (fun e => ?_) (fun e => ?_)
  · walk_at "dl go"
    change C_inputs_error [.va (.tuple prog), .va v] _
    walk_at "dl go"
    exact hN _ _ _
  · walk_at "dl go"
    exact hN _ _ _
theorem law_run (q : Rt → Prop) (s : En) (h : q (bo true)) : rd_law (En0 q) ([s, .dk] ++ List.replicate 13 .un) := by
  simp only [List.replicate_succ, List.replicate_zero, List.cons_append, List.nil_append]
  unfold rd_law
  walk_at "dl go"
  intro far hfl hfar
  have sfar : ∀ x ∈ far, Step x := fun x hx => made_step (hfar x hx)
  have hc29 : (cutL far none (some 29)).length ≤ 30 := Nat.le_trans cut_len (by omega)
  walk_at "dl go"
  refine forL_of (fun n ρ => ∃ (ths : List D) (a5 a6 a7 a8 a9 a10 a11 a12 : En), ρ = [s, .dk, .va (.tuple [.str "in", .int 0, .int 1, .int 1]), .va (.tuple far), .ow ths, a5, a6, a7, a8, a9, a10, a11, a12, .un, .un] ∧ ths.length ≤ 30 + 10 * n ∧ ∀ x ∈ ths, Thing x) _ 0 _
    ⟨_, _, _, _, _, _, _, _, _, rfl, by simp, fun x hx => ?_⟩ ?_ ?_
  · simp only [List.mem_append, List.mem_cons, List.not_mem_nil, or_false] at hx
    repeat' (with_reducible refine Or.elim hx (fun hx => ?_) (fun hx => ?_))
    all_goals subst hx
    all_goals first
      | exact thing_tup sfar (by omega)
      | exact thing_tup (step_app sfar (step_one is0)) (by simp; omega)
      | exact thing_tup (step_rep one_step) (by simp)
      | exact thing_tup (step_app (step_rep one_step) (step_one sum13)) (by simp)
      | exact thing_tup (step_app (step_cut sfar) (step_one one_step)) (by simp; omega)
      | exact thing_tup (step_one less00) (by simp)
      | exact thing_nil
      | exact thing_tup (step_two one_step sum00) (by simp)
      | exact thing_list sfar (by omega)
      | exact thing_tup (step_two one_step step_none) (by simp)
      | exact thing_one
      | exact thing_leaf ⟨by decide +kernel, by decide +kernel, by decide +kernel, fun ⟨_, e⟩ => nomatch e⟩
  · rintro j d ρ N C e ⟨ths, a5, a6, a7, a8, a9, a10, a11, a12, rfl, htl, hth⟩ n1 n2
    obtain ⟨rfl, hj⟩ := rng_get e
    rw [Int.zero_add]
    rw [Nat.zero_add] at htl n1
    have hj10 : j < 10 := by simpa using hj
    unfold lp1_law
    walk_at "dl go"
    intro r b1 b2
    walk_at "dl go"
    refine ⟨⟨by simp, by simp, fun x hx => ?_⟩, ?_⟩
    · simp only [List.mem_cons, List.not_mem_nil, or_false] at hx
      rcases hx with rfl | rfl | rfl | rfl <;> exact ⟨_, rfl, sm_of (by decide +kernel)⟩
    intro prog hpl hprog
    have hp8 : prog.length ≤ 8 := by omega
    have sprog : ∀ x ∈ prog, Step x := fun x hx => made_step (hprog x hx)
    walk_at "dl go"
    intro a0 b3 b4
    have hs1 : smI a0 := sm_of (by omega)
    have c1 : (cutL prog none (some a0)).length ≤ 8 := Nat.le_trans cut_len (by omega)
    have c2 : (cutL prog (some (a0 + 1)) none).length ≤ 8 := Nat.le_trans cut_len (by omega)
    have c3 : (cutL prog (some a0) none).length ≤ 8 := Nat.le_trans cut_len (by omega)
    walk_at "dl go"
    intro od hod
    walk_at "dl go"
    intro a1 b5 b6
    have hs2 : smI a1 := sm_of (by omega)
    have c4 : (cutL far none (some a1)).length ≤ 30 := Nat.le_trans cut_len (by omega)
    have c5 : (cutL far (some (a1 + 1)) none).length ≤ 30 := Nat.le_trans cut_len (by omega)
    have c6 : ∀ d : D, Step d → (cutL far none (some a1) ++ [d] ++ cutL far (some (a1 + 1)) none).length ≤ 40 := fun d hd => by
      have h1 := hfl
      have k1 : (cutL far none (some a1)).length = a1.toNat := by
        unfold cutL slAt
        simp only [List.length_take, List.length_drop]
        rw [if_neg (by omega)]
        omega
      have k2 : (cutL far (some (a1 + 1)) none).length = 29 - a1.toNat := by
        unfold cutL slAt
        simp only [List.length_take, List.length_drop]
        rw [if_neg (by omega)]
        omega
      simp only [List.length_append, List.length_singleton, k1, k2]
      omega
    walk_at "dl go"
    intro od2 hod2
    walk_at "dl go"
    refine forL_of (fun n ρ => ∃ (T : List D) (a8 a9 a10 a11 a12 : En), ρ = [s, .dk, .va (.tuple [.str "in", .int 0, .int 1, .int 1]), .va (.tuple far), .ow T, .va (.int j), .va (.tuple prog), .va (.int a1), a8, a9, a10, a11, a12, .un, .un] ∧ T.length ≤ 30 + 10 * (j + 1) ∧ ∀ x ∈ T, Thing x) _ 0 _
      ⟨_, _, _, _, _, _, rfl, by simp; omega, fun x hx => ?_⟩ ?_ ?_
    · simp only [List.mem_append, List.mem_cons, List.not_mem_nil, or_false] at hx
      rcases hx with (hx | rfl | rfl | rfl) | rfl
      · exact hth x hx
      · exact thing_tup sprog (by omega)
      · exact thing_tup (step_app (step_app (step_cut sprog) (step_one hod)) (step_cut sprog)) (by simp; omega)
      · exact thing_tup (step_cut sprog) (by omega)
      · exact thing_tup (step_app (step_app (step_cut sfar) (step_one hod2)) (step_cut sfar)) (c6 _ hod2)
    · rintro j2 d ρ N2 C2 e ⟨T, a8, a9, a10, a11, a12, rfl, hT1, hT2⟩ m1 m2
      obtain ⟨rfl, hj2⟩ := rng_get e
      have hm1 : prog.length ≤ 100 ∧ ∀ x ∈ prog, Made x := ⟨by omega, hprog⟩
      have hm2 : prog.length ≤ 1000 ∧ ∀ x ∈ prog, named x := ⟨by omega, fun x hx => made_named (hprog x hx)⟩
      have hm3 : (spansOf prog).length ≤ 1000 ∧ ∀ x ∈ spansOf prog, spanOk x := ⟨Nat.le_trans (List.length_filterMap_le _ _) hm2.1, spans_ok (made_ok hprog)⟩
      have hs8 : (spansOf prog).length ≤ 8 := Nat.le_trans (List.length_filterMap_le _ _) hp8
      unfold lp2_law
      walk_at "dl go"
      refine t_brb (fun e => ?_) (fun e => ?_)
      · walk_at "dl go"
        intro v h1 h2 h3
        refine St.out ?_
        exact rest2_ok hprog (by omega) h1 h2 h3 fun _ _ _ => m1 _ ⟨T, _, _, _, _, _, rfl, hT1, hT2⟩
      · walk_at "dl go"
        intro ns hns hsm
        obtain ⟨k1, k2, k3⟩ := tup_sm (n := 1) (k := 2) (m := 8) (xs := ns.map PyData.int) (fun x hx => by
          obtain ⟨i, hi, rfl⟩ := mem_ints hx
          exact int_sm (by have := hsm i hi; omega)) (by rw [List.length_map, hns]; exact hs8)
        refine St.out ?_
        exact rest2_ok hprog (by omega) k1 (Nat.le_trans k2 (by decide)) (Nat.le_trans k3 (by decide)) fun _ _ _ => m1 _ ⟨T, _, _, _, _, _, rfl, hT1, hT2⟩
    · rintro ρ ⟨T, a8, a9, a10, a11, a12, rfl, hT1, hT2⟩
      walk_at "dl go"
      exact n1 _ ⟨T, _, _, _, _, _, _, _, _, rfl, hT1, hT2⟩
  · rintro ρ ⟨ths, a5, a6, a7, a8, a9, a10, a11, a12, rfl, htl, hth⟩
    rw [Nat.zero_add, rng_len] at htl
    have htl2 : ths.length ≤ 200 := Nat.le_trans htl (by decide)
    have hm1 : far.length ≤ 100 ∧ ∀ x ∈ far, Made x := ⟨by omega, hfar⟩
    have mk : far.length ≤ 1000 ∧ ∀ x ∈ far, named x ∧ (isIn x = true → spanOk (spanOf x)) := ⟨by omega, made_ok hfar⟩
    walk_at "dl go"
    refine forL_of (fun n ρ => ∃ (a5 a9 : En), ρ = [s, .dk, .va (.tuple [.str "in", .int 0, .int 1, .int 1]), .va (.tuple far), .ow ths, a5, a6, a7, a8, a9, a10, a11, a12, .un, .un]) _ 0 _ ⟨_, _, rfl⟩ ?_ ?_
    · rintro j d ρ N C e ⟨a5, a9, rfl⟩ n1 n2
      unfold lp3_law
      walk_at "dl go"
      intro v h1 h2 h3
      have is := inp_show (sps := spansOf far) (d := v) (Nat.le_trans (List.length_filterMap_le _ _) mk.1)
      walk_at "dl go"
      exact n1 _ ⟨_, _, rfl⟩
    · rintro ρ ⟨a5, a9, rfl⟩
      walk_at "dl go"
      refine lcL_fm (ρ := [s, .dk, .va (.tuple [.str "in", .int 0, .int 1, .int 1]), .va (.tuple far), .va (.list ths), a5, a6, a7, a8, a9, a10, a11, a12, .un, .un]) (fun _ => none) (by simp; omega) (fun j d acc G e hl h1 h2 => ?_) ?_
      · obtain ⟨z, ez, rfl⟩ := enum_get e
        walk_at "dl go"
        refine ⟨hth z (mem_at ez), ?_⟩
        walk_at "dl go"
        exact h2 rfl
      · have e0 : ∀ l : List D, l.filterMap (fun _ => (none : Option D)) = [] := fun l => by simp
        rw [e0]
        walk_at "dl go"
        exact h

end K35

namespace K35
open PySem L2 DL PyProof.Rows
def top (i : Nat) : Stmt := PySem.Challenge.pw_everyexact_k35_programs_and_inputs_of_al.main.body.getD i (.Pass ⟨0, 0, 0, 0⟩)
abbrev s_is_integer : Stmt := top 6
abbrev N_is_integer : List Str := ["value"]
theorem sc_is_integer : FnScope N_is_integer ["value"] (defScope s_is_integer) := ⟨rfl, rfl, rfl, by decide +kernel, rfl, by decide +kernel, by decide +kernel⟩
abbrev s_is_number : Stmt := top 7
abbrev N_is_number : List Str := ["value"]
theorem sc_is_number : FnScope N_is_number ["value"] (defScope s_is_number) := ⟨rfl, rfl, rfl, by decide +kernel, rfl, by decide +kernel, by decide +kernel⟩
abbrev s_is_span : Stmt := top 9
abbrev N_is_span : List Str := ["value", "low", "high", "stride"]
theorem sc_is_span : FnScope N_is_span ["value"] (defScope s_is_span) := ⟨rfl, rfl, rfl, by decide +kernel, rfl, by decide +kernel, by decide +kernel⟩
abbrev s_is_held : Stmt := top 10
abbrev N_is_held : List Str := ["span", "value", "low", "high", "stride"]
theorem sc_is_held : FnScope N_is_held ["span", "value"] (defScope s_is_held) := ⟨rfl, rfl, rfl, by decide +kernel, rfl, by decide +kernel, by decide +kernel⟩
abbrev s_is_ahead : Stmt := top 13
abbrev N_is_ahead : List Str := ["value", "place"]
theorem sc_is_ahead : FnScope N_is_ahead ["value", "place"] (defScope s_is_ahead) := ⟨rfl, rfl, rfl, by decide +kernel, rfl, by decide +kernel, by decide +kernel⟩
abbrev s_is_step : Stmt := top 14
abbrev N_is_step : List Str := ["value", "place", "word"]
theorem sc_is_step : FnScope N_is_step ["value", "place"] (defScope s_is_step) := ⟨rfl, rfl, rfl, by decide +kernel, rfl, by decide +kernel, by decide +kernel⟩
abbrev s_spans_of : Stmt := top 15
abbrev N_spans_of : List Str := ["program", "step"]
theorem sc_spans_of : FnScope N_spans_of ["program"] (defScope s_spans_of) := ⟨rfl, rfl, rfl, by decide +kernel, rfl, by decide +kernel, by decide +kernel⟩
abbrev s_program_error : Stmt := top 16
abbrev N_program_error : List Str := ["value", "place", "step"]
theorem sc_program_error : FnScope N_program_error ["value"] (defScope s_program_error) := ⟨rfl, rfl, rfl, by decide +kernel, rfl, by decide +kernel, by decide +kernel⟩
abbrev s_inputs_error : Stmt := top 17
abbrev N_inputs_error : List Str := ["program", "value", "spans", "place", "span"]
theorem sc_inputs_error : FnScope N_inputs_error ["program", "value"] (defScope s_inputs_error) := ⟨rfl, rfl, rfl, by decide +kernel, rfl, by decide +kernel, by decide +kernel⟩
abbrev s__law_deck : Stmt := top 19
abbrev N__law_deck : List Str := ["script", "deck", "cell", "whole"]
theorem sc__law_deck : FnScope N__law_deck ["script"] (defScope s__law_deck) := ⟨rfl, rfl, rfl, by decide +kernel, rfl, by decide +kernel, by decide +kernel⟩
abbrev s__law_draw : Stmt := top 20
abbrev N__law_draw : List Str := ["deck", "many", "whole", "first", "again"]
theorem sc__law_draw : FnScope N__law_draw ["deck", "many"] (defScope s__law_draw) := ⟨rfl, rfl, rfl, by decide +kernel, rfl, by decide +kernel, by decide +kernel⟩
abbrev s__law_pick : Stmt := top 21
abbrev N__law_pick : List Str := ["deck", "row"]
theorem sc__law_pick : FnScope N__law_pick ["deck", "row"] (defScope s__law_pick) := ⟨rfl, rfl, rfl, by decide +kernel, rfl, by decide +kernel, by decide +kernel⟩
abbrev s__law_span : Stmt := top 22
abbrev N__law_span : List Str := ["deck", "most", "many", "stride", "low"]
theorem sc__law_span : FnScope N__law_span ["deck", "most", "many"] (defScope s__law_span) := ⟨rfl, rfl, rfl, by decide +kernel, rfl, by decide +kernel, by decide +kernel⟩
abbrev s__law_program : Stmt := top 23
abbrev N__law_program : List Str := ["deck", "many", "most", "factors", "found", "left", "kept", "place", "word", "low", "high", "stride"]
theorem sc__law_program : FnScope N__law_program ["deck", "many", "most", "factors"] (defScope s__law_program) := ⟨rfl, rfl, rfl, by decide +kernel, rfl, by decide +kernel, by decide +kernel⟩
abbrev s__law_spans_of : Stmt := top 24
abbrev N__law_spans_of : List Str := ["program", "step"]
theorem sc__law_spans_of : FnScope N__law_spans_of ["program"] (defScope s__law_spans_of) := ⟨rfl, rfl, rfl, by decide +kernel, rfl, by decide +kernel, by decide +kernel⟩
abbrev s__law_great : Stmt := top 25
abbrev N__law_great : List Str := ["deck", "many", "kept", "found", "place", "word", "stride", "high", "low"]
theorem sc__law_great : FnScope N__law_great ["deck", "many", "kept"] (defScope s__law_great) := ⟨rfl, rfl, rfl, by decide +kernel, rfl, by decide +kernel, by decide +kernel⟩
abbrev s__law_some : Stmt := top 26
abbrev N__law_some : List Str := ["deck", "spans", "found", "low", "high", "stride", "many"]
theorem sc__law_some : FnScope N__law_some ["deck", "spans"] (defScope s__law_some) := ⟨rfl, rfl, rfl, by decide +kernel, rfl, by decide +kernel, by decide +kernel⟩
abbrev s__law_is_whole : Stmt := top 27
abbrev N__law_is_whole : List Str := ["thing", "low", "high"]
theorem sc__law_is_whole : FnScope N__law_is_whole ["thing", "low", "high"] (defScope s__law_is_whole) := ⟨rfl, rfl, rfl, by decide +kernel, rfl, by decide +kernel, by decide +kernel⟩
abbrev s__law_is_span : Stmt := top 28
abbrev N__law_is_span : List Str := ["thing", "own"]
theorem sc__law_is_span : FnScope N__law_is_span ["thing"] (defScope s__law_is_span) := ⟨rfl, rfl, rfl, by decide +kernel, rfl, by decide +kernel, by decide +kernel⟩
abbrev s__law_is_step : Stmt := top 29
abbrev N__law_is_step : List Str := ["place", "thing", "word"]
theorem sc__law_is_step : FnScope N__law_is_step ["place", "thing"] (defScope s__law_is_step) := ⟨rfl, rfl, rfl, by decide +kernel, rfl, by decide +kernel, by decide +kernel⟩
abbrev s__law_program_error : Stmt := top 30
abbrev N__law_program_error : List Str := ["thing", "place", "step"]
theorem sc__law_program_error : FnScope N__law_program_error ["thing"] (defScope s__law_program_error) := ⟨rfl, rfl, rfl, by decide +kernel, rfl, by decide +kernel, by decide +kernel⟩
abbrev s__law_inputs_error : Stmt := top 31
abbrev N__law_inputs_error : List Str := ["program", "thing", "spans", "place", "own", "low", "high", "stride"]
theorem sc__law_inputs_error : FnScope N__law_inputs_error ["program", "thing"] (defScope s__law_inputs_error) := ⟨rfl, rfl, rfl, by decide +kernel, rfl, by decide +kernel, by decide +kernel⟩
abbrev s__law_odd_step : Stmt := top 32
abbrev N__law_odd_step : List Str := ["deck", "place", "far", "odd"]
theorem sc__law_odd_step : FnScope N__law_odd_step ["deck", "place"] (defScope s__law_odd_step) := ⟨rfl, rfl, rfl, by decide +kernel, rfl, by decide +kernel, by decide +kernel⟩
abbrev s__law_odd_inputs : Stmt := top 33
abbrev N__law_odd_inputs : List Str := ["deck", "program", "spans", "own", "odd", "at", "low", "high", "stride", "menu"]
theorem sc__law_odd_inputs : FnScope N__law_odd_inputs ["deck", "program"] (defScope s__law_odd_inputs) := ⟨rfl, rfl, rfl, by decide +kernel, rfl, by decide +kernel, by decide +kernel⟩
abbrev s__law_is_judged : Stmt := top 34
abbrev N__law_is_judged : List Str := ["thing", "is_named", "known", "due", "seen"]
theorem sc__law_is_judged : FnScope N__law_is_judged ["thing", "is_named"] (defScope s__law_is_judged) := ⟨rfl, rfl, rfl, by decide +kernel, rfl, by decide +kernel, by decide +kernel⟩
abbrev s_law : Stmt := top 35
abbrev N_law : List Str := ["script", "deck", "one", "far", "things", "turn", "program", "at", "again", "value", "known", "due", "seen", "nth", "thing"]
theorem sc_law : FnScope N_law ["script"] (defScope s_law) := ⟨rfl, rfl, rfl, by decide +kernel, rfl, by decide +kernel, by decide +kernel⟩
structure Txt (K : PySem.W.Frag) (mg : Str → Option Value) : Prop where
  z_abs : mg "abs" = none
  z_bool : mg "bool" = none
  z_enumerate : mg "enumerate" = none
  z_int : mg "int" = none
  z_isinstance : mg "isinstance" = none
  z_len : mg "len" = none
  z_list : mg "list" = none
  z_max : mg "max" = none
  z_min : mg "min" = none
  z_range : mg "range" = none
  z_repr : mg "repr" = none
  z_str : mg "str" = none
  z_tuple : mg "tuple" = none
  g_MAX_NUMBER : ∃ t, mg "MAX_NUMBER" = some (.int (1000000000000000000000000000000000000000000000000000000000000) t)
  g_MAX_STEP : ∃ t, mg "MAX_STEP" = some (.int (1000000000000000000000000000000000000000000000000000000000000) t)
  g_MAX_STEPS : ∃ t, mg "MAX_STEPS" = some (.int (30) t)
  g_MAX_INPUTS : ∃ t, mg "MAX_INPUTS" = some (.int (12) t)
  g_MAX_FACTOR : ∃ t, mg "MAX_FACTOR" = some (.int (100000000000000000000) t)
  t_PAIRED : ∃ a, mg "PAIRED" = some (.ref a) ∧ ∀ H, SqT K H a ([.str "sum", .str "less"].map vOf)
theorem tr_is_integer {P : Program} {w : World} {K : PySem.W.Frag} {mg : Str → Option Value} {base : Heap} {Z : Zd} (hZ : Z.sm = true) (T : Txt K mg) (f : Addr) (cdv : Value) (A : Around) (outer : List Env) (s : Shared) (H : Hp) (E : XK) (hr : Room 0 (A.deeper (envOfC "is_integer" (defScope s_is_integer) s.heap.objs.size f cdv))) (hG : A.guards = some []) :
    QSs (cxOf CX0 P w K mg base N_is_integer "is_integer" (defScope s_is_integer) f cdv A outer s H E).nox Z (defBody s_is_integer) rd_is_integer :=
  have sND := sc_is_integer.nd
  qss_one (qs_ret (px_and (px_isi .int (by rfl) T.z_isinstance (px_var 0) (by rfl) T.z_int (by rfl)) (px_one (px_not (px_isi .bool (by rfl) T.z_isinstance (px_var 0) (by rfl) T.z_bool (by rfl))))))
theorem tr_is_number {P : Program} {w : World} {K : PySem.W.Frag} {mg : Str → Option Value} {base : Heap} {Z : Zd} (hZ : Z.sm = true) (T : Txt K mg) (c_is_integer : CalG P w K mg base Z 1 "is_integer" ["value"] C_is_integer) (f : Addr) (cdv : Value) (A : Around) (outer : List Env) (s : Shared) (H : Hp) (E : XK) (hr : Room 1 (A.deeper (envOfC "is_number" (defScope s_is_number) s.heap.objs.size f cdv))) (hG : A.guards = some []) :
    QSs (cxOf CX0 P w K mg base N_is_number "is_number" (defScope s_is_number) f cdv A outer s H E).nox Z (defBody s_is_number) rd_is_number :=
  have sND := sc_is_number.nd
  qss_one (qs_ret (px_and (px_call c_is_integer (hr.mono (by decide)) hG (qc_va (px_var 0) (qc_nil))) (px_one (px_chain o_le o_le mo_cmp mo_cmp (px_un o_neg mo_neg (px_gI T.g_MAX_NUMBER)) (px_var 0) (px_gI T.g_MAX_NUMBER)))))
theorem tr_is_span {P : Program} {w : World} {K : PySem.W.Frag} {mg : Str → Option Value} {base : Heap} {Z : Zd} (hZ : Z.sm = true) (T : Txt K mg) (c_is_number : CalG P w K mg base Z 2 "is_number" ["value"] C_is_number) (c_is_integer : CalG P w K mg base Z 1 "is_integer" ["value"] C_is_integer) (f : Addr) (cdv : Value) (A : Around) (outer : List Env) (s : Shared) (H : Hp) (E : XK) (hr : Room 2 (A.deeper (envOfC "is_span" (defScope s_is_span) s.heap.objs.size f cdv))) (hG : A.guards = some []) :
    QSs (cxOf CX0 P w K mg base N_is_span "is_span" (defScope s_is_span) f cdv A outer s H E).nox Z (defBody s_is_span) rd_is_span :=
  have sND := sc_is_span.nd
  qss_cons (qs_if ((pb_or (pb_not (pb_x (px_isi .tuple (by rfl) T.z_isinstance (px_var 0) (by rfl) T.z_tuple (by rfl)))) (pb_or (pb_cmp (o_ne hr.units).op2 mo_ne (px_lenN 0 (by rfl) T.z_len) (px_int)) (pb_or (pb_not (pb_x (px_call c_is_number (hr.mono (by decide)) hG (qc_va (px_ixN 0 (px_int)) (qc_nil))))) (pb_or1 (pb_not (pb_x (px_call c_is_number (hr.mono (by decide)) hG (qc_va (px_ixN 0 (px_int)) (qc_nil))))))))).pb) (qss_one (qs_ret (px_bl))) (qss_nil))
      (qss_cons (qs_unp (px_var 0) (qg_tup rfl (qgs_cons (qg_nm 1 sND) (qgs_cons (qg_nm 2 sND) (qgs_cons (qg_nm 3 sND) (qgs_nil))))))
      (qss_one (qs_ret (px_and (px_call c_is_integer (hr.mono (by decide)) hG (qc_va (px_var 3) (qc_nil))) (px_and (px_chain o_le o_le mo_cmp mo_cmp (px_int) (px_var 3) (px_gI T.g_MAX_STEP)) (px_and (px_cmp o_le.op2 mo_cmp (px_var 1) (px_var 2)) (px_one (px_cmp (o_eq hr.units).op2 mo_eq (px_bin o_mod mo_mod (px_bin o_sub mo_sub (px_var 2) (px_var 1)) (px_var 3)) (px_int)))))))))
theorem tr_is_held {P : Program} {w : World} {K : PySem.W.Frag} {mg : Str → Option Value} {base : Heap} {Z : Zd} (hZ : Z.sm = true) (T : Txt K mg) (c_is_integer : CalG P w K mg base Z 1 "is_integer" ["value"] C_is_integer) (f : Addr) (cdv : Value) (A : Around) (outer : List Env) (s : Shared) (H : Hp) (E : XK) (hr : Room 1 (A.deeper (envOfC "is_held" (defScope s_is_held) s.heap.objs.size f cdv))) (hG : A.guards = some []) :
    QSs (cxOf CX0 P w K mg base N_is_held "is_held" (defScope s_is_held) f cdv A outer s H E).nox Z (defBody s_is_held) rd_is_held :=
  have sND := sc_is_held.nd
  qss_cons (qs_unp (px_var 0) (qg_tup rfl (qgs_cons (qg_nm 2 sND) (qgs_cons (qg_nm 3 sND) (qgs_cons (qg_nm 4 sND) (qgs_nil))))))
      (qss_one (qs_ret (px_and (px_call c_is_integer (hr.mono (by decide)) hG (qc_va (px_var 1) (qc_nil))) (px_and (px_chain o_le o_le mo_cmp mo_cmp (px_var 2) (px_var 1) (px_var 3)) (px_one (px_cmp (o_eq hr.units).op2 mo_eq (px_bin o_mod mo_mod (px_bin o_sub mo_sub (px_var 1) (px_var 2)) (px_var 4)) (px_int)))))))
theorem tr_is_ahead {P : Program} {w : World} {K : PySem.W.Frag} {mg : Str → Option Value} {base : Heap} {Z : Zd} (hZ : Z.sm = true) (T : Txt K mg) (c_is_integer : CalG P w K mg base Z 1 "is_integer" ["value"] C_is_integer) (f : Addr) (cdv : Value) (A : Around) (outer : List Env) (s : Shared) (H : Hp) (E : XK) (hr : Room 1 (A.deeper (envOfC "is_ahead" (defScope s_is_ahead) s.heap.objs.size f cdv))) (hG : A.guards = some []) :
    QSs (cxOf CX0 P w K mg base N_is_ahead "is_ahead" (defScope s_is_ahead) f cdv A outer s H E).nox Z (defBody s_is_ahead) rd_is_ahead :=
  have sND := sc_is_ahead.nd
  qss_one (qs_ret (px_and (px_call c_is_integer (hr.mono (by decide)) hG (qc_va (px_var 0) (qc_nil))) (px_one (px_chain o_le o_lt mo_cmp mo_cmp (px_int) (px_var 0) (px_var 1)))))
theorem tr_is_step {P : Program} {w : World} {K : PySem.W.Frag} {mg : Str → Option Value} {base : Heap} {Z : Zd} (hZ : Z.sm = true) (T : Txt K mg) (c_is_span : CalG P w K mg base Z 3 "is_span" ["value"] C_is_span) (c_is_number : CalG P w K mg base Z 2 "is_number" ["value"] C_is_number) (c_is_ahead : CalG P w K mg base Z 2 "is_ahead" ["value", "place"] C_is_ahead) (c_is_integer : CalG P w K mg base Z 1 "is_integer" ["value"] C_is_integer) (f : Addr) (cdv : Value) (A : Around) (outer : List Env) (s : Shared) (H : Hp) (E : XK) (hr : Room 3 (A.deeper (envOfC "is_step" (defScope s_is_step) s.heap.objs.size f cdv))) (hG : A.guards = some []) :
    QSs (cxOf CX0 P w K mg base N_is_step "is_step" (defScope s_is_step) f cdv A outer s H E).nox Z (defBody s_is_step) rd_is_step :=
  have sND := sc_is_step.nd
  qss_cons (qs_if ((pb_or (pb_not (pb_x (px_isi .tuple (by rfl) T.z_isinstance (px_var 0) (by rfl) T.z_tuple (by rfl)))) (pb_or (pb_cmp (o_eq hr.units).op2 mo_eq (px_var 0) (px_tup (qa_nil))) (pb_or1 (pb_not (pb_x (px_isi .str (by rfl) T.z_isinstance (px_ixN 0 (px_int)) (by rfl) T.z_str (by rfl))))))).pb) (qss_one (qs_ret (px_bl))) (qss_nil))
      (qss_cons (qs_set 2 sND (px_ixN 0 (px_int)))
      (qss_cons (qs_if (pb_cmp (o_eq hr.units).op2 mo_eq (px_var 2) (px_str)) (qss_one (qs_ret (px_call c_is_span (hr.mono (by decide)) hG (qc_va (px_sl (px_var 0) (qp_at (px_int)) (qp_no)) (qc_nil))))) (qss_nil))
      (qss_cons (qs_if (pb_cmp (o_eq hr.units).op2 mo_eq (px_var 2) (px_str)) (qss_one (qs_ret (px_and (px_cmp (o_eq hr.units).op2 mo_eq (px_lenN 0 (by rfl) T.z_len) (px_int)) (px_one (px_call c_is_number (hr.mono (by decide)) hG (qc_va (px_ixN 0 (px_int)) (qc_nil))))))) (qss_nil))
      (qss_cons (qs_if ((pb_or (pb_cmp (o_ne hr.units).op2 mo_ne (px_lenN 0 (by rfl) T.z_len) (px_int)) (pb_or1 (pb_not (pb_x (px_call c_is_ahead (hr.mono (by decide)) hG (qc_va (px_ixN 0 (px_int)) (qc_va (px_var 1) (qc_nil)))))))).pb) (qss_one (qs_ret (px_bl))) (qss_nil))
      (qss_cons (qs_if (pb_cmp (o_eq hr.units).op2 mo_eq (px_var 2) (px_str)) (qss_one (qs_ret (px_and (px_call c_is_integer (hr.mono (by decide)) hG (qc_va (px_ixN 0 (px_int)) (qc_nil))) (px_one (px_cmp o_le.op2 mo_cmp (px_callB f_abs mf_abs (by rfl) T.z_abs (by rfl) (qa_cons (px_ixN 0 (px_int)) (qa_nil))) (px_gI T.g_MAX_FACTOR)))))) (qss_nil))
      (qss_one (qs_ret (px_and (px_inE (cs := [.str "sum", .str "less"]) op_in_seq (px_var 2) T.t_PAIRED (by decide)) (px_one (px_call c_is_ahead (hr.mono (by decide)) hG (qc_va (px_ixN 0 (px_int)) (qc_va (px_var 1) (qc_nil)))))))))))))
theorem tr_spans_of {P : Program} {w : World} {K : PySem.W.Frag} {mg : Str → Option Value} {base : Heap} {Z : Zd} (hZ : Z.sm = true) (T : Txt K mg) (f : Addr) (cdv : Value) (A : Around) (outer : List Env) (s : Shared) (H : Hp) (E : XK) (hr : Room 0 (A.deeper (envOfC "spans_of" (defScope s_spans_of) s.heap.objs.size f cdv))) (hG : A.guards = some []) :
    QSs (cxOf CX0 P w K mg base N_spans_of "spans_of" (defScope s_spans_of) f cdv A outer s H E).nox Z (defBody s_spans_of) rd_spans_of :=
  have sND := sc_spans_of.nd
  qss_one (qs_ret ((px_lc (own := [("step", 1)]) rfl sND (qi_seq (px_var 0)) (blkOk_by (own := [("step", 1)]) (N := N_spans_of) (sc := defScope s_spans_of) (by decide +kernel)) (fun _ _ _ _ _ => qg_nm 1 sND) (fun _ _ _ _ _ => qts_one (pb_cmp (o_eq hr.units).op2 mo_eq (px_ixN 1 (px_int)) (px_str))) (fun _ _ _ _ _ => px_sl (px_var 1) (qp_at (px_int)) (qp_no)) : PX _ _ _ (xLc (.nm 1) (iSeq (xVar 0)) (bX (xBin oEq (xIxN 1 (xC (.int 0))) (xC (.str "in")))) (xSl (xVar 1) (pAt (xC (.int 1))) (pNo)) [1]))))
theorem tr_program_error {P : Program} {w : World} {K : PySem.W.Frag} {mg : Str → Option Value} {base : Heap} {Z : Zd} (hZ : Z.sm = true) (T : Txt K mg) (c_is_step : CalG P w K mg base Z 4 "is_step" ["value", "place"] C_is_step) (c_spans_of : CalG P w K mg base Z 1 "spans_of" ["program"] C_spans_of) (f : Addr) (cdv : Value) (A : Around) (outer : List Env) (s : Shared) (H : Hp) (E : XK) (hr : Room 4 (A.deeper (envOfC "program_error" (defScope s_program_error) s.heap.objs.size f cdv))) (hG : A.guards = some []) :
    QSs (cxOf CX0 P w K mg base N_program_error "program_error" (defScope s_program_error) f cdv A outer s H E).nox Z (defBody s_program_error) rd_program_error :=
  have sND := sc_program_error.nd
  qss_cons (qs_if ((pb_or (pb_not (pb_x (px_isi .tuple (by rfl) T.z_isinstance (px_var 0) (by rfl) T.z_tuple (by rfl)))) (pb_or1 (pb_not (pb_chain o_le o_le mo_cmp mo_cmp (px_int) (px_lenN 0 (by rfl) T.z_len) (px_gI T.g_MAX_STEPS))))).pb) (qss_one (qs_ret (px_str))) (qss_nil))
      (qss_cons (qs_for PassesOwn.never rfl (qi_enum (by rfl) T.z_enumerate (px_var 0)) (qg_tup rfl (qgs_cons (qg_nm 1 sND) (qgs_cons (qg_nm 2 sND) (qgs_nil)))) (qss_one (qs_if (pb_not (pb_x (px_call c_is_step (hr.mono (by decide)) hG (qc_va (px_var 2) (qc_va (px_var 1) (qc_nil)))))) (qss_one (qs_ret (px_tup (qa_cons (px_str) (qa_cons (px_var 1) (qa_nil)))))) (qss_nil))))
      (qss_one (qs_ret (px_if (pb_cmp o_gt.op2 mo_cmp (px_len (px_call c_spans_of (hr.mono (by decide)) hG (qc_va (px_var 0) (qc_nil))) T.z_len) (px_gI T.g_MAX_INPUTS)) (px_str) (px_non)))))
theorem tr_inputs_error {P : Program} {w : World} {K : PySem.W.Frag} {mg : Str → Option Value} {base : Heap} {Z : Zd} (hZ : Z.sm = true) (T : Txt K mg) (c_spans_of : CalG P w K mg base Z 1 "spans_of" ["program"] C_spans_of) (c_is_held : CalG P w K mg base Z 2 "is_held" ["span", "value"] C_is_held) (f : Addr) (cdv : Value) (A : Around) (outer : List Env) (s : Shared) (H : Hp) (E : XK) (hr : Room 2 (A.deeper (envOfC "inputs_error" (defScope s_inputs_error) s.heap.objs.size f cdv))) (hG : A.guards = some []) :
    QSs (cxOf CX0 P w K mg base N_inputs_error "inputs_error" (defScope s_inputs_error) f cdv A outer s H E).nox Z (defBody s_inputs_error) rd_inputs_error :=
  have sND := sc_inputs_error.nd
  qss_cons (qs_set 2 sND (px_call c_spans_of (hr.mono (by decide)) hG (qc_va (px_var 0) (qc_nil))))
      (qss_cons (qs_if ((pb_or (pb_not (pb_x (px_isi .tuple (by rfl) T.z_isinstance (px_var 1) (by rfl) T.z_tuple (by rfl)))) (pb_or1 (pb_cmp (o_ne hr.units).op2 mo_ne (px_lenN 1 (by rfl) T.z_len) (px_lenN 2 (by rfl) T.z_len)))).pb) (qss_one (qs_ret (px_str))) (qss_nil))
      (qss_cons (qs_for PassesOwn.never rfl (qi_enum (by rfl) T.z_enumerate (px_var 2)) (qg_tup rfl (qgs_cons (qg_nm 3 sND) (qgs_cons (qg_nm 4 sND) (qgs_nil)))) (qss_one (qs_if (pb_not (pb_x (px_call c_is_held (hr.mono (by decide)) hG (qc_va (px_var 4) (qc_va (px_ixN 1 (px_var 3)) (qc_nil)))))) (qss_one (qs_ret (px_tup (qa_cons (px_str) (qa_cons (px_var 3) (qa_nil)))))) (qss_nil))))
      (qss_one (qs_ret (px_non)))))
theorem tr__law_pick {P : Program} {w : World} {K : PySem.W.Frag} {mg : Str → Option Value} {base : Heap} {Z : Zd} (hZ : Z.sm = true) (T : Txt K mg) (c__law_draw : CalG P w K mg base Z 1 "_law_draw" ["deck", "many"] C__law_draw) (f : Addr) (cdv : Value) (A : Around) (outer : List Env) (s : Shared) (H : Hp) (E : XK) (hr : Room 1 (A.deeper (envOfC "_law_pick" (defScope s__law_pick) s.heap.objs.size f cdv))) (hG : A.guards = some []) :
    QSs (cxOf CX0 P w K mg base N__law_pick "_law_pick" (defScope s__law_pick) f cdv A outer s H E).nox Z (defBody s__law_pick) rd__law_pick :=
  have sND := sc__law_pick.nd
  qss_one (qs_ret (px_ixN 1 (px_call c__law_draw (hr.mono (by decide)) hG (qc_dk 0 (qc_va (px_lenN 1 (by rfl) T.z_len) (qc_nil))))))
theorem tr__law_span {P : Program} {w : World} {K : PySem.W.Frag} {mg : Str → Option Value} {base : Heap} {Z : Zd} (hZ : Z.sm = true) (T : Txt K mg) (c__law_pick : CalG P w K mg base Z 2 "_law_pick" ["deck", "row"] C__law_pick) (c__law_draw : CalG P w K mg base Z 1 "_law_draw" ["deck", "many"] C__law_draw) (f : Addr) (cdv : Value) (A : Around) (outer : List Env) (s : Shared) (H : Hp) (E : XK) (hr : Room 2 (A.deeper (envOfC "_law_span" (defScope s__law_span) s.heap.objs.size f cdv))) (hG : A.guards = some []) :
    QSs (cxOf CX0 P w K mg base N__law_span "_law_span" (defScope s__law_span) f cdv A outer s H E).nox Z (defBody s__law_span) rd__law_span :=
  have sND := sc__law_span.nd
  qss_cons (qs_set2 3 4 rfl sND (px_call c__law_pick (hr.mono (by decide)) hG (qc_dk 0 (qc_va (px_lst (qa_cons (px_int) (qa_cons (px_int) (qa_cons (px_int) (qa_cons (px_int) (qa_cons (px_int) (qa_cons (px_int) (qa_cons (px_int) (qa_nil))))))))) (qc_nil)))) (px_bin o_sub mo_sub (px_call c__law_draw (hr.mono (by decide)) hG (qc_dk 0 (qc_va (px_bin o_add mo_add (px_bin o_mul mo_mul (px_int) (px_var 1)) (px_int)) (qc_nil)))) (px_var 1)))
      (qss_cons (qs_if (pb_cmp (o_eq hr.units).op2 mo_eq (px_call c__law_draw (hr.mono (by decide)) hG (qc_dk 0 (qc_va (px_int) (qc_nil)))) (px_int)) (qss_one (qs_set 4 sND (px_bin o_mul mo_mul (px_var 3) (px_call c__law_pick (hr.mono (by decide)) hG (qc_dk 0 (qc_va (px_lst (qa_cons (px_int) (qa_cons (px_int) (qa_cons (px_un o_neg mo_neg (px_int)) (qa_cons (px_un o_neg mo_neg (px_var 2)) (qa_cons (px_int) (qa_cons (px_int) (qa_nil)))))))) (qc_nil))))))) (qss_nil))
      (qss_one (qs_ret (px_tup (qa_cons (px_var 4) (qa_cons (px_bin o_add mo_add (px_var 4) (px_bin o_mul mo_mul (px_var 3) (px_call c__law_draw (hr.mono (by decide)) hG (qc_dk 0 (qc_va (px_var 2) (qc_nil)))))) (qa_cons (px_var 3) (qa_nil))))))))
theorem tr__law_program {P : Program} {w : World} {K : PySem.W.Frag} {mg : Str → Option Value} {base : Heap} {Z : Zd} (hZ : Z.sm = true) (T : Txt K mg) (c__law_pick : CalG P w K mg base Z 2 "_law_pick" ["deck", "row"] C__law_pick) (c__law_span : CalG P w K mg base Z 3 "_law_span" ["deck", "most", "many"] C__law_span) (c__law_draw : CalG P w K mg base Z 1 "_law_draw" ["deck", "many"] C__law_draw) (f : Addr) (cdv : Value) (A : Around) (outer : List Env) (s : Shared) (H : Hp) (E : XK) (hr : Room 3 (A.deeper (envOfC "_law_program" (defScope s__law_program) s.heap.objs.size f cdv))) (hG : A.guards = some []) :
    QSs (cxOf CX0 P w K mg base N__law_program "_law_program" (defScope s__law_program) f cdv A outer s H E).nox Z (defBody s__law_program) rd__law_program :=
  have sND := sc__law_program.nd
  qss_cons (qs_set3 4 5 6 rfl sND (px_lst (qa_nil)) (px_var 2) (px_int))
      (qss_cons (qs_for PassesOwn.never rfl (qi_rng1 (by rfl) T.z_range (px_var 1)) (qg_nm 7 sND) (qss_cons (qs_set 8 sND (px_if (pb_cmp o_gt.op2 mo_cmp (px_var 7) (px_int)) (px_call c__law_pick (hr.mono (by decide)) hG (qc_dk 0 (qc_va (px_lst (qa_cons (px_str) (qa_cons (px_str) (qa_cons (px_str) (qa_cons (px_str) (qa_cons (px_str) (qa_cons (px_str) (qa_cons (px_str) (qa_nil))))))))) (qc_nil)))) (px_str)))
      (qss_one (qs_if ((pb_and (pb_cmp (o_eq hr.units).op2 mo_eq (px_var 8) (px_str)) (pb_and1 (pb_cmp o_gt.op2 mo_cmp (px_var 6) (px_int)))).pb) (qss_cons (qs_unp (px_call c__law_span (hr.mono (by decide)) hG (qc_dk 0 (qc_va (px_int) (qc_va (px_callB (f_max2 rfl) mf_max2 (by rfl) T.z_max (by rfl) (qa_cons (px_int) (qa_cons (px_callB (f_min2 rfl) mf_min2 (by rfl) T.z_min (by rfl) (qa_cons (px_var 5) (qa_cons (px_int) (qa_nil)))) (qa_nil)))) (qc_nil))))) (qg_tup rfl (qgs_cons (qg_nm 9 sND) (qgs_cons (qg_nm 10 sND) (qgs_cons (qg_nm 11 sND) (qgs_nil))))))
      (qss_cons (qs_set2 5 6 rfl sND (px_bin o_div mo_div (px_var 5) (px_bin o_add mo_add (px_bin o_div mo_div (px_bin o_sub mo_sub (px_var 10) (px_var 9)) (px_var 11)) (px_int))) (px_bin o_sub mo_sub (px_var 6) (px_int)))
      (qss_one (qs_expr (px_mth 4 m_append mm_append PySem.F.slot_list_append PySem.F.type_list_append (qa_cons (px_tup (qa_cons (px_str) (qa_cons (px_var 9) (qa_cons (px_var 10) (qa_cons (px_var 11) (qa_nil)))))) (qa_nil))))))) (qss_one (qs_if ((pb_and (pb_cmp o_in mo_in (px_var 8) (px_tup (qa_cons (px_str) (qa_cons (px_str) (qa_nil))))) (pb_and1 (pb_cmp o_gt.op2 mo_cmp (px_var 7) (px_int)))).pb) (qss_one (qs_expr (px_mth 4 m_append mm_append PySem.F.slot_list_append PySem.F.type_list_append (qa_cons (px_tup (qa_cons (px_var 8) (qa_cons (px_call c__law_draw (hr.mono (by decide)) hG (qc_dk 0 (qc_va (px_var 7) (qc_nil)))) (qa_cons (px_call c__law_draw (hr.mono (by decide)) hG (qc_dk 0 (qc_va (px_var 7) (qc_nil)))) (qa_nil))))) (qa_nil))))) (qss_one (qs_if ((pb_and (pb_cmp (o_eq hr.units).op2 mo_eq (px_var 8) (px_str)) (pb_and1 (pb_cmp o_gt.op2 mo_cmp (px_var 7) (px_int)))).pb) (qss_one (qs_expr (px_mth 4 m_append mm_append PySem.F.slot_list_append PySem.F.type_list_append (qa_cons (px_tup (qa_cons (px_var 8) (qa_cons (px_call c__law_draw (hr.mono (by decide)) hG (qc_dk 0 (qc_va (px_var 7) (qc_nil)))) (qa_cons (px_call c__law_pick (hr.mono (by decide)) hG (qc_dk 0 (qc_va (px_var 3) (qc_nil)))) (qa_nil))))) (qa_nil))))) (qss_one (qs_expr (px_mth 4 m_append mm_append PySem.F.slot_list_append PySem.F.type_list_append (qa_cons (px_tup (qa_cons (px_str) (qa_cons (px_bin o_sub mo_sub (px_call c__law_draw (hr.mono (by decide)) hG (qc_dk 0 (qc_va (px_int) (qc_nil)))) (px_int)) (qa_nil)))) (qa_nil)))))))))))))
      (qss_one (qs_ret (px_tupN 4 (by rfl) T.z_tuple))))
theorem tr__law_spans_of {P : Program} {w : World} {K : PySem.W.Frag} {mg : Str → Option Value} {base : Heap} {Z : Zd} (hZ : Z.sm = true) (T : Txt K mg) (f : Addr) (cdv : Value) (A : Around) (outer : List Env) (s : Shared) (H : Hp) (E : XK) (hr : Room 0 (A.deeper (envOfC "_law_spans_of" (defScope s__law_spans_of) s.heap.objs.size f cdv))) (hG : A.guards = some []) :
    QSs (cxOf CX0 P w K mg base N__law_spans_of "_law_spans_of" (defScope s__law_spans_of) f cdv A outer s H E).nox Z (defBody s__law_spans_of) rd__law_spans_of :=
  have sND := sc__law_spans_of.nd
  qss_one (qs_ret ((px_lc (own := [("step", 1)]) rfl sND (qi_seq (px_var 0)) (blkOk_by (own := [("step", 1)]) (N := N__law_spans_of) (sc := defScope s__law_spans_of) (by decide +kernel)) (fun _ _ _ _ _ => qg_nm 1 sND) (fun _ _ _ _ _ => qts_one (pb_cmp (o_eq hr.units).op2 mo_eq (px_ixN 1 (px_int)) (px_str))) (fun _ _ _ _ _ => px_sl (px_var 1) (qp_at (px_int)) (qp_no)) : PX _ _ _ (xLc (.nm 1) (iSeq (xVar 0)) (bX (xBin oEq (xIxN 1 (xC (.int 0))) (xC (.str "in")))) (xSl (xVar 1) (pAt (xC (.int 1))) (pNo)) [1]))))
theorem tr__law_great {P : Program} {w : World} {K : PySem.W.Frag} {mg : Str → Option Value} {base : Heap} {Z : Zd} (hZ : Z.sm = true) (T : Txt K mg) (c__law_pick : CalG P w K mg base Z 2 "_law_pick" ["deck", "row"] C__law_pick) (c__law_draw : CalG P w K mg base Z 1 "_law_draw" ["deck", "many"] C__law_draw) (f : Addr) (cdv : Value) (A : Around) (outer : List Env) (s : Shared) (H : Hp) (E : XK) (hr : Room 2 (A.deeper (envOfC "_law_great" (defScope s__law_great) s.heap.objs.size f cdv))) (hG : A.guards = some []) :
    QSs (cxOf CX0 P w K mg base N__law_great "_law_great" (defScope s__law_great) f cdv A outer s H E).nox Z (defBody s__law_great) rd__law_great :=
  have sND := sc__law_great.nd
  qss_cons (qs_set 3 sND (px_lst (qa_nil)))
      (qss_cons (qs_for PassesOwn.never rfl (qi_rng1 (by rfl) T.z_range (px_var 1)) (qg_nm 4 sND) (qss_cons (qs_set 5 sND (px_call c__law_pick (hr.mono (by decide)) hG (qc_dk 0 (qc_va (px_lst (qa_cons (px_str) (qa_cons (px_str) (qa_cons (px_str) (qa_cons (px_str) (qa_cons (px_str) (qa_nil))))))) (qc_nil)))))
      (qss_one (qs_if (pb_cmp o_lt.op2 mo_cmp (px_var 4) (px_var 2)) (qss_cons (qs_set 6 sND (px_call c__law_pick (hr.mono (by decide)) hG (qc_dk 0 (qc_va (px_lst (qa_cons (px_int) (qa_cons (px_int) (qa_cons (px_bin o_pow mo_pow (px_int) (px_int)) (qa_cons (px_bin o_pow mo_pow (px_int) (px_int)) (qa_cons (px_bin o_pow mo_pow (px_int) (px_int)) (qa_cons (px_bin o_mul mo_mul (px_int) (px_bin o_pow mo_pow (px_int) (px_int))) (qa_nil)))))))) (qc_nil)))))
      (qss_cons (qs_set 7 sND (px_call c__law_pick (hr.mono (by decide)) hG (qc_dk 0 (qc_va (px_lst (qa_cons (px_int) (qa_cons (px_bin o_mul mo_mul (px_bin o_div mo_div (px_bin o_pow mo_pow (px_int) (px_int)) (px_var 6)) (px_var 6)) (qa_cons (px_var 6) (qa_cons (px_bin o_mul mo_mul (px_int) (px_var 6)) (qa_nil)))))) (qc_nil)))))
      (qss_cons (qs_set 8 sND (px_call c__law_pick (hr.mono (by decide)) hG (qc_dk 0 (qc_va (px_lst (qa_cons (px_int) (qa_cons (px_un o_neg mo_neg (px_var 7)) (qa_cons (px_var 7) (qa_cons (px_bin o_mul mo_mul (px_un o_neg mo_neg (px_bin o_div mo_div (px_bin o_pow mo_pow (px_int) (px_int)) (px_var 6))) (px_var 6)) (qa_nil)))))) (qc_nil)))))
      (qss_one (qs_expr (px_mth 3 m_append mm_append PySem.F.slot_list_append PySem.F.type_list_append (qa_cons (px_tup (qa_cons (px_str) (qa_cons (px_callB (f_min2 rfl) mf_min2 (by rfl) T.z_min (by rfl) (qa_cons (px_var 8) (qa_cons (px_var 7) (qa_nil)))) (qa_cons (px_callB (f_max2 rfl) mf_max2 (by rfl) T.z_max (by rfl) (qa_cons (px_var 8) (qa_cons (px_var 7) (qa_nil)))) (qa_cons (px_var 6) (qa_nil)))))) (qa_nil)))))))) (qss_one (qs_if ((pb_or (pb_cmp (o_eq hr.units).op2 mo_eq (px_var 5) (px_str)) (pb_or1 (pb_cmp (o_eq hr.units).op2 mo_eq (px_var 4) (px_int)))).pb) (qss_one (qs_expr (px_mth 3 m_append mm_append PySem.F.slot_list_append PySem.F.type_list_append (qa_cons (px_tup (qa_cons (px_str) (qa_cons (px_call c__law_pick (hr.mono (by decide)) hG (qc_dk 0 (qc_va (px_lst (qa_cons (px_int) (qa_cons (px_bin o_pow mo_pow (px_int) (px_int)) (qa_cons (px_un o_neg mo_neg (px_bin o_pow mo_pow (px_int) (px_int))) (qa_cons (px_bin o_pow mo_pow (px_int) (px_int)) (qa_cons (px_int) (qa_cons (px_un o_neg mo_neg (px_int)) (qa_nil)))))))) (qc_nil)))) (qa_nil)))) (qa_nil))))) (qss_one (qs_if (pb_cmp (o_eq hr.units).op2 mo_eq (px_var 5) (px_str)) (qss_one (qs_expr (px_mth 3 m_append mm_append PySem.F.slot_list_append PySem.F.type_list_append (qa_cons (px_tup (qa_cons (px_var 5) (qa_cons (px_call c__law_draw (hr.mono (by decide)) hG (qc_dk 0 (qc_va (px_var 4) (qc_nil)))) (qa_cons (px_call c__law_pick (hr.mono (by decide)) hG (qc_dk 0 (qc_va (px_lst (qa_cons (px_bin o_pow mo_pow (px_int) (px_int)) (qa_cons (px_un o_neg mo_neg (px_bin o_pow mo_pow (px_int) (px_int))) (qa_cons (px_int) (qa_cons (px_int) (qa_cons (px_un o_neg mo_neg (px_int)) (qa_cons (px_bin o_pow mo_pow (px_int) (px_int)) (qa_nil)))))))) (qc_nil)))) (qa_nil))))) (qa_nil))))) (qss_one (qs_expr (px_mth 3 m_append mm_append PySem.F.slot_list_append PySem.F.type_list_append (qa_cons (px_tup (qa_cons (px_var 5) (qa_cons (px_bin o_sub mo_sub (px_bin o_sub mo_sub (px_var 4) (px_int)) (px_call c__law_draw (hr.mono (by decide)) hG (qc_dk 0 (qc_va (px_callB (f_min2 rfl) mf_min2 (by rfl) T.z_min (by rfl) (qa_cons (px_var 4) (qa_cons (px_int) (qa_nil)))) (qc_nil))))) (qa_cons (px_call c__law_draw (hr.mono (by decide)) hG (qc_dk 0 (qc_va (px_var 4) (qc_nil)))) (qa_nil))))) (qa_nil)))))))))))))
      (qss_one (qs_ret (px_tupN 3 (by rfl) T.z_tuple))))
theorem tr__law_some {P : Program} {w : World} {K : PySem.W.Frag} {mg : Str → Option Value} {base : Heap} {Z : Zd} (hZ : Z.sm = true) (T : Txt K mg) (c__law_pick : CalG P w K mg base Z 2 "_law_pick" ["deck", "row"] C__law_pick) (f : Addr) (cdv : Value) (A : Around) (outer : List Env) (s : Shared) (H : Hp) (E : XK) (hr : Room 2 (A.deeper (envOfC "_law_some" (defScope s__law_some) s.heap.objs.size f cdv))) (hG : A.guards = some []) :
    QSs (cxOf CX0 P w K mg base N__law_some "_law_some" (defScope s__law_some) f cdv A outer s H E).nox Z (defBody s__law_some) rd__law_some :=
  have sND := sc__law_some.nd
  qss_cons (qs_set 2 sND (px_lst (qa_nil)))
      (qss_cons (qs_for PassesOwn.never rfl (qi_seq (px_var 1)) (qg_tup rfl (qgs_cons (qg_nm 3 sND) (qgs_cons (qg_nm 4 sND) (qgs_cons (qg_nm 5 sND) (qgs_nil))))) (qss_cons (qs_set 6 sND (px_bin o_div mo_div (px_bin o_sub mo_sub (px_var 4) (px_var 3)) (px_var 5)))
      (qss_one (qs_expr (px_mth 2 m_append mm_append PySem.F.slot_list_append PySem.F.type_list_append (qa_cons (px_bin o_add mo_add (px_var 3) (px_bin o_mul mo_mul (px_var 5) (px_call c__law_pick (hr.mono (by decide)) hG (qc_dk 0 (qc_va (px_lst (qa_cons (px_int) (qa_cons (px_var 6) (qa_cons (px_bin o_div mo_div (px_var 6) (px_int)) (qa_cons (px_callB (f_min2 rfl) mf_min2 (by rfl) T.z_min (by rfl) (qa_cons (px_int) (qa_cons (px_var 6) (qa_nil)))) (qa_cons (px_callB (f_max2 rfl) mf_max2 (by rfl) T.z_max (by rfl) (qa_cons (px_int) (qa_cons (px_bin o_sub mo_sub (px_var 6) (px_int)) (qa_nil)))) (qa_cons (px_bin o_div mo_div (px_var 6) (px_int)) (qa_nil)))))))) (qc_nil)))))) (qa_nil)))))))
      (qss_one (qs_ret (px_tupN 2 (by rfl) T.z_tuple))))
theorem tr__law_is_whole {P : Program} {w : World} {K : PySem.W.Frag} {mg : Str → Option Value} {base : Heap} {Z : Zd} (hZ : Z.sm = true) (T : Txt K mg) (f : Addr) (cdv : Value) (A : Around) (outer : List Env) (s : Shared) (H : Hp) (E : XK) (hr : Room 0 (A.deeper (envOfC "_law_is_whole" (defScope s__law_is_whole) s.heap.objs.size f cdv))) (hG : A.guards = some []) :
    QSs (cxOf CX0 P w K mg base N__law_is_whole "_law_is_whole" (defScope s__law_is_whole) f cdv A outer s H E).nox Z (defBody s__law_is_whole) rd__law_is_whole :=
  have sND := sc__law_is_whole.nd
  qss_one (qs_ret (px_and (px_isi .int (by rfl) T.z_isinstance (px_var 0) (by rfl) T.z_int (by rfl)) (px_and (px_not (px_isi .bool (by rfl) T.z_isinstance (px_var 0) (by rfl) T.z_bool (by rfl))) (px_one (px_chain o_le o_le mo_cmp mo_cmp (px_var 1) (px_var 0) (px_var 2))))))
theorem tr__law_is_span {P : Program} {w : World} {K : PySem.W.Frag} {mg : Str → Option Value} {base : Heap} {Z : Zd} (hZ : Z.sm = true) (T : Txt K mg) (c__law_is_whole : CalG P w K mg base Z 1 "_law_is_whole" ["thing", "low", "high"] C__law_is_whole) (f : Addr) (cdv : Value) (A : Around) (outer : List Env) (s : Shared) (H : Hp) (E : XK) (hr : Room 1 (A.deeper (envOfC "_law_is_span" (defScope s__law_is_span) s.heap.objs.size f cdv))) (hG : A.guards = some []) :
    QSs (cxOf CX0 P w K mg base N__law_is_span "_law_is_span" (defScope s__law_is_span) f cdv A outer s H E).nox Z (defBody s__law_is_span) rd__law_is_span :=
  have sND := sc__law_is_span.nd
  qss_cons (qs_if ((pb_or (pb_cmp (o_ne hr.units).op2 mo_ne (px_lenN 0 (by rfl) T.z_len) (px_int)) (pb_or1 (pb_nil (op_nilN (hu0 hr)) ((px_lc (own := [("own", 1)]) rfl sND (qi_seq (px_sl (px_var 0) (qp_no) (qp_at (px_int)))) (blkOk_by (own := [("own", 1)]) (N := N__law_is_span) (sc := defScope s__law_is_span) (by decide +kernel)) (fun _ _ _ _ _ => qg_nm 1 sND) (fun _ _ _ _ _ => qts_one (pb_not (pb_x (px_call c__law_is_whole (hr.mono (by decide)) hG (qc_va (px_var 1) (qc_va (px_un o_neg mo_neg (px_bin o_pow mo_pow (px_int) (px_int))) (qc_va (px_bin o_pow mo_pow (px_int) (px_int)) (qc_nil)))))))) (fun _ _ _ _ _ => px_int) : PX _ _ _ (xLc (.nm 1) (iSeq (xSl (xVar 0) (pNo) (pAt (xC (.int 2))))) (bNot (bX (xDef C__law_is_whole (cVa (xVar 1) (cVa (xUn oNeg (xBin oPow (xC (.int 10)) (xC (.int 60)))) (cVa (xBin oPow (xC (.int 10)) (xC (.int 60))) (cNil))))))) (xC (.int 1)) [1])))))).pb) (qss_one (qs_ret (px_bl))) (qss_nil))
      (qss_one (qs_ret (px_and (px_cmp o_le.op2 mo_cmp (px_ixN 0 (px_int)) (px_ixN 0 (px_int))) (px_and (px_call c__law_is_whole (hr.mono (by decide)) hG (qc_va (px_ixN 0 (px_int)) (qc_va (px_int) (qc_va (px_bin o_pow mo_pow (px_int) (px_int)) (qc_nil))))) (px_one (px_cmp (o_eq hr.units).op2 mo_eq (px_bin o_mod mo_mod (px_bin o_sub mo_sub (px_ixN 0 (px_int)) (px_ixN 0 (px_int))) (px_ixN 0 (px_int))) (px_int)))))))
theorem tr__law_is_step {P : Program} {w : World} {K : PySem.W.Frag} {mg : Str → Option Value} {base : Heap} {Z : Zd} (hZ : Z.sm = true) (T : Txt K mg) (c__law_is_span : CalG P w K mg base Z 2 "_law_is_span" ["thing"] C__law_is_span) (c__law_is_whole : CalG P w K mg base Z 1 "_law_is_whole" ["thing", "low", "high"] C__law_is_whole) (f : Addr) (cdv : Value) (A : Around) (outer : List Env) (s : Shared) (H : Hp) (E : XK) (hr : Room 2 (A.deeper (envOfC "_law_is_step" (defScope s__law_is_step) s.heap.objs.size f cdv))) (hG : A.guards = some []) :
    QSs (cxOf CX0 P w K mg base N__law_is_step "_law_is_step" (defScope s__law_is_step) f cdv A outer s H E).nox Z (defBody s__law_is_step) rd__law_is_step :=
  have sND := sc__law_is_step.nd
  qss_cons (qs_if ((pb_or (pb_not (pb_x (px_isi .tuple (by rfl) T.z_isinstance (px_var 1) (by rfl) T.z_tuple (by rfl)))) (pb_or (pb_cmp (o_eq hr.units).op2 mo_eq (px_var 1) (px_tup (qa_nil))) (pb_or1 (pb_not (pb_x (px_isi .str (by rfl) T.z_isinstance (px_ixN 1 (px_int)) (by rfl) T.z_str (by rfl))))))).pb) (qss_one (qs_ret (px_bl))) (qss_nil))
      (qss_cons (qs_set 2 sND (px_ixN 1 (px_int)))
      (qss_cons (qs_if (pb_cmp (o_eq hr.units).op2 mo_eq (px_var 2) (px_str)) (qss_one (qs_ret (px_call c__law_is_span (hr.mono (by decide)) hG (qc_va (px_sl (px_var 1) (qp_at (px_int)) (qp_no)) (qc_nil))))) (qss_nil))
      (qss_cons (qs_if (pb_cmp (o_eq hr.units).op2 mo_eq (px_var 2) (px_str)) (qss_one (qs_ret (px_and (px_cmp (o_eq hr.units).op2 mo_eq (px_lenN 1 (by rfl) T.z_len) (px_int)) (px_one (px_call c__law_is_whole (hr.mono (by decide)) hG (qc_va (px_ixN 1 (px_int)) (qc_va (px_un o_neg mo_neg (px_bin o_pow mo_pow (px_int) (px_int))) (qc_va (px_bin o_pow mo_pow (px_int) (px_int)) (qc_nil))))))))) (qss_nil))
      (qss_cons (qs_if ((pb_or (pb_cmp o_notIn mo_in (px_var 2) (px_tup (qa_cons (px_str) (qa_cons (px_str) (qa_cons (px_str) (qa_nil)))))) (pb_or (pb_cmp (o_ne hr.units).op2 mo_ne (px_lenN 1 (by rfl) T.z_len) (px_int)) (pb_or1 (pb_not (pb_x (px_call c__law_is_whole (hr.mono (by decide)) hG (qc_va (px_ixN 1 (px_int)) (qc_va (px_int) (qc_va (px_bin o_sub mo_sub (px_var 0) (px_int)) (qc_nil)))))))))).pb) (qss_one (qs_ret (px_bl))) (qss_nil))
      (qss_cons (qs_if (pb_cmp (o_eq hr.units).op2 mo_eq (px_var 2) (px_str)) (qss_one (qs_ret (px_call c__law_is_whole (hr.mono (by decide)) hG (qc_va (px_ixN 1 (px_int)) (qc_va (px_un o_neg mo_neg (px_bin o_pow mo_pow (px_int) (px_int))) (qc_va (px_bin o_pow mo_pow (px_int) (px_int)) (qc_nil))))))) (qss_nil))
      (qss_one (qs_ret (px_call c__law_is_whole (hr.mono (by decide)) hG (qc_va (px_ixN 1 (px_int)) (qc_va (px_int) (qc_va (px_bin o_sub mo_sub (px_var 0) (px_int)) (qc_nil))))))))))))
theorem tr__law_program_error {P : Program} {w : World} {K : PySem.W.Frag} {mg : Str → Option Value} {base : Heap} {Z : Zd} (hZ : Z.sm = true) (T : Txt K mg) (c__law_is_step : CalG P w K mg base Z 3 "_law_is_step" ["place", "thing"] C__law_is_step) (f : Addr) (cdv : Value) (A : Around) (outer : List Env) (s : Shared) (H : Hp) (E : XK) (hr : Room 3 (A.deeper (envOfC "_law_program_error" (defScope s__law_program_error) s.heap.objs.size f cdv))) (hG : A.guards = some []) :
    QSs (cxOf CX0 P w K mg base N__law_program_error "_law_program_error" (defScope s__law_program_error) f cdv A outer s H E).nox Z (defBody s__law_program_error) rd__law_program_error :=
  have sND := sc__law_program_error.nd
  qss_cons (qs_if ((pb_or (pb_not (pb_x (px_isi .tuple (by rfl) T.z_isinstance (px_var 0) (by rfl) T.z_tuple (by rfl)))) (pb_or1 (pb_not (pb_chain o_le o_le mo_cmp mo_cmp (px_int) (px_lenN 0 (by rfl) T.z_len) (px_int))))).pb) (qss_one (qs_ret (px_str))) (qss_nil))
      (qss_cons (qs_for PassesOwn.never rfl (qi_enum (by rfl) T.z_enumerate (px_var 0)) (qg_tup rfl (qgs_cons (qg_nm 1 sND) (qgs_cons (qg_nm 2 sND) (qgs_nil)))) (qss_one (qs_if (pb_not (pb_x (px_call c__law_is_step (hr.mono (by decide)) hG (qc_va (px_var 1) (qc_va (px_var 2) (qc_nil)))))) (qss_one (qs_ret (px_tup (qa_cons (px_str) (qa_cons (px_var 1) (qa_nil)))))) (qss_nil))))
      (qss_one (qs_ret (px_if (pb_cmp o_gt.op2 mo_cmp (px_len ((px_lc (own := [("step", 2)]) rfl sND (qi_seq (px_var 0)) (blkOk_by (own := [("step", 2)]) (N := N__law_program_error) (sc := defScope s__law_program_error) (by decide +kernel)) (fun _ _ _ _ _ => qg_nm 2 sND) (fun _ _ _ _ _ => qts_one (pb_cmp (o_eq hr.units).op2 mo_eq (px_ixN 2 (px_int)) (px_str))) (fun _ _ _ _ _ => px_int) : PX _ _ _ (xLc (.nm 2) (iSeq (xVar 0)) (bX (xBin oEq (xIxN 2 (xC (.int 0))) (xC (.str "in")))) (xC (.int 1)) [2]))) T.z_len) (px_int)) (px_str) (px_non)))))
theorem tr__law_inputs_error {P : Program} {w : World} {K : PySem.W.Frag} {mg : Str → Option Value} {base : Heap} {Z : Zd} (hZ : Z.sm = true) (T : Txt K mg) (c__law_spans_of : CalG P w K mg base Z 1 "_law_spans_of" ["program"] C__law_spans_of) (c__law_is_whole : CalG P w K mg base Z 1 "_law_is_whole" ["thing", "low", "high"] C__law_is_whole) (f : Addr) (cdv : Value) (A : Around) (outer : List Env) (s : Shared) (H : Hp) (E : XK) (hr : Room 1 (A.deeper (envOfC "_law_inputs_error" (defScope s__law_inputs_error) s.heap.objs.size f cdv))) (hG : A.guards = some []) :
    QSs (cxOf CX0 P w K mg base N__law_inputs_error "_law_inputs_error" (defScope s__law_inputs_error) f cdv A outer s H E).nox Z (defBody s__law_inputs_error) rd__law_inputs_error :=
  have sND := sc__law_inputs_error.nd
  qss_cons (qs_set 2 sND (px_call c__law_spans_of (hr.mono (by decide)) hG (qc_va (px_var 0) (qc_nil))))
      (qss_cons (qs_if ((pb_or (pb_not (pb_x (px_isi .tuple (by rfl) T.z_isinstance (px_var 1) (by rfl) T.z_tuple (by rfl)))) (pb_or1 (pb_cmp (o_ne hr.units).op2 mo_ne (px_lenN 1 (by rfl) T.z_len) (px_lenN 2 (by rfl) T.z_len)))).pb) (qss_one (qs_ret (px_str))) (qss_nil))
      (qss_cons (qs_for PassesOwn.never rfl (qi_enum (by rfl) T.z_enumerate (px_var 1)) (qg_tup rfl (qgs_cons (qg_nm 3 sND) (qgs_cons (qg_nm 4 sND) (qgs_nil)))) (qss_cons (qs_unp (px_ixN 2 (px_var 3)) (qg_tup rfl (qgs_cons (qg_nm 5 sND) (qgs_cons (qg_nm 6 sND) (qgs_cons (qg_nm 7 sND) (qgs_nil))))))
      (qss_one (qs_if ((pb_or (pb_not (pb_x (px_call c__law_is_whole (hr.mono (by decide)) hG (qc_va (px_var 4) (qc_va (px_var 5) (qc_va (px_var 6) (qc_nil))))))) (pb_or1 (pb_cmp (o_ne hr.units).op2 mo_ne (px_bin o_mod mo_mod (px_bin o_sub mo_sub (px_var 4) (px_var 5)) (px_var 7)) (px_int)))).pb) (qss_one (qs_ret (px_tup (qa_cons (px_str) (qa_cons (px_var 3) (qa_nil)))))) (qss_nil)))))
      (qss_one (qs_ret (px_non)))))
theorem tr__law_odd_step {P : Program} {w : World} {K : PySem.W.Frag} {mg : Str → Option Value} {base : Heap} {Z : Zd} (hZ : Z.sm = true) (T : Txt K mg) (c__law_pick : CalG P w K mg base Z 2 "_law_pick" ["deck", "row"] C__law_pick) (f : Addr) (cdv : Value) (A : Around) (outer : List Env) (s : Shared) (H : Hp) (E : XK) (hr : Room 2 (A.deeper (envOfC "_law_odd_step" (defScope s__law_odd_step) s.heap.objs.size f cdv))) (hG : A.guards = some []) :
    QSs (cxOf CX0 P w K mg base N__law_odd_step "_law_odd_step" (defScope s__law_odd_step) f cdv A outer s H E).nox Z (defBody s__law_odd_step) rd__law_odd_step :=
  have sND := sc__law_odd_step.nd
  qss_cons (qs_set 2 sND (px_bin o_pow mo_pow (px_int) (px_int)))
      (qss_cons (qs_set 3 sND (px_lst (qa_cons (px_tup (qa_cons (px_str) (qa_cons (px_int) (qa_cons (px_int) (qa_cons (px_int) (qa_nil)))))) (qa_cons (px_tup (qa_cons (px_str) (qa_cons (px_int) (qa_cons (px_int) (qa_cons (px_int) (qa_nil)))))) (qa_cons (px_tup (qa_cons (px_str) (qa_cons (px_int) (qa_cons (px_int) (qa_cons (px_int) (qa_nil)))))) (qa_cons (px_tup (qa_cons (px_str) (qa_cons (px_int) (qa_cons (px_int) (qa_cons (px_var 2) (qa_nil)))))) (qa_nil)))))))
      (qss_cons (qs_set 3 sND (px_bin o_add mo_add (px_var 3) (px_lst (qa_cons (px_tup (qa_cons (px_str) (qa_cons (px_int) (qa_cons (px_int) (qa_cons (px_bin o_add mo_add (px_var 2) (px_int)) (qa_nil)))))) (qa_cons (px_tup (qa_cons (px_str) (qa_cons (px_un o_neg mo_neg (px_var 2)) (qa_cons (px_var 2) (qa_cons (px_int) (qa_nil)))))) (qa_nil))))))
      (qss_cons (qs_set 3 sND (px_bin o_add mo_add (px_var 3) (px_lst (qa_cons (px_tup (qa_cons (px_str) (qa_cons (px_int) (qa_cons (px_bin o_add mo_add (px_var 2) (px_int)) (qa_cons (px_int) (qa_nil)))))) (qa_cons (px_tup (qa_cons (px_str) (qa_cons (px_bin o_sub mo_sub (px_un o_neg mo_neg (px_var 2)) (px_int)) (qa_cons (px_int) (qa_cons (px_int) (qa_nil)))))) (qa_cons (px_tup (qa_cons (px_str) (qa_cons (px_int) (qa_cons (px_bl) (qa_cons (px_int) (qa_nil)))))) (qa_nil)))))))
      (qss_cons (qs_set 3 sND (px_bin o_add mo_add (px_var 3) (px_lst (qa_cons (px_tup (qa_cons (px_str) (qa_cons (px_int) (qa_cons (px_int) (qa_cons (px_bl) (qa_nil)))))) (qa_cons (px_tup (qa_cons (px_str) (qa_cons (px_bl) (qa_cons (px_int) (qa_cons (px_int) (qa_nil)))))) (qa_nil))))))
      (qss_cons (qs_set 3 sND (px_bin o_add mo_add (px_var 3) (px_lst (qa_cons (px_tup (qa_cons (px_str) (qa_cons (px_int) (qa_cons (px_int) (qa_nil))))) (qa_cons (px_tup (qa_cons (px_str) (qa_cons (px_int) (qa_cons (px_int) (qa_cons (px_int) (qa_cons (px_int) (qa_nil))))))) (qa_cons (px_lst (qa_cons (px_str) (qa_cons (px_int) (qa_cons (px_int) (qa_cons (px_int) (qa_nil)))))) (qa_nil)))))))
      (qss_cons (qs_set 3 sND (px_bin o_add mo_add (px_var 3) (px_lst (qa_cons (px_tup (qa_cons (px_str) (qa_cons (px_int) (qa_cons (px_int) (qa_cons (px_un o_neg mo_neg (px_int)) (qa_nil)))))) (qa_cons (px_tup (qa_cons (px_str) (qa_cons (px_non) (qa_cons (px_int) (qa_cons (px_int) (qa_nil)))))) (qa_cons (px_tup (qa_cons (px_str) (qa_cons (px_str) (qa_cons (px_int) (qa_cons (px_int) (qa_nil)))))) (qa_nil)))))))
      (qss_cons (qs_set 3 sND (px_bin o_add mo_add (px_var 3) (px_lst (qa_cons (px_tup (qa_cons (px_str) (qa_cons (px_var 2) (qa_nil)))) (qa_cons (px_tup (qa_cons (px_str) (qa_cons (px_bin o_add mo_add (px_var 2) (px_int)) (qa_nil)))) (qa_cons (px_tup (qa_cons (px_str) (qa_cons (px_un o_neg mo_neg (px_var 2)) (qa_nil)))) (qa_cons (px_tup (qa_cons (px_str) (qa_cons (px_bin o_sub mo_sub (px_un o_neg mo_neg (px_var 2)) (px_int)) (qa_nil)))) (qa_nil))))))))
      (qss_cons (qs_set 3 sND (px_bin o_add mo_add (px_var 3) (px_lst (qa_cons (px_tup (qa_cons (px_str) (qa_cons (px_bl) (qa_nil)))) (qa_cons (px_tup (qa_cons (px_str) (qa_nil))) (qa_cons (px_tup (qa_cons (px_str) (qa_cons (px_int) (qa_cons (px_int) (qa_nil))))) (qa_cons (px_tup (qa_cons (px_str) (qa_cons (px_str) (qa_nil)))) (qa_nil))))))))
      (qss_cons (qs_set 3 sND (px_bin o_add mo_add (px_var 3) (px_lst (qa_cons (px_tup (qa_cons (px_str) (qa_cons (px_var 1) (qa_cons (px_int) (qa_nil))))) (qa_cons (px_tup (qa_cons (px_str) (qa_cons (px_int) (qa_cons (px_var 1) (qa_nil))))) (qa_cons (px_tup (qa_cons (px_str) (qa_cons (px_un o_neg mo_neg (px_int)) (qa_cons (px_int) (qa_nil))))) (qa_nil)))))))
      (qss_cons (qs_set 3 sND (px_bin o_add mo_add (px_var 3) (px_lst (qa_cons (px_tup (qa_cons (px_str) (qa_cons (px_int) (qa_cons (px_int) (qa_nil))))) (qa_cons (px_tup (qa_cons (px_str) (qa_cons (px_int) (qa_cons (px_bl) (qa_nil))))) (qa_cons (px_tup (qa_cons (px_str) (qa_cons (px_int) (qa_nil)))) (qa_cons (px_tup (qa_cons (px_str) (qa_nil))) (qa_nil))))))))
      (qss_cons (qs_set 3 sND (px_bin o_add mo_add (px_var 3) (px_lst (qa_cons (px_tup (qa_cons (px_str) (qa_cons (px_int) (qa_cons (px_bin o_pow mo_pow (px_int) (px_int)) (qa_nil))))) (qa_cons (px_tup (qa_cons (px_str) (qa_cons (px_int) (qa_cons (px_bin o_sub mo_sub (px_un o_neg mo_neg (px_bin o_pow mo_pow (px_int) (px_int))) (px_int)) (qa_nil))))) (qa_nil))))))
      (qss_cons (qs_set 3 sND (px_bin o_add mo_add (px_var 3) (px_lst (qa_cons (px_tup (qa_cons (px_str) (qa_cons (px_int) (qa_cons (px_bin o_add mo_add (px_bin o_pow mo_pow (px_int) (px_int)) (px_int)) (qa_nil))))) (qa_cons (px_tup (qa_cons (px_str) (qa_cons (px_var 1) (qa_cons (px_int) (qa_nil))))) (qa_nil))))))
      (qss_cons (qs_set 3 sND (px_bin o_add mo_add (px_var 3) (px_lst (qa_cons (px_tup (qa_cons (px_str) (qa_cons (px_int) (qa_cons (px_bl) (qa_nil))))) (qa_cons (px_tup (qa_cons (px_str) (qa_cons (px_int) (qa_cons (px_int) (qa_nil))))) (qa_cons (px_tup (qa_cons (px_str) (qa_cons (px_bl) (qa_cons (px_int) (qa_nil))))) (qa_nil)))))))
      (qss_cons (qs_set 3 sND (px_bin o_add mo_add (px_var 3) (px_lst (qa_cons (px_tup (qa_cons (px_str) (qa_cons (px_int) (qa_cons (px_int) (qa_cons (px_int) (qa_nil)))))) (qa_cons (px_tup (qa_cons (px_str) (qa_cons (px_int) (qa_cons (px_int) (qa_nil))))) (qa_cons (px_tup (qa_cons (px_str) (qa_cons (px_int) (qa_cons (px_int) (qa_nil))))) (qa_nil)))))))
      (qss_one (qs_ret (px_call c__law_pick (hr.mono (by decide)) hG (qc_dk 0 (qc_va (px_bin o_add mo_add (px_var 3) (px_lst (qa_cons (px_non) (qa_cons (px_tup (qa_nil)) (qa_cons (px_int) (qa_cons (px_str) (qa_cons (px_tup (qa_cons (px_lst (qa_cons (px_str) (qa_nil))) (qa_cons (px_int) (qa_cons (px_int) (qa_cons (px_int) (qa_nil)))))) (qa_cons (px_dict0) (qa_cons (px_tup (qa_cons (px_tup (qa_nil)) (qa_nil))) (qa_cons (px_tup (qa_cons (px_str) (qa_nil))) (qa_cons (px_tup (qa_cons (px_tup (qa_cons (px_str) (qa_cons (px_int) (qa_nil)))) (qa_nil))) (qa_cons (px_tup (qa_cons (px_lst (qa_nil)) (qa_cons (px_int) (qa_nil)))) (qa_nil))))))))))))) (qc_nil))))))))))))))))))))
theorem tr__law_odd_inputs {P : Program} {w : World} {K : PySem.W.Frag} {mg : Str → Option Value} {base : Heap} {Z : Zd} (hZ : Z.sm = true) (T : Txt K mg) (c__law_spans_of : CalG P w K mg base Z 1 "_law_spans_of" ["program"] C__law_spans_of) (c__law_some : CalG P w K mg base Z 3 "_law_some" ["deck", "spans"] C__law_some) (c__law_draw : CalG P w K mg base Z 1 "_law_draw" ["deck", "many"] C__law_draw) (c__law_pick : CalG P w K mg base Z 2 "_law_pick" ["deck", "row"] C__law_pick) (f : Addr) (cdv : Value) (A : Around) (outer : List Env) (s : Shared) (H : Hp) (E : XK) (hr : Room 3 (A.deeper (envOfC "_law_odd_inputs" (defScope s__law_odd_inputs) s.heap.objs.size f cdv))) (hG : A.guards = some []) :
    QSs (cxOf CX0 P w K mg base N__law_odd_inputs "_law_odd_inputs" (defScope s__law_odd_inputs) f cdv A outer s H E).nox Z (defBody s__law_odd_inputs) rd__law_odd_inputs :=
  have sND := sc__law_odd_inputs.nd
  qss_cons (qs_set 2 sND (px_call c__law_spans_of (hr.mono (by decide)) hG (qc_va (px_var 1) (qc_nil))))
      (qss_cons (qs_set 3 sND (px_callT f_list mf_list (by rfl) T.z_list (by rfl) (qa_cons (px_call c__law_some (hr.mono (by decide)) hG (qc_dk 0 (qc_va (px_var 2) (qc_nil)))) (qa_nil))))
      (qss_cons (qs_set 4 sND (px_lst (qa_cons (px_non) (qa_cons (px_lst (qa_nil)) (qa_cons (px_dict0) (qa_cons (px_str) (qa_cons (px_bin o_mul mo_mul (px_tup (qa_cons (px_int) (qa_nil))) (px_int)) (qa_cons (px_callT f_tuple mf_tuple (by rfl) T.z_tuple (by rfl) (qa_cons (px_addN 3 (px_lst (qa_cons (px_int) (qa_nil)))) (qa_nil))) (qa_cons (px_listN 3 (by rfl) T.z_list) (qa_cons (px_callT f_tuple mf_tuple (by rfl) T.z_tuple (by rfl) (qa_cons (px_slN 3 (qp_at (px_int)) (qp_no)) (qa_nil))) (qa_cons (px_bin o_mul mo_mul (px_tup (qa_cons (px_non) (qa_nil))) (px_lenN 3 (by rfl) T.z_len)) (qa_cons (px_int) (qa_nil)))))))))))))
      (qss_cons (qs_if ((pb_and (pb_nilN 3 (op_nilN (hu0 hr))) (pb_and1 (pb_cmp o_gt.op2 mo_cmp (px_call c__law_draw (hr.mono (by decide)) hG (qc_dk 0 (qc_va (px_int) (qc_nil)))) (px_int)))).pb) (qss_cons (qs_set 5 sND (px_call c__law_draw (hr.mono (by decide)) hG (qc_dk 0 (qc_va (px_lenN 3 (by rfl) T.z_len) (qc_nil)))))
      (qss_cons (qs_unp (px_ixN 2 (px_var 5)) (qg_tup rfl (qgs_cons (qg_nm 6 sND) (qgs_cons (qg_nm 7 sND) (qgs_cons (qg_nm 8 sND) (qgs_nil))))))
      (qss_cons (qs_set 9 sND (px_lst (qa_cons (px_bin o_sub mo_sub (px_var 6) (px_var 8)) (qa_cons (px_bin o_add mo_add (px_var 7) (px_var 8)) (qa_cons (px_bin o_add mo_add (px_var 6) (px_int)) (qa_cons (px_bin o_sub mo_sub (px_var 7) (px_int)) (qa_cons (px_bl) (qa_cons (px_bl) (qa_cons (px_non) (qa_cons (px_str) (qa_cons (px_lst (qa_cons (px_var 6) (qa_nil))) (qa_cons (px_var 6) (qa_cons (px_var 7) (qa_nil))))))))))))))
      (qss_cons (qs_setIx 3 (px_call c__law_pick (hr.mono (by decide)) hG (qc_dk 0 (qc_va (px_var 9) (qc_nil)))) (px_var 5))
      (qss_one (qs_ret (px_tupN 3 (by rfl) T.z_tuple))))))) (qss_nil))
      (qss_one (qs_ret (px_call c__law_pick (hr.mono (by decide)) hG (qc_dk 0 (qc_va (px_var 4) (qc_nil)))))))))
theorem tr__law_is_judged {P : Program} {w : World} {K : PySem.W.Frag} {mg : Str → Option Value} {base : Heap} {Z : Zd} (hZ : Z.sm = true) (T : Txt K mg) (c__law_program_error : CalG P w K mg base Z 4 "_law_program_error" ["thing"] C__law_program_error) (c_program_error : CalG P w K mg base Z 5 "program_error" ["value"] C_program_error) (c_program_error_k0 : CalK P w K mg base Z 5 "program_error" ["value"] ["value"] [0] C_program_error) (f : Addr) (cdv : Value) (A : Around) (outer : List Env) (s : Shared) (H : Hp) (E : XK) (hr : Room 5 (A.deeper (envOfC "_law_is_judged" (defScope s__law_is_judged) s.heap.objs.size f cdv))) (hG : A.guards = some []) :
    QSs (cxOf CX0 P w K mg base N__law_is_judged "_law_is_judged" (defScope s__law_is_judged) f cdv A outer s H E).nox Z (defBody s__law_is_judged) rd__law_is_judged :=
  have sND := sc__law_is_judged.nd
  qss_cons (qs_set2 2 3 rfl sND (px_repr hr.units hG hZ (by rfl) T.z_repr (px_var 0)) (px_call c__law_program_error (hr.mono (by decide)) hG (qc_va (px_var 0) (qc_nil))))
      (qss_cons (qs_set 4 sND (px_if (pb_x (px_var 1)) (px_callK c_program_error_k0 (hr.mono (by decide)) hG (qn_va (px_var 0) (qn_nil))) (px_call c_program_error (hr.mono (by decide)) hG (qc_va (px_var 0) (qc_nil)))))
      (qss_one (qs_ret (px_cmp (o_eq hr.units).op2 mo_eq (px_repr hr.units hG hZ (by rfl) T.z_repr (px_lst (qa_cons (px_var 4) (qa_cons (px_call c_program_error (hr.mono (by decide)) hG (qc_va (px_var 0) (qc_nil))) (qa_cons (px_repr hr.units hG hZ (by rfl) T.z_repr (px_var 0)) (qa_nil)))))) (px_repr hr.units hG hZ (by rfl) T.z_repr (px_lst (qa_cons (px_var 3) (qa_cons (px_var 3) (qa_cons (px_var 2) (qa_nil))))))))))
theorem tr_law {P : Program} {w : World} {K : PySem.W.Frag} {mg : Str → Option Value} {base : Heap} {Z : Zd} (hZ : Z.sm = true) (T : Txt K mg) (c__law_great : CalG P w K mg base Z 3 "_law_great" ["deck", "many", "kept"] C__law_great) (c__law_program : CalG P w K mg base Z 4 "_law_program" ["deck", "many", "most", "factors"] C__law_program) (c__law_draw : CalG P w K mg base Z 1 "_law_draw" ["deck", "many"] C__law_draw) (c__law_odd_step : CalG P w K mg base Z 3 "_law_odd_step" ["deck", "place"] C__law_odd_step) (c__law_odd_inputs : CalG P w K mg base Z 4 "_law_odd_inputs" ["deck", "program"] C__law_odd_inputs) (c__law_some : CalG P w K mg base Z 3 "_law_some" ["deck", "spans"] C__law_some) (c__law_spans_of : CalG P w K mg base Z 1 "_law_spans_of" ["program"] C__law_spans_of) (c__law_inputs_error : CalG P w K mg base Z 2 "_law_inputs_error" ["program", "thing"] C__law_inputs_error) (c_inputs_error : CalG P w K mg base Z 3 "inputs_error" ["program", "value"] C_inputs_error) (c_inputs_error_k10 : CalK P w K mg base Z 3 "inputs_error" ["program", "value"] ["value", "program"] [1, 0] C_inputs_error) (c__law_is_judged : CalG P w K mg base Z 6 "_law_is_judged" ["thing", "is_named"] C__law_is_judged) (f : Addr) (cdv : Value) (A : Around) (outer : List Env) (s : Shared) (H : Hp) (E : XK) (hr : Room 6 (A.deeper (envOfC "law" (defScope s_law) s.heap.objs.size f cdv))) (hG : A.guards = some []) :
    QSs (cxOf CX0 P w K mg base N_law "law" (defScope s_law) f cdv A outer s H E).nox Z (defBody s_law).tail rd_law :=
  have sND := sc_law.nd
  qss_cons (qs_set 2 sND (px_tup (qa_cons (px_str) (qa_cons (px_int) (qa_cons (px_int) (qa_cons (px_int) (qa_nil)))))))
      (qss_cons (qs_set 3 sND (px_call c__law_great (hr.mono (by decide)) hG (qc_dk 1 (qc_va (px_int) (qc_va (px_int) (qc_nil))))))
      (qss_cons (qs_set 4 sND (px_lst (qa_cons (px_var 3) (qa_cons (px_bin o_add mo_add (px_var 3) (px_tup (qa_cons (px_tup (qa_cons (px_str) (qa_cons (px_int) (qa_nil)))) (qa_nil)))) (qa_cons (px_bin o_mul mo_mul (px_tup (qa_cons (px_var 2) (qa_nil))) (px_int)) (qa_cons (px_bin o_mul mo_mul (px_tup (qa_cons (px_var 2) (qa_nil))) (px_int)) (qa_cons (px_bin o_add mo_add (px_bin o_mul mo_mul (px_tup (qa_cons (px_var 2) (qa_nil))) (px_int)) (px_tup (qa_cons (px_tup (qa_cons (px_str) (qa_cons (px_int) (qa_cons (px_int) (qa_nil))))) (qa_nil)))) (qa_cons (px_bin o_add mo_add (px_sl (px_var 3) (qp_no) (qp_at (px_int))) (px_tup (qa_cons (px_var 2) (qa_nil)))) (qa_nil)))))))))
      (qss_cons (qs_set 4 sND (px_bin o_add mo_add (px_var 4) (px_lst (qa_cons (px_tup (qa_nil)) (qa_cons (px_non) (qa_cons (px_tup (qa_cons (px_var 2) (qa_cons (px_tup (qa_cons (px_str) (qa_cons (px_int) (qa_cons (px_int) (qa_nil))))) (qa_nil)))) (qa_nil)))))))
      (qss_cons (qs_set 4 sND (px_bin o_add mo_add (px_var 4) (px_lst (qa_cons (px_callT f_list mf_list (by rfl) T.z_list (by rfl) (qa_cons (px_var 3) (qa_nil))) (qa_cons (px_str) (qa_cons (px_int) (qa_cons (px_dict0) (qa_cons (px_tup (qa_cons (px_var 2) (qa_cons (px_non) (qa_nil)))) (qa_cons (px_var 2) (qa_cons (px_bin o_mul mo_mul (px_tup (qa_cons (px_var 2) (qa_nil))) (px_int)) (qa_cons (px_tup (qa_cons (px_tup (qa_cons (px_str) (qa_cons (px_int) (qa_cons (px_int) (qa_nil))))) (qa_nil))) (qa_nil))))))))))))
      (qss_cons (qs_for PassesOwn.never rfl (qi_rng1 (by rfl) T.z_range (px_int)) (qg_nm 5 sND) (qss_cons (qs_set 6 sND (px_call c__law_program (hr.mono (by decide)) hG (qc_dk 1 (qc_va (px_bin o_add mo_add (px_int) (px_call c__law_draw (hr.mono (by decide)) hG (qc_dk 1 (qc_va (px_int) (qc_nil))))) (qc_va (px_int) (qc_va (px_lst (qa_cons (px_int) (qa_cons (px_un o_neg mo_neg (px_int)) (qa_cons (px_int) (qa_cons (px_bin o_pow mo_pow (px_int) (px_int)) (qa_nil)))))) (qc_nil)))))))
      (qss_cons (qs_set 7 sND (px_call c__law_draw (hr.mono (by decide)) hG (qc_dk 1 (qc_va (px_bin o_add mo_add (px_lenN 6 (by rfl) T.z_len) (px_int)) (qc_nil)))))
      (qss_cons (qs_set 4 sND (px_bin o_add mo_add (px_var 4) (px_lst (qa_cons (px_var 6) (qa_cons (px_bin o_add mo_add (px_bin o_add mo_add (px_sl (px_var 6) (qp_no) (qp_at (px_var 7))) (px_tup (qa_cons (px_call c__law_odd_step (hr.mono (by decide)) hG (qc_dk 1 (qc_va (px_var 7) (qc_nil)))) (qa_nil)))) (px_sl (px_var 6) (qp_at (px_bin o_add mo_add (px_var 7) (px_int))) (qp_no))) (qa_cons (px_sl (px_var 6) (qp_at (px_var 7)) (qp_no)) (qa_nil)))))))
      (qss_cons (qs_set 7 sND (px_call c__law_draw (hr.mono (by decide)) hG (qc_dk 1 (qc_va (px_int) (qc_nil)))))
      (qss_cons (qs_set 4 sND (px_bin o_add mo_add (px_var 4) (px_lst (qa_cons (px_bin o_add mo_add (px_bin o_add mo_add (px_sl (px_var 3) (qp_no) (qp_at (px_var 7))) (px_tup (qa_cons (px_call c__law_odd_step (hr.mono (by decide)) hG (qc_dk 1 (qc_va (px_var 7) (qc_nil)))) (qa_nil)))) (px_sl (px_var 3) (qp_at (px_bin o_add mo_add (px_var 7) (px_int))) (qp_no))) (qa_nil)))))
      (qss_one (qs_for PassesOwn.never rfl (qi_rng1 (by rfl) T.z_range (px_int)) (qg_nm 8 sND) (qss_cons (qs_set 9 sND (px_if (pb_cmp (o_eq hr.units).op2 mo_eq (px_var 8) (px_int)) (px_call c__law_odd_inputs (hr.mono (by decide)) hG (qc_dk 1 (qc_va (px_var 6) (qc_nil)))) (px_call c__law_some (hr.mono (by decide)) hG (qc_dk 1 (qc_va (px_call c__law_spans_of (hr.mono (by decide)) hG (qc_va (px_var 6) (qc_nil))) (qc_nil))))))
      (qss_cons (qs_set2 10 11 rfl sND (px_repr hr.units hG hZ (by rfl) T.z_repr (px_lst (qa_cons (px_var 6) (qa_cons (px_var 9) (qa_nil))))) (px_call c__law_inputs_error (hr.mono (by decide)) hG (qc_va (px_var 6) (qc_va (px_var 9) (qc_nil)))))
      (qss_cons (qs_set 12 sND (px_if (pb_cmp (o_eq hr.units).op2 mo_eq (px_var 5) (px_int)) (px_callK c_inputs_error_k10 (hr.mono (by decide)) hG (qn_va (px_var 9) (qn_va (px_var 6) (qn_nil)))) (px_call c_inputs_error (hr.mono (by decide)) hG (qc_va (px_var 6) (qc_va (px_var 9) (qc_nil))))))
      (qss_one (qs_if ((pb_or (pb_cmp (o_ne hr.units).op2 mo_ne (px_repr hr.units hG hZ (by rfl) T.z_repr (px_var 12)) (px_repr hr.units hG hZ (by rfl) T.z_repr (px_var 11))) (pb_or1 (pb_cmp (o_ne hr.units).op2 mo_ne (px_repr hr.units hG hZ (by rfl) T.z_repr (px_lst (qa_cons (px_var 6) (qa_cons (px_var 9) (qa_nil))))) (px_var 10)))).pb) (qss_one (qs_ret (px_bl))) (qss_nil))))))))))))))
      (qss_cons (qs_for PassesOwn.never rfl (qi_rng1 (by rfl) T.z_range (px_int)) (qg_nm 5 sND) (qss_cons (qs_set 9 sND (px_call c__law_odd_inputs (hr.mono (by decide)) hG (qc_dk 1 (qc_va (px_var 3) (qc_nil)))))
      (qss_one (qs_if (pb_cmp (o_ne hr.units).op2 mo_ne (px_repr hr.units hG hZ (by rfl) T.z_repr (px_call c_inputs_error (hr.mono (by decide)) hG (qc_va (px_var 3) (qc_va (px_var 9) (qc_nil))))) (px_repr hr.units hG hZ (by rfl) T.z_repr (px_call c__law_inputs_error (hr.mono (by decide)) hG (qc_va (px_var 3) (qc_va (px_var 9) (qc_nil)))))) (qss_one (qs_ret (px_bl))) (qss_nil)))))
      (qss_one (qs_ret (px_nil (op_nilE (hu0 hr)) ((px_lc (own := [("nth", 13), ("thing", 14)]) rfl sND (qi_enum (by rfl) T.z_enumerate (px_var 4)) (blkOk_by (own := [("nth", 13), ("thing", 14)]) (N := N_law) (sc := defScope s_law) (by decide +kernel)) (fun _ _ _ _ _ => qg_tup rfl (qgs_cons (qg_nm 13 sND) (qgs_cons (qg_nm 14 sND) (qgs_nil)))) (fun _ _ _ _ _ => qts_one (pb_not (pb_x (px_call c__law_is_judged (hr.mono (by decide)) hG (qc_va (px_var 14) (qc_va (px_cmp (o_eq hr.units).op2 mo_eq (px_bin o_mod mo_mod (px_callT f_int mf_int (by rfl) T.z_int (by rfl) (qa_cons (px_var 13) (qa_nil))) (px_int)) (px_int)) (qc_nil))))))) (fun _ _ _ _ _ => px_int) : PX _ _ _ (xLc (.tup [.nm 13, .nm 14]) (iEnum (xVar 4)) (bNot (bX (xDef C__law_is_judged (cVa (xVar 14) (cVa (xBin oEq (xBin oMod (xCall fInt (aCons (xVar 13) (aNil))) (xC (.int 5))) (xC (.int 2))) (cNil)))))) (xC (.int 1)) [13, 14]))))))))))))

end K35

namespace K35
open PySem L2 DL PyProof.Rows
theorem ok_draw {P : Program} {w : World} {K : PySem.W.Frag} {mg : Str → Option Value} {base : Heap} {f : Addr} {fd : FuncData} (F : Fun K "_law_draw" "_law_draw" s__law_draw f fd) (T : Txt K mg) : FnG P w K mg base CX0 1 f fd ["deck", "many"] (spOf (ZA K) C__law_draw) := by
  refine fnG_of F sc__law_draw (fun vs H Q E h => ?_) fun cdv A outer s H vs Q E hr hG h => ?_
  · obtain ⟨δ, B, as, _, ha, _, _, m, rfl, _⟩ := h
    exact ha.length
  · obtain ⟨δ, B, as, hs, ha, hk, hm, m, rfl, ⟨m1, m2⟩, h⟩ := h
    obtain ⟨v1, v2, rfl, a1, a2⟩ : ∃ v1 v2, vs = [v1, v2] ∧ ArV B δ v1 .dk ∧ ArV B δ v2 (.va (.int m)) := by
      cases ha with | cons p q => cases q with | cons p2 q2 => cases q2; exact ⟨_, _, rfl, p, p2⟩
    cases a2 with
    | va a2 =>
    cases a2.int_inv
    cases a1 with
    | @dk p fp ed =>
    subst ed
    obtain ⟨l, st, ds, rfl, npl, hp, hl, hd63⟩ := (hk p fp rfl).1
    have nd := sc__law_draw.nd
    have hu : (cxOf CX0 P w K mg base N__law_draw "_law_draw" (defScope s__law_draw) f cdv A outer s H E).nox.A.units + 1 < cLine := hu_of hr
    refine ⟨_, pss_cons (ps_if (pt_cmpR op_lt (pv 1) pe_int (nomark _)) (pss_one (ps_ret pe_int)) pss_nil)
      (pss_cons (ps_if (pt_cmpR (op_nilN (hu0 hr)) (pe_dget hu (pv 0) pe_str (nosl_of _)) (pe_lst pa_nil) rfl)
        (pss_cons (ps_set (i := 2) nd rfl (Or.inl rfl) (pe_bm0 PySem.F.plainAttrs_list PySem.F.slot_list_pop PySem.F.type_list_pop mt_pop (pe_dget hu (pv 0) pe_str (nosl_of _))))
          (pss_cons (ps_if (pt_cmpR op_ge (pv 2) (pv 1) (nomark _)) (pss_one (ps_expr (pe_bm PySem.F.plainAttrs_list PySem.F.slot_list_append PySem.F.type_list_append mt_append (pe_dget hu (pv 0) pe_str (nosl_of _)) (pa_cons (pe_op op_fdivW (pv 2) (pv 1)) pa_nil)))) pss_nil)
            (pss_one (ps_ret (pe_op op_mod (pe_callTy call_int1 (by rfl) T.z_int (by rfl) (pa_cons (pv 2) pa_nil)) (pv 1)))))) pss_nil)
        (pss_cons (ps_set (i := 3) nd rfl (Or.inl rfl) (pe_op op_mod (pe_callTy call_int1 (by rfl) T.z_int (by rfl) (pa_cons (pe_op op_add (pe_op op_mulA (pe_dget hu (pv 0) pe_str (nosl_of _)) pe_int) pe_int) pa_nil)) pe_int))
          (pss_cons (ps_dput hu (pv 0) pe_str (pv 3) rfl)
            (pss_cons (ps_set (i := 4) nd rfl (Or.inl rfl) (pe_op op_mod (pe_callTy call_int1 (by rfl) T.z_int (by rfl) (pa_cons (pe_op op_add (pe_op op_add (pe_op op_mulA (pv 3) (pv 3)) (pe_op op_mulA pe_int (pv 3))) pe_int) pa_nil)) pe_int))
              (pss_one (ps_ret (pe_op op_mod (pe_callTy call_int1 (by rfl) T.z_int (by rfl) (pa_cons (pe_op op_fdivW (pv 4) pe_int) pa_nil)) (pv 1)))))))), ?_⟩
    have dv : ∀ a : Int, CDivW a m := fun a => wide_div (b := 9000) (by omega) (nat_le_pow (by omega) (by decide)) (by decide) (by decide)
    have gd : ∀ {G : Hp} {l : Addr} {st : Int}, G p = some (.dK (kdA l st)) → DGet G p (.str "deep") (some (.ref l)) := fun {G l st} e => by
      have z := DGet.k (k := .inr "deep") e
      rw [kdA_deep] at z
      exact z
    have gs : ∀ {G : Hp} {l : Addr} {st : Int}, G p = some (.dK (kdA l st)) → DGet G p (.str "state") (some (.int st)) := fun {G l st} e => by
      have z := DGet.k (k := .inr "state") e
      rw [kdA_state] at z
      exact z
    -- if many < 2
    refine ⟨_, rfl, _, _, rfl, rfl, _, rfl, ?_⟩
    refine ite2 (fun c => ?_) (fun c => ?_)
    · exact drawA_fin hs hk ⟨l, st, ds, rfl, npl, hp, hl, hd63⟩ (fun a o e _ _ => e) (fun a e => e) (h 0 (by omega) (by omega))
    · refine ⟨_, rfl, p, _, rfl, gd hp, Nat.zero_le _, fun q hq => ?_⟩
      have nql : l ≠ q := ne_of_none hl hq
      have nqp : p ≠ q := ne_of_none hp hq
      have hl1 : upd H q (.lst []) l = some (.lst (ds.map V.int)) := by rw [upd_ne nql]; exact hl
      have hp1 : upd H q (.lst []) p = some (.dK (kdA l st)) := by rw [upd_ne nqp]; exact hp
      have keep1 : ∀ a o, H a = some o → upd H q (.lst []) a = some o := fun a o e => by rw [upd_ne (ne_of_none e hq)]; exact e
      have tr1 : ∀ a, upd H q (.lst []) a = none → H a = none := fun a e => upd_none e
      have hq1 : upd H q (.lst []) q = some (.lst []) := upd_same
      generalize upd H q (.lst []) = H1 at hl1 hp1 keep1 tr1 hq1
      refine ⟨l, q, _, rfl, rfl, SqL.of hl1, SqL.of hq1, _, rfl, ?_⟩
      cases hds : ds with
      | cons d0 dr =>
        have hne : ds ≠ [] := by rw [hds]; exact List.cons_ne_nil _ _
        rw [← hds]
        refine ite_tt' (by rw [hds]; rfl) ?_
        have hlast : (ds.map V.int)[(ds.map V.int).length - 1]? = some (.int (ds.getLast hne)) := by
          rw [← List.getLast?_eq_getElem?, List.getLast?_map, List.getLast?_eq_some_getLast hne]
          rfl
        generalize ds.getLast hne = wh at hlast
        have hdl : (ds.map V.int).dropLast = ds.dropLast.map V.int := by rw [List.map_dropLast]
        have hlen : ds.dropLast.length ≤ 62 := by rw [List.length_dropLast]; omega
        refine ⟨_, rfl, p, _, rfl, gd hp1, .inl ⟨rfl, _, SqL.of hl1⟩, l, _, _, rfl, rfl, hl1, hlast, ?_⟩
        rw [hdl]
        have npl' : p ≠ l := npl
        have hl2 : upd H1 l (.lst (ds.dropLast.map V.int)) l = some (.lst (ds.dropLast.map V.int)) := upd_same
        have hp2 : upd H1 l (.lst (ds.dropLast.map V.int)) p = some (.dK (kdA l st)) := by rw [upd_ne npl]; exact hp1
        have keep2 : ∀ a o, H a = some o → a ≠ p → a ≠ l → upd H1 l (.lst (ds.dropLast.map V.int)) a = some o := fun a o e _ n2 => by rw [upd_ne n2]; exact keep1 a o e
        have tr2 : ∀ a, upd H1 l (.lst (ds.dropLast.map V.int)) a = none → H a = none := fun a e => tr1 a (upd_none e)
        generalize upd H1 l (.lst (ds.dropLast.map V.int)) = H2 at hl2 hp2 keep2 tr2
        have pos := mod_pos wh m (by omega)
        refine ⟨_, rfl, _, rfl, _, _, rfl, rfl, _, rfl, ?_⟩
        refine ite2 (fun c2 => ?_) (fun c2 => ?_)
        · refine ⟨_, rfl, p, _, rfl, gd hp2, .inl ⟨rfl, _, SqL.of hl2⟩, _, rfl, _, rfl, _, _, rfl, rfl, dv _, l, _, _, rfl, rfl, hl2, by rw [List.length_map]; exact Nat.lt_of_le_of_lt hlen (by decide), ?_⟩
          refine ⟨_, rfl, .inl ⟨_, rfl, _, rfl, _, _, rfl, rfl, by omega, ?_⟩⟩
          refine drawA_fin hs hk ⟨l, st, ds.dropLast ++ [wh / m], rfl, npl, by rw [upd_ne npl]; exact hp2, by rw [upd_same, List.map_append]; rfl, by rw [List.length_append, List.length_singleton]; omega⟩ (fun a o e n1 n2 => by rw [upd_ne n2]; exact keep2 a o e n1 n2) (fun a e => tr2 a (upd_none e)) (h _ pos.1 pos.2)
        · refine ⟨_, rfl, .inl ⟨_, rfl, _, rfl, _, _, rfl, rfl, by omega, ?_⟩⟩
          exact drawA_fin hs hk ⟨l, st, ds.dropLast, rfl, npl, hp2, hl2, by omega⟩ keep2 tr2 (h _ pos.1 pos.2)
      | nil =>
        refine ite_ff' rfl ?_
        subst hds
        refine ⟨_, rfl, p, _, rfl, gs hp1, _, _, rfl, rfl, mul_r (by decide), _, _, rfl, rfl, .inl ⟨_, rfl, _, _, rfl, rfl, (show (0 : Int) < 2305843009213693951 by decide), ?_⟩⟩
        refine ⟨_, rfl, _, rfl, p, _, rfl, DPut.k (k := .inr "state") hp1 (by show 2 < sizeLine; decide), ?_⟩
        rw [kdA_put]
        refine ⟨_, rfl, _, rfl, _, _, rfl, rfl, mul_l (by omega), _, rfl, _, _, rfl, rfl, mul_l (by decide), _, _, rfl, rfl, _, _, rfl, rfl, .inl ⟨_, rfl, _, _, rfl, rfl, (show (0 : Int) < 2305843009213693921 by decide), ?_⟩⟩
        refine ⟨_, rfl, _, _, rfl, rfl, wide_div (b := 9000) (by decide) (nat_le_pow (by decide) (by decide)) (by decide) (by decide), .inl ⟨_, rfl, _, rfl, _, _, rfl, rfl, (show (0 : Int) < m by omega), ?_⟩⟩
        refine drawA_fin hs hk ⟨l, _, [], rfl, npl, upd_same, by rw [upd_ne npl.symm]; exact hl1, by decide⟩ (fun a o e n1 n2 => by rw [upd_ne n1]; exact keep1 a o e) (fun a e => tr1 a (upd_none e)) (h _ (mod_pos _ m (by omega)).1 (mod_pos _ m (by omega)).2)

end K35

namespace K35
open PySem L2 DL PyProof.Rows
theorem ok_deck {P : Program} {w : World} {K : PySem.W.Frag} {mg : Str → Option Value} {base : Heap} {f : Addr} {fd : FuncData} (F : Fun K "_law_deck" "_law_deck" s__law_deck f fd) (T : Txt K mg) : FnG P w K mg base CX0 1 f fd ["script"] (spDeckA K) := by
  refine fnG_of F sc__law_deck (fun vs H Q E h => ?_) fun cdv A outer s H vs Q E hr hG h => ?_
  · obtain ⟨a, ns, rfl, _⟩ := h
    rfl
  · obtain ⟨a, ns, rfl, hS, hlen, h⟩ := h
    have nd := sc__law_deck.nd
    have hu : (cxOf CX0 P w K mg base N__law_deck "_law_deck" (defScope s__law_deck) f cdv A outer s H E).nox.A.units + 1 < cLine := hu_of hr
    refine ⟨_, pss_cons (ps_set (i := 1) nd rfl (Or.inl rfl) (pe_disp (pps_cons pe_str (pe_lst pa_nil) (pps_cons pe_str (pe_op op_add (pe_op op_add pe_int pe_int) (pe_callB call_len_seq (by rfl) T.z_len PySem.boot_len (pa_cons (pe_slice sl_list (pv 0) po_none (po_some pe_int)) pa_nil))) pps_nil)) rfl rfl (by decide) (by decide)))
      (pss_cons (ps_for PassesOwn.never rfl (pi_list (pe_slice sl_list (pv 0) po_none (po_some pe_int))) (pg_name (i := 2) nd rfl (Or.inl rfl))
        (pss_cons (ps_if (pt_cmpR op_ge (pe_callB call_abs (by rfl) T.z_abs (by rfl) (pa_cons (pv 2) pa_nil)) (pe_op op_pow pe_int pe_int) (nomark _))
            (pss_one (ps_dput hu (pv 1) pe_str (pe_op op_cat (pe_lst (pa_cons (pe_callB call_abs (by rfl) T.z_abs (by rfl) (pa_cons (pv 2) pa_nil)) pa_nil)) (pe_dget hu (pv 1) pe_str (nosl_of _))) rfl)) pss_nil)
          (pss_cons (ps_set (i := 3) nd rfl (Or.inl rfl) (pe_op op_add (pe_op op_mulA pe_int (pe_callB call_abs (by rfl) T.z_abs (by rfl) (pa_cons (pv 2) pa_nil))) (pe_callTy call_int1 (by rfl) T.z_int (by rfl) (pa_cons (pe_cmpR op_lt (pv 2) pe_int (nomark _)) pa_nil))))
            (pss_one (ps_dput hu (pv 1) pe_str (pe_op op_mod (pe_callTy call_int1 (by rfl) T.z_int (by rfl) (pa_cons (pe_op op_add (pe_op op_mulA (pe_op op_add (pe_op op_add (pe_dget hu (pv 1) pe_str (nosl_of _)) (pv 3)) pe_int) pe_int) pe_int) pa_nil)) pe_int) rfl)))))
        (pss_one (ps_ret (pv 1)))), ?_⟩
    have gd : ∀ {G : Hp} {p l : Addr} {st : Int}, G p = some (.dK (kdA l st)) → DGet G p (.str "deep") (some (.ref l)) := fun {G p l st} e => by
      have z := DGet.k (k := .inr "deep") e
      rw [kdA_deep] at z
      exact z
    have gs : ∀ {G : Hp} {p l : Addr} {st : Int}, G p = some (.dK (kdA l st)) → DGet G p (.str "state") (some (.int st)) := fun {G p l st} e => by
      have z := DGet.k (k := .inr "state") e
      rw [kdA_state] at z
      exact z
    intro p hp
    refine ⟨Nat.zero_le _, fun l hl => ?_⟩
    have npl : p ≠ l := fun z => by rw [← z, upd_same] at hl; cases hl
    have hl0 : H l = none := upd_none hl
    have k0 : ∀ b o, H b = some o → upd (upd H p (.dK [])) l (.lst []) b = some o := fun b o e => by rw [upd_ne (ne_of_none e hl0), upd_ne (ne_of_none e hp)]; exact e
    have p0 : upd (upd H p (.dK [])) l (.lst []) p = some (.dK []) := by rw [upd_ne npl, upd_same]
    have l0 : upd (upd H p (.dK [])) l (.lst []) l = some (.lst []) := upd_same
    have t0 : ∀ b, upd (upd H p (.dK [])) l (.lst []) b = none → H b = none := fun b e => upd_none (upd_none e)
    generalize upd (upd H p (.dK [])) l (.lst []) = H1 at k0 p0 l0 t0
    have hS1 : SqL K H1 a (ns.map V.int) := by
      rcases hS with (z | ⟨o, z⟩) | z
      · exact .inl (.inl (k0 _ _ z))
      · exact .inl (.inr ⟨o, k0 _ _ z⟩)
      · exact .inr z
    refine ⟨_, _, rfl, rfl, _, rfl, _, rfl, a, _, rfl, hS1, fun q1 hq1 => ⟨q1, _, rfl, .inl (SqL.of upd_same), _, _, rfl, rfl, ?_⟩⟩
    have nlq : l ≠ q1 := fun z => by rw [← z, l0] at hq1; cases hq1
    have npq : p ≠ q1 := fun z => by rw [← z, p0] at hq1; cases hq1
    refine ⟨by rw [upd_ne npq]; exact p0, kdA l _, rfl, (by show 2 ≤ 15; decide), ?_⟩
    rw [mergeA]
    generalize hst : (271828183 + 105754 + ((cutV (ns.map V.int) none (some 63)).length : Int)) = st
    have k1 : ∀ b o, H b = some o → upd (upd H1 q1 (.lst (cutV (ns.map V.int) none (some 63)))) p (.dK (kdA l st)) b = some o := fun b o e => by
      rw [upd_ne (ne_of_none e hp), upd_ne (ne_of_none (k0 _ _ e) hq1)]; exact k0 _ _ e
    have t1 : ∀ b, upd (upd H1 q1 (.lst (cutV (ns.map V.int) none (some 63)))) p (.dK (kdA l st)) b = none → H b = none := fun b e => t0 b (upd_none (upd_none e))
    have p1 : upd (upd H1 q1 (.lst (cutV (ns.map V.int) none (some 63)))) p (.dK (kdA l st)) p = some (.dK (kdA l st)) := upd_same
    have l1 : upd (upd H1 q1 (.lst (cutV (ns.map V.int) none (some 63)))) p (.dK (kdA l st)) l = some (.lst []) := by rw [upd_ne npl.symm, upd_ne nlq]; exact l0
    have seqs : ∀ G : Hp, (∀ b o, H b = some o → G b = some o) → SqL K G a (ns.map V.int) := fun G k => by
      rcases hS with (z | ⟨o, z⟩) | z
      · exact .inl (.inl (k _ _ z))
      · exact .inl (.inr ⟨o, k _ _ z⟩)
      · exact .inr z
    generalize upd (upd H1 q1 (.lst (cutV (ns.map V.int) none (some 63)))) p (.dK (kdA l st)) = H2 at k1 t1 p1 l1
    refine ⟨_, rfl, _, rfl, a, _, rfl, seqs H2 k1, fun q2 hq2 => ?_⟩
    have nlq2 : l ≠ q2 := fun z => by rw [← z, l1] at hq2; cases hq2
    have npq2 : p ≠ q2 := fun z => by rw [← z, p1] at hq2; cases hq2
    have q2H : H q2 = none := t1 q2 hq2
    have cl : (cutV (ns.map V.int) none (some 63)).length ≤ 63 := Nat.le_trans (cutV_length _ _ _) (by rw [List.length_map]; exact hlen)
    have ci : ∀ (i : Nat) (y : V), (cutV (ns.map V.int) none (some 63))[i]? = some y → ∃ u, y = V.int u := fun i y e => by
      have z := List.mem_of_getElem? e
      unfold cutV at z
      obtain ⟨u, _, e2⟩ := List.mem_map.mp (List.mem_of_mem_drop (List.mem_of_mem_take z))
      exact ⟨u, e2.symm⟩
    generalize cutV (ns.map V.int) none (some 63) = xs at cl ci
    refine ⟨q2, rfl, ⟨_, SqL.of upd_same⟩, for_list (K := K) (a := q2) (xs := xs) (fun i σ G => ∃ (l' : Addr) (st' : Int) (ds : List Int) (c d : Option V), σ = [some (.ref a), some (.ref p), c, d] ∧ p ≠ l' ∧ l' ≠ q2 ∧ G p = some (.dK (kdA l' st')) ∧ G l' = some (.lst (ds.map V.int)) ∧ ds.length ≤ i ∧ (∀ b o, H b = some o → G b = some o) ∧ H l' = none ∧ G q2 = some (.lst xs) ∧ ∀ b, G b = none → H b = none)
      ⟨l, st, [], _, _, rfl, npl, nlq2, by rw [upd_ne npq2]; exact p1, by rw [upd_ne nlq2]; exact l1, Nat.le_refl _, fun b o e => by rw [upd_ne (ne_of_none e q2H)]; exact k1 _ _ e, hl0, upd_same, fun b e => t1 b (upd_none e)⟩ (fun i σ G _ ⟨_, _, _, _, _, _, _, _, _, _, _, _, _, z, _⟩ => SqL.of z) ?_ ?_⟩
    · rintro i y σ G hi ⟨l', st', ds, c, d, rfl, n1, n2, g1, g2, g3, g4, g5, g6, g7⟩
      obtain ⟨u, rfl⟩ := ci i y hi
      have hi63 : i < 63 := Nat.lt_of_lt_of_le (List.getElem?_eq_some_iff.mp hi).1 cl
      refine ⟨_, rfl, _, rfl, _, _, rfl, rfl, ⟨by decide, by decide, by decide⟩, _, _, rfl, rfl, _, rfl, ?_⟩
      refine ite2 (fun cc => ?_) (fun cc => ?_)
      · refine ⟨_, rfl, _, rfl, (by show 1 ≤ sizeLine; decide), fun q3 hq3 => ?_⟩
        have n3 : p ≠ q3 := ne_of_none g1 hq3
        have n4 : l' ≠ q3 := ne_of_none g2 hq3
        have n5 : q2 ≠ q3 := ne_of_none g6 hq3
        have hq3' : H q3 = none := g7 _ hq3
        refine ⟨_, rfl, p, _, rfl, gd (l := l') (st := st') (by rw [upd_ne n3]; exact g1), q3, l', _, _, rfl, rfl, upd_same, by rw [upd_ne n4]; exact g2, (by simp only [List.length_singleton, List.length_map]; exact Nat.le_trans (show 1 + ds.length ≤ 64 by omega) (by decide)), fun q4 hq4 => ?_⟩
        have m1 : p ≠ q4 := fun z => by rw [← z, upd_ne n3, g1] at hq4; cases hq4
        have m2 : q2 ≠ q4 := fun z => by rw [← z, upd_ne n5, g6] at hq4; cases hq4
        have hq4' : H q4 = none := g7 _ (upd_none hq4)
        refine ⟨_, rfl, p, _, rfl, DPut.k (k := .inr "deep") (kvs := kdA l' st') (by rw [upd_ne m1, upd_ne n3]; exact g1) (by show 2 < sizeLine; decide), ?_⟩
        rw [kdA_putD]
        obtain ⟨e1, e2⟩ : ∃ du : Int, (V.int (if u < 0 then -u else u) :: ds.map V.int) = ((du :: ds).map V.int) ∧ True := ⟨_, rfl, trivial⟩
        have g1n : upd (upd (upd G q3 (.lst [.int (if u < 0 then -u else u)])) q4 (.lst ([.int (if u < 0 then -u else u)] ++ ds.map V.int))) p (.dK (kdA q4 st')) p = some (.dK (kdA q4 st')) := upd_same
        have g2n : upd (upd (upd G q3 (.lst [.int (if u < 0 then -u else u)])) q4 (.lst ([.int (if u < 0 then -u else u)] ++ ds.map V.int))) p (.dK (kdA q4 st')) q4 = some (.lst (((if u < 0 then -u else u) :: ds).map V.int)) := by rw [upd_ne m1.symm, upd_same]; rfl
        have g4n : ∀ b o, H b = some o → upd (upd (upd G q3 (.lst [.int (if u < 0 then -u else u)])) q4 (.lst ([.int (if u < 0 then -u else u)] ++ ds.map V.int))) p (.dK (kdA q4 st')) b = some o := fun b o e => by
          rw [upd_ne (ne_of_none e hp), upd_ne (ne_of_none e hq4'), upd_ne (ne_of_none e hq3')]; exact g4 _ _ e
        have g6n : upd (upd (upd G q3 (.lst [.int (if u < 0 then -u else u)])) q4 (.lst ([.int (if u < 0 then -u else u)] ++ ds.map V.int))) p (.dK (kdA q4 st')) q2 = some (.lst xs) := by rw [upd_ne npq2.symm, upd_ne m2, upd_ne n5]; exact g6
        have g7n : ∀ b, upd (upd (upd G q3 (.lst [.int (if u < 0 then -u else u)])) q4 (.lst ([.int (if u < 0 then -u else u)] ++ ds.map V.int))) p (.dK (kdA q4 st')) b = none → H b = none := fun b e => g7 b (upd_none (upd_none (upd_none e)))
        clear g1 g2 g4 g6 g7 n1 n2 g5 hq3 hq4 n4 e1 e2
        generalize upd (upd (upd G q3 (.lst [.int (if u < 0 then -u else u)])) q4 (.lst ([.int (if u < 0 then -u else u)] ++ ds.map V.int))) p (.dK (kdA q4 st')) = G at g1n g2n g4n g6n g7n
        have g1 := g1n; have g2 := g2n; have g4 := g4n; have g6 := g6n; have g7 := g7n; have g5 := hq4'
        have n1 := m1; have n2 : q4 ≠ q2 := m2.symm
        have g3' : ((if u < 0 then -u else u) :: ds).length ≤ i + 1 := by rw [List.length_cons]; omega
        generalize ((if u < 0 then -u else u) :: ds) = ds at g2 g3'
        have g3 := g3'
        refine ⟨_, rfl, _, rfl, _, _, rfl, rfl, mul_l (by decide), _, rfl, _, _, rfl, rfl, .inr ⟨_, rfl, _, _, rfl, rfl, ?_⟩⟩
        refine ⟨_, rfl, p, _, rfl, gs g1, _, rfl, _, _, rfl, rfl, _, _, rfl, rfl, _, _, rfl, rfl, mul_r (by decide), _, _, rfl, rfl, .inl ⟨_, rfl, _, _, rfl, rfl, (show (0 : Int) < 2305843009213693951 by decide), _, rfl, p, _, rfl, DPut.k (k := .inr "state") g1 (by show 2 < sizeLine; decide), ?_⟩⟩
        rw [kdA_put]
        exact ⟨q4, _, ds, _, _, rfl, n1, n2, upd_same, by rw [upd_ne n1.symm]; exact g2, by omega, fun b o e => by rw [upd_ne (ne_of_none e hp)]; exact g4 _ _ e, g5, by rw [upd_ne npq2.symm]; exact g6, fun b e => g7 b (upd_none e)⟩
      · have g3' : ds.length ≤ i + 1 := by omega
        show _
        refine ⟨_, rfl, _, rfl, _, _, rfl, rfl, mul_l (by decide), _, rfl, _, _, rfl, rfl, .inr ⟨_, rfl, _, _, rfl, rfl, ?_⟩⟩
        refine ⟨_, rfl, p, _, rfl, gs g1, _, rfl, _, _, rfl, rfl, _, _, rfl, rfl, _, _, rfl, rfl, mul_r (by decide), _, _, rfl, rfl, .inl ⟨_, rfl, _, _, rfl, rfl, (show (0 : Int) < 2305843009213693951 by decide), _, rfl, p, _, rfl, DPut.k (k := .inr "state") g1 (by show 2 < sizeLine; decide), ?_⟩⟩
        rw [kdA_put]
        exact ⟨l', _, ds, _, _, rfl, n1, n2, upd_same, by rw [upd_ne n1.symm]; exact g2, by omega, fun b o e => by rw [upd_ne (ne_of_none e hp)]; exact g4 _ _ e, g5, by rw [upd_ne npq2.symm]; exact g6, fun b e => g7 b (upd_none e)⟩
    · rintro σ G ⟨l', st', ds, c, d, rfl, n1, n2, g1, g2, g3, g4, g5, g6, g7⟩
      exact ⟨_, rfl, h p l' G g4 hp g5 ⟨l', st', ds, rfl, n1, g1, g2, by omega⟩ g7⟩

end K35

namespace K35
open PySem L2 DL PyProof.Rows
theorem m_is_integer : MonoK C_is_integer := fun as k k' hk ⟨d, e, h⟩ => ⟨d, e, hk _ h⟩
theorem m_is_number : MonoK C_is_number := fun as k k' hk ⟨d, e, h⟩ => ⟨d, e, hk _ h⟩
theorem m_is_span : MonoK C_is_span := fun as k k' hk ⟨d, e, h⟩ => ⟨d, e, hk _ h⟩
theorem m_is_held : MonoK C_is_held := fun as k k' hk ⟨a, d, e, o, h⟩ => ⟨a, d, e, o, hk _ h⟩
theorem m_is_ahead : MonoK C_is_ahead := fun as k k' hk ⟨a, d, e, h⟩ => ⟨a, d, e, hk _ h⟩
theorem m_is_step : MonoK C_is_step := fun as k k' hk ⟨a, d, e, t, h⟩ => ⟨a, d, e, t, hk _ h⟩
theorem m_spans_of : MonoK C_spans_of := fun as k k' hk ⟨a, e, b, c, h⟩ => ⟨a, e, b, c, hk _ h⟩
theorem m_program_error : MonoK C_program_error := fun as k k' hk ⟨d, e, o, h⟩ => ⟨d, e, o, hk _ h⟩
theorem m_inputs_error : MonoK C_inputs_error := fun as k k' hk ⟨a, d, e, b, c, h⟩ => ⟨a, d, e, b, c, hk _ h⟩
theorem m__law_draw : MonoK C__law_draw := fun as k k' hk ⟨m, e, b, h⟩ => ⟨m, e, b, fun r h1 h2 => hk _ (h r h1 h2)⟩
theorem m__law_pick : MonoK C__law_pick := fun as k k' hk ⟨m, e, b, h⟩ => ⟨m, e, b, fun r h1 => hk _ (h r h1)⟩
theorem m__law_span : MonoK C__law_span := fun as k k' hk ⟨a, m, e, b, h⟩ => ⟨a, m, e, b, fun x y z a b c d e => hk _ (h x y z a b c d e)⟩
theorem m__law_program : MonoK C__law_program := fun as k k' hk ⟨a, m, e, b, c, h⟩ => ⟨a, m, e, b, c, fun x a b => hk _ (h x a b)⟩
theorem m__law_spans_of : MonoK C__law_spans_of := fun as k k' hk ⟨a, e, b, c, h⟩ => ⟨a, e, b, c, hk _ h⟩
theorem m__law_great : MonoK C__law_great := fun as k k' hk ⟨e, h⟩ => ⟨e, fun x a b => hk _ (h x a b)⟩
theorem m__law_some : MonoK C__law_some := fun as k k' hk ⟨a, e, b, h⟩ => ⟨a, e, b, fun x a b => hk _ (h x a b)⟩
theorem m__law_is_whole : MonoK C__law_is_whole := fun as k k' hk ⟨a, b, c, e, h⟩ => ⟨a, b, c, e, hk _ h⟩
theorem m__law_is_span : MonoK C__law_is_span := fun as k k' hk ⟨a, e, l, h⟩ => ⟨a, e, l, hk _ h⟩
theorem m__law_is_step : MonoK C__law_is_step := fun as k k' hk ⟨a, d, e, t, l, h⟩ => ⟨a, d, e, t, l, hk _ h⟩
theorem m__law_program_error : MonoK C__law_program_error := fun as k k' hk ⟨d, e, o, h⟩ => ⟨d, e, o, hk _ h⟩
theorem m__law_inputs_error : MonoK C__law_inputs_error := fun as k k' hk ⟨a, d, e, b, c, h⟩ => ⟨a, d, e, b, c, hk _ h⟩
theorem m__law_odd_step : MonoK C__law_odd_step := fun as k k' hk ⟨a, e, b, h⟩ => ⟨a, e, b, fun x a => hk _ (h x a)⟩
theorem m__law_odd_inputs : MonoK C__law_odd_inputs := fun as k k' hk ⟨a, e, b, h⟩ => ⟨a, e, b, fun x a b c => hk _ (h x a b c)⟩
theorem m__law_is_judged : MonoK C__law_is_judged := fun as k k' hk ⟨a, d, e, t, h⟩ => ⟨a, d, e, t, hk _ h⟩
theorem ok_is_integer {P : Program} {w : World} {K : PySem.W.Frag} {mg : Str → Option Value} {base : Heap} {f : Addr} {fd : FuncData} (F : Fun K "is_integer" "is_integer" s_is_integer f fd) (T : Txt K mg) : FnG P w K mg base CX0 1 f fd ["value"] (spOf (ZA K) C_is_integer) :=
  def_ok F sc_is_integer rfl p_is_integer fun cdv A outer s H E hr hG => tr_is_integer rfl T f cdv A outer s H E hr hG
theorem ok_is_number {P : Program} {w : World} {K : PySem.W.Frag} {mg : Str → Option Value} {base : Heap} {f : Addr} {fd : FuncData} (F : Fun K "is_number" "is_number" s_is_number f fd) (T : Txt K mg) (c_is_integer : CalG P w K mg base (ZA K) 1 "is_integer" ["value"] C_is_integer) : FnG P w K mg base CX0 2 f fd ["value"] (spOf (ZA K) C_is_number) :=
  def_ok F sc_is_number rfl p_is_number fun cdv A outer s H E hr hG => tr_is_number rfl T c_is_integer f cdv A outer s H E hr hG
theorem ok_is_span {P : Program} {w : World} {K : PySem.W.Frag} {mg : Str → Option Value} {base : Heap} {f : Addr} {fd : FuncData} (F : Fun K "is_span" "is_span" s_is_span f fd) (T : Txt K mg) (c_is_number : CalG P w K mg base (ZA K) 2 "is_number" ["value"] C_is_number) (c_is_integer : CalG P w K mg base (ZA K) 1 "is_integer" ["value"] C_is_integer) : FnG P w K mg base CX0 3 f fd ["value"] (spOf (ZA K) C_is_span) :=
  def_ok F sc_is_span rfl p_is_span fun cdv A outer s H E hr hG => tr_is_span rfl T c_is_number c_is_integer f cdv A outer s H E hr hG
theorem ok_is_held {P : Program} {w : World} {K : PySem.W.Frag} {mg : Str → Option Value} {base : Heap} {f : Addr} {fd : FuncData} (F : Fun K "is_held" "is_held" s_is_held f fd) (T : Txt K mg) (c_is_integer : CalG P w K mg base (ZA K) 1 "is_integer" ["value"] C_is_integer) : FnG P w K mg base CX0 2 f fd ["span", "value"] (spOf (ZA K) C_is_held) :=
  def_ok F sc_is_held rfl p_is_held fun cdv A outer s H E hr hG => tr_is_held rfl T c_is_integer f cdv A outer s H E hr hG
theorem ok_is_ahead {P : Program} {w : World} {K : PySem.W.Frag} {mg : Str → Option Value} {base : Heap} {f : Addr} {fd : FuncData} (F : Fun K "is_ahead" "is_ahead" s_is_ahead f fd) (T : Txt K mg) (c_is_integer : CalG P w K mg base (ZA K) 1 "is_integer" ["value"] C_is_integer) : FnG P w K mg base CX0 2 f fd ["value", "place"] (spOf (ZA K) C_is_ahead) :=
  def_ok F sc_is_ahead rfl p_is_ahead fun cdv A outer s H E hr hG => tr_is_ahead rfl T c_is_integer f cdv A outer s H E hr hG
theorem ok_is_step {P : Program} {w : World} {K : PySem.W.Frag} {mg : Str → Option Value} {base : Heap} {f : Addr} {fd : FuncData} (F : Fun K "is_step" "is_step" s_is_step f fd) (T : Txt K mg) (c_is_span : CalG P w K mg base (ZA K) 3 "is_span" ["value"] C_is_span) (c_is_number : CalG P w K mg base (ZA K) 2 "is_number" ["value"] C_is_number) (c_is_ahead : CalG P w K mg base (ZA K) 2 "is_ahead" ["value", "place"] C_is_ahead) (c_is_integer : CalG P w K mg base (ZA K) 1 "is_integer" ["value"] C_is_integer) : FnG P w K mg base CX0 4 f fd ["value", "place"] (spOf (ZA K) C_is_step) :=
  def_ok F sc_is_step rfl p_is_step fun cdv A outer s H E hr hG => tr_is_step rfl T c_is_span c_is_number c_is_ahead c_is_integer f cdv A outer s H E hr hG
theorem ok_spans_of {P : Program} {w : World} {K : PySem.W.Frag} {mg : Str → Option Value} {base : Heap} {f : Addr} {fd : FuncData} (F : Fun K "spans_of" "spans_of" s_spans_of f fd) (T : Txt K mg) : FnG P w K mg base CX0 1 f fd ["program"] (spOf (ZA K) C_spans_of) :=
  def_ok F sc_spans_of rfl p_spans_of fun cdv A outer s H E hr hG => tr_spans_of rfl T f cdv A outer s H E hr hG
theorem ok_program_error {P : Program} {w : World} {K : PySem.W.Frag} {mg : Str → Option Value} {base : Heap} {f : Addr} {fd : FuncData} (F : Fun K "program_error" "program_error" s_program_error f fd) (T : Txt K mg) (c_is_step : CalG P w K mg base (ZA K) 4 "is_step" ["value", "place"] C_is_step) (c_spans_of : CalG P w K mg base (ZA K) 1 "spans_of" ["program"] C_spans_of) : FnG P w K mg base CX0 5 f fd ["value"] (spOf (ZA K) C_program_error) :=
  def_ok F sc_program_error rfl p_program_error fun cdv A outer s H E hr hG => tr_program_error rfl T c_is_step c_spans_of f cdv A outer s H E hr hG
theorem ok_inputs_error {P : Program} {w : World} {K : PySem.W.Frag} {mg : Str → Option Value} {base : Heap} {f : Addr} {fd : FuncData} (F : Fun K "inputs_error" "inputs_error" s_inputs_error f fd) (T : Txt K mg) (c_spans_of : CalG P w K mg base (ZA K) 1 "spans_of" ["program"] C_spans_of) (c_is_held : CalG P w K mg base (ZA K) 2 "is_held" ["span", "value"] C_is_held) : FnG P w K mg base CX0 3 f fd ["program", "value"] (spOf (ZA K) C_inputs_error) :=
  def_ok F sc_inputs_error rfl p_inputs_error fun cdv A outer s H E hr hG => tr_inputs_error rfl T c_spans_of c_is_held f cdv A outer s H E hr hG
theorem ok__law_pick {P : Program} {w : World} {K : PySem.W.Frag} {mg : Str → Option Value} {base : Heap} {f : Addr} {fd : FuncData} (F : Fun K "_law_pick" "_law_pick" s__law_pick f fd) (T : Txt K mg) (c__law_draw : CalG P w K mg base (ZA K) 1 "_law_draw" ["deck", "many"] C__law_draw) : FnG P w K mg base CX0 2 f fd ["deck", "row"] (spOf (ZA K) C__law_pick) :=
  def_ok F sc__law_pick rfl p__law_pick fun cdv A outer s H E hr hG => tr__law_pick rfl T c__law_draw f cdv A outer s H E hr hG
theorem ok__law_span {P : Program} {w : World} {K : PySem.W.Frag} {mg : Str → Option Value} {base : Heap} {f : Addr} {fd : FuncData} (F : Fun K "_law_span" "_law_span" s__law_span f fd) (T : Txt K mg) (c__law_pick : CalG P w K mg base (ZA K) 2 "_law_pick" ["deck", "row"] C__law_pick) (c__law_draw : CalG P w K mg base (ZA K) 1 "_law_draw" ["deck", "many"] C__law_draw) : FnG P w K mg base CX0 3 f fd ["deck", "most", "many"] (spOf (ZA K) C__law_span) :=
  def_ok F sc__law_span rfl p__law_span fun cdv A outer s H E hr hG => tr__law_span rfl T c__law_pick c__law_draw f cdv A outer s H E hr hG
theorem ok__law_program {P : Program} {w : World} {K : PySem.W.Frag} {mg : Str → Option Value} {base : Heap} {f : Addr} {fd : FuncData} (F : Fun K "_law_program" "_law_program" s__law_program f fd) (T : Txt K mg) (c__law_pick : CalG P w K mg base (ZA K) 2 "_law_pick" ["deck", "row"] C__law_pick) (c__law_span : CalG P w K mg base (ZA K) 3 "_law_span" ["deck", "most", "many"] C__law_span) (c__law_draw : CalG P w K mg base (ZA K) 1 "_law_draw" ["deck", "many"] C__law_draw) : FnG P w K mg base CX0 4 f fd ["deck", "many", "most", "factors"] (spOf (ZA K) C__law_program) :=
  def_ok F sc__law_program rfl p__law_program fun cdv A outer s H E hr hG => tr__law_program rfl T c__law_pick c__law_span c__law_draw f cdv A outer s H E hr hG
theorem ok__law_spans_of {P : Program} {w : World} {K : PySem.W.Frag} {mg : Str → Option Value} {base : Heap} {f : Addr} {fd : FuncData} (F : Fun K "_law_spans_of" "_law_spans_of" s__law_spans_of f fd) (T : Txt K mg) : FnG P w K mg base CX0 1 f fd ["program"] (spOf (ZA K) C__law_spans_of) :=
  def_ok F sc__law_spans_of rfl p__law_spans_of fun cdv A outer s H E hr hG => tr__law_spans_of rfl T f cdv A outer s H E hr hG
theorem ok__law_great {P : Program} {w : World} {K : PySem.W.Frag} {mg : Str → Option Value} {base : Heap} {f : Addr} {fd : FuncData} (F : Fun K "_law_great" "_law_great" s__law_great f fd) (T : Txt K mg) (c__law_pick : CalG P w K mg base (ZA K) 2 "_law_pick" ["deck", "row"] C__law_pick) (c__law_draw : CalG P w K mg base (ZA K) 1 "_law_draw" ["deck", "many"] C__law_draw) : FnG P w K mg base CX0 3 f fd ["deck", "many", "kept"] (spOf (ZA K) C__law_great) :=
  def_ok F sc__law_great rfl p__law_great fun cdv A outer s H E hr hG => tr__law_great rfl T c__law_pick c__law_draw f cdv A outer s H E hr hG
theorem ok__law_some {P : Program} {w : World} {K : PySem.W.Frag} {mg : Str → Option Value} {base : Heap} {f : Addr} {fd : FuncData} (F : Fun K "_law_some" "_law_some" s__law_some f fd) (T : Txt K mg) (c__law_pick : CalG P w K mg base (ZA K) 2 "_law_pick" ["deck", "row"] C__law_pick) : FnG P w K mg base CX0 3 f fd ["deck", "spans"] (spOf (ZA K) C__law_some) :=
  def_ok F sc__law_some rfl p__law_some fun cdv A outer s H E hr hG => tr__law_some rfl T c__law_pick f cdv A outer s H E hr hG
theorem ok__law_is_whole {P : Program} {w : World} {K : PySem.W.Frag} {mg : Str → Option Value} {base : Heap} {f : Addr} {fd : FuncData} (F : Fun K "_law_is_whole" "_law_is_whole" s__law_is_whole f fd) (T : Txt K mg) : FnG P w K mg base CX0 1 f fd ["thing", "low", "high"] (spOf (ZA K) C__law_is_whole) :=
  def_ok F sc__law_is_whole rfl p__law_is_whole fun cdv A outer s H E hr hG => tr__law_is_whole rfl T f cdv A outer s H E hr hG
theorem ok__law_is_span {P : Program} {w : World} {K : PySem.W.Frag} {mg : Str → Option Value} {base : Heap} {f : Addr} {fd : FuncData} (F : Fun K "_law_is_span" "_law_is_span" s__law_is_span f fd) (T : Txt K mg) (c__law_is_whole : CalG P w K mg base (ZA K) 1 "_law_is_whole" ["thing", "low", "high"] C__law_is_whole) : FnG P w K mg base CX0 2 f fd ["thing"] (spOf (ZA K) C__law_is_span) :=
  def_ok F sc__law_is_span rfl p__law_is_span fun cdv A outer s H E hr hG => tr__law_is_span rfl T c__law_is_whole f cdv A outer s H E hr hG
theorem ok__law_is_step {P : Program} {w : World} {K : PySem.W.Frag} {mg : Str → Option Value} {base : Heap} {f : Addr} {fd : FuncData} (F : Fun K "_law_is_step" "_law_is_step" s__law_is_step f fd) (T : Txt K mg) (c__law_is_span : CalG P w K mg base (ZA K) 2 "_law_is_span" ["thing"] C__law_is_span) (c__law_is_whole : CalG P w K mg base (ZA K) 1 "_law_is_whole" ["thing", "low", "high"] C__law_is_whole) : FnG P w K mg base CX0 3 f fd ["place", "thing"] (spOf (ZA K) C__law_is_step) :=
  def_ok F sc__law_is_step rfl p__law_is_step fun cdv A outer s H E hr hG => tr__law_is_step rfl T c__law_is_span c__law_is_whole f cdv A outer s H E hr hG
theorem ok__law_program_error {P : Program} {w : World} {K : PySem.W.Frag} {mg : Str → Option Value} {base : Heap} {f : Addr} {fd : FuncData} (F : Fun K "_law_program_error" "_law_program_error" s__law_program_error f fd) (T : Txt K mg) (c__law_is_step : CalG P w K mg base (ZA K) 3 "_law_is_step" ["place", "thing"] C__law_is_step) : FnG P w K mg base CX0 4 f fd ["thing"] (spOf (ZA K) C__law_program_error) :=
  def_ok F sc__law_program_error rfl p__law_program_error fun cdv A outer s H E hr hG => tr__law_program_error rfl T c__law_is_step f cdv A outer s H E hr hG
theorem ok__law_inputs_error {P : Program} {w : World} {K : PySem.W.Frag} {mg : Str → Option Value} {base : Heap} {f : Addr} {fd : FuncData} (F : Fun K "_law_inputs_error" "_law_inputs_error" s__law_inputs_error f fd) (T : Txt K mg) (c__law_spans_of : CalG P w K mg base (ZA K) 1 "_law_spans_of" ["program"] C__law_spans_of) (c__law_is_whole : CalG P w K mg base (ZA K) 1 "_law_is_whole" ["thing", "low", "high"] C__law_is_whole) : FnG P w K mg base CX0 2 f fd ["program", "thing"] (spOf (ZA K) C__law_inputs_error) :=
  def_ok F sc__law_inputs_error rfl p__law_inputs_error fun cdv A outer s H E hr hG => tr__law_inputs_error rfl T c__law_spans_of c__law_is_whole f cdv A outer s H E hr hG
theorem ok__law_odd_step {P : Program} {w : World} {K : PySem.W.Frag} {mg : Str → Option Value} {base : Heap} {f : Addr} {fd : FuncData} (F : Fun K "_law_odd_step" "_law_odd_step" s__law_odd_step f fd) (T : Txt K mg) (c__law_pick : CalG P w K mg base (ZA K) 2 "_law_pick" ["deck", "row"] C__law_pick) : FnG P w K mg base CX0 3 f fd ["deck", "place"] (spOf (ZA K) C__law_odd_step) :=
  def_ok F sc__law_odd_step rfl p__law_odd_step fun cdv A outer s H E hr hG => tr__law_odd_step rfl T c__law_pick f cdv A outer s H E hr hG
theorem ok__law_odd_inputs {P : Program} {w : World} {K : PySem.W.Frag} {mg : Str → Option Value} {base : Heap} {f : Addr} {fd : FuncData} (F : Fun K "_law_odd_inputs" "_law_odd_inputs" s__law_odd_inputs f fd) (T : Txt K mg) (c__law_spans_of : CalG P w K mg base (ZA K) 1 "_law_spans_of" ["program"] C__law_spans_of) (c__law_some : CalG P w K mg base (ZA K) 3 "_law_some" ["deck", "spans"] C__law_some) (c__law_draw : CalG P w K mg base (ZA K) 1 "_law_draw" ["deck", "many"] C__law_draw) (c__law_pick : CalG P w K mg base (ZA K) 2 "_law_pick" ["deck", "row"] C__law_pick) : FnG P w K mg base CX0 4 f fd ["deck", "program"] (spOf (ZA K) C__law_odd_inputs) :=
  def_ok F sc__law_odd_inputs rfl p__law_odd_inputs fun cdv A outer s H E hr hG => tr__law_odd_inputs rfl T c__law_spans_of c__law_some c__law_draw c__law_pick f cdv A outer s H E hr hG
theorem ok__law_is_judged {P : Program} {w : World} {K : PySem.W.Frag} {mg : Str → Option Value} {base : Heap} {f : Addr} {fd : FuncData} (F : Fun K "_law_is_judged" "_law_is_judged" s__law_is_judged f fd) (T : Txt K mg) (c__law_program_error : CalG P w K mg base (ZA K) 4 "_law_program_error" ["thing"] C__law_program_error) (c_program_error : CalG P w K mg base (ZA K) 5 "program_error" ["value"] C_program_error) (c_program_error_k0 : CalK P w K mg base (ZA K) 5 "program_error" ["value"] ["value"] [0] C_program_error) : FnG P w K mg base CX0 6 f fd ["thing", "is_named"] (spOf (ZA K) C__law_is_judged) :=
  def_ok F sc__law_is_judged rfl p__law_is_judged fun cdv A outer s H E hr hG => tr__law_is_judged rfl T c__law_program_error c_program_error c_program_error_k0 f cdv A outer s H E hr hG
def spLawA (K : PySem.W.Frag) : Sp := fun vs H Q _ => ∃ (a : Addr) (ns : List Int) (φ : Heap → Prop), vs = [.ref a] ∧ SqL K H a (ns.map V.int) ∧ ns.length ≤ 63 ∧ H sysModules = some (.ext φ) ∧ ∀ H' : Hp, H' sysModules = H sysModules → Q (.bl true) H'
theorem ok_law {P : Program} {w : World} {K : PySem.W.Frag} {mg : Str → Option Value} {base : Heap} {f f1 : Addr} {fd fd1 : FuncData} (F : Fun K "law" "law" s_law f fd) (F1 : Fun K "_law_deck" "_law_deck" s__law_deck f1 fd1) (m1 : mg "_law_deck" = some (.ref f1)) (b1 : Binds K fd1 ["script"] []) (T : Txt K mg) (c__law_great : CalG P w K mg base (ZA K) 3 "_law_great" ["deck", "many", "kept"] C__law_great) (c__law_program : CalG P w K mg base (ZA K) 4 "_law_program" ["deck", "many", "most", "factors"] C__law_program) (c__law_draw : CalG P w K mg base (ZA K) 1 "_law_draw" ["deck", "many"] C__law_draw) (c__law_odd_step : CalG P w K mg base (ZA K) 3 "_law_odd_step" ["deck", "place"] C__law_odd_step) (c__law_odd_inputs : CalG P w K mg base (ZA K) 4 "_law_odd_inputs" ["deck", "program"] C__law_odd_inputs) (c__law_some : CalG P w K mg base (ZA K) 3 "_law_some" ["deck", "spans"] C__law_some) (c__law_spans_of : CalG P w K mg base (ZA K) 1 "_law_spans_of" ["program"] C__law_spans_of) (c__law_inputs_error : CalG P w K mg base (ZA K) 2 "_law_inputs_error" ["program", "thing"] C__law_inputs_error) (c_inputs_error : CalG P w K mg base (ZA K) 3 "inputs_error" ["program", "value"] C_inputs_error) (c_inputs_error_k10 : CalK P w K mg base (ZA K) 3 "inputs_error" ["program", "value"] ["value", "program"] [1, 0] C_inputs_error) (c__law_is_judged : CalG P w K mg base (ZA K) 6 "_law_is_judged" ["thing", "is_named"] C__law_is_judged) : FnG P w K mg base CX0 7 f fd ["script"] (spLawA K) := by
  have G1 : FnG P w K mg base CX0 1 f1 fd1 ["script"] (spDeckA K) := ok_deck F1 T
  refine fnG_of F sc_law (fun vs H Q E h => ?_) fun cdv A outer s H vs Q E hr hG h => ?_
  · obtain ⟨a, ns, φ, rfl, _⟩ := h
    rfl
  · obtain ⟨a, ns, φ, rfl, hS, hlen, hm, h⟩ := h
    have tr := tr_law (Z := ZA K) rfl T c__law_great c__law_program c__law_draw c__law_odd_step c__law_odd_inputs c__law_some c__law_spans_of c__law_inputs_error c_inputs_error c_inputs_error_k10 c__law_is_judged f cdv A outer s H E hr hG
    refine ⟨_, pss_cons (ps_set (i := 1) sc_law.nd rfl (Or.inl rfl) (pe_callG G1 (hr.mono (by decide)) hG m1 F1.kp b1 (pa_cons (pv 0) pa_nil))) tr.ps, ?_⟩
    refine ⟨_, rfl, a, ns, rfl, hS, hlen, fun p l H' keep hp hl hd trk => ?_⟩
    have np : p ≠ sysModules := fun z => by rw [z, hm] at hp; cases hp
    have nl : l ≠ sysModules := fun z => by rw [z, hm] at hl; cases hl
    have hm' : H' sysModules = some (.ext φ) := keep _ _ hm
    have R : Rel (ZA K) (some (p, [p, l])) ([some (.ref a), some (.ref p)] ++ List.replicate 13 none) H' (fun b => if b = sysModules then some (.ext φ) else none) ([.un, .dk] ++ List.replicate 13 .un) := law_rel hd np nl hm'
    refine ⟨some (p, [p, l]), _, _, R, tr.mono _ (En0 _) _ ⟨fun ρ1 k1 σ1 H1 B1 R1 S1 => ?_, fun r k1 => k1, fun _ z => False.elim z, fun _ z => False.elim z⟩ (law_run _ .un ?_)⟩
    · exact k1 .non σ1 ρ1 H1 B1 R1 S1 .non
    · intro v σ1 ρ1 H1 B1 R1 S1 q1
      have e : v = .bl true := DV.bool_inv q1
      rw [e]
      refine h H1 ?_
      rw [hm]
      exact R1.sub _ _ (S1.bb _ _ (if_pos rfl))
theorem all_mk {l : PySem.W.OpenLaw} {w : World} {K : PySem.W.Frag} {h : Heap} {mg : Str → Option Value} {fa f0 f1 f2 f3 f4 f5 f6 f7 f8 f9 f10 f11 f12 f13 f14 f15 f16 f17 f18 f19 f20 f21 f22 f23 f24 f25 xt_PAIRED : Addr} (X : K.In h) (G : h.Ns mainGlobals mg) (hfa : mg "law" = some (.ref fa))
    {od0 od1 od2 od3 od4 od5 od6 od7 od8 od9 od10 od11 od12 od13 od14 od15 od16 od17 od18 od19 od20 od21 od22 od23 od24 od25 an0 an1 an2 an3 an4 an5 an6 an7 an8 an9 an10 an11 an12 an13 an14 an15 an16 an17 an18 an19 an20 an21 an22 an23 an24 an25 xdt_PAIRED : Option Addr} {sl0 sl1 sl2 sl3 sl4 sl5 sl6 sl7 sl8 sl9 sl10 sl11 sl12 sl13 sl14 sl15 sl16 sl17 sl18 sl19 sl20 sl21 sl22 sl23 sl24 sl25 xst_PAIRED : Array (Option Value)} {oc0 kV0 dc0 pm0 cd0 ct0 oc1 kV1 dc1 pm1 cd1 ct1 oc2 kV2 dc2 pm2 cd2 ct2 oc3 kV3 dc3 pm3 cd3 ct3 oc4 kV4 dc4 pm4 cd4 ct4 oc5 kV5 dc5 pm5 cd5 ct5 oc6 kV6 dc6 pm6 cd6 ct6 oc7 kV7 dc7 pm7 cd7 ct7 oc8 kV8 dc8 pm8 cd8 ct8 oc9 kV9 dc9 pm9 cd9 ct9 oc10 kV10 dc10 pm10 cd10 ct10 oc11 kV11 dc11 pm11 cd11 ct11 oc12 kV12 dc12 pm12 cd12 ct12 oc13 kV13 dc13 pm13 cd13 ct13 oc14 kV14 dc14 pm14 cd14 ct14 oc15 kV15 dc15 pm15 cd15 ct15 oc16 kV16 dc16 pm16 cd16 ct16 oc17 kV17 dc17 pm17 cd17 ct17 oc18 kV18 dc18 pm18 cd18 ct18 oc19 kV19 dc19 pm19 cd19 ct19 oc20 kV20 dc20 pm20 cd20 ct20 oc21 kV21 dc21 pm21 cd21 ct21 oc22 kV22 dc22 pm22 cd22 ct22 oc23 kV23 dc23 pm23 cd23 ct23 oc24 kV24 dc24 pm24 cd24 ct24 oc25 kV25 dc25 pm25 cd25 ct25 : Value} {tg_MAX_NUMBER tg_MAX_STEP tg_MAX_STEPS tg_MAX_INPUTS tg_MAX_FACTOR : Tok} {xit_PAIRED : Array Value} {xnt_PAIRED : Nat}
    (a0 : PySem.W.nsIn K mainGlobals "is_integer" = some (some (.ref f0))) (l0 : K.lookup f0 = some ⟨oc0, od0, .func (PySem.W.fnOf "is_integer" "is_integer" (defArgs s_is_integer) (defBody s_is_integer) (defScope s_is_integer) .none kV0 dc0 pm0 an0 cd0 ct0), sl0⟩) (c0 : PySem.W.codeIn K cd0 "is_integer" = true) (k0 : PySem.W.keepIn K (.ref f0) = true)
    (a1 : PySem.W.nsIn K mainGlobals "is_number" = some (some (.ref f1))) (l1 : K.lookup f1 = some ⟨oc1, od1, .func (PySem.W.fnOf "is_number" "is_number" (defArgs s_is_number) (defBody s_is_number) (defScope s_is_number) .none kV1 dc1 pm1 an1 cd1 ct1), sl1⟩) (c1 : PySem.W.codeIn K cd1 "is_number" = true) (k1 : PySem.W.keepIn K (.ref f1) = true)
    (a2 : PySem.W.nsIn K mainGlobals "is_span" = some (some (.ref f2))) (l2 : K.lookup f2 = some ⟨oc2, od2, .func (PySem.W.fnOf "is_span" "is_span" (defArgs s_is_span) (defBody s_is_span) (defScope s_is_span) .none kV2 dc2 pm2 an2 cd2 ct2), sl2⟩) (c2 : PySem.W.codeIn K cd2 "is_span" = true) (k2 : PySem.W.keepIn K (.ref f2) = true)
    (a3 : PySem.W.nsIn K mainGlobals "is_held" = some (some (.ref f3))) (l3 : K.lookup f3 = some ⟨oc3, od3, .func (PySem.W.fnOf "is_held" "is_held" (defArgs s_is_held) (defBody s_is_held) (defScope s_is_held) .none kV3 dc3 pm3 an3 cd3 ct3), sl3⟩) (c3 : PySem.W.codeIn K cd3 "is_held" = true) (k3 : PySem.W.keepIn K (.ref f3) = true)
    (a4 : PySem.W.nsIn K mainGlobals "is_ahead" = some (some (.ref f4))) (l4 : K.lookup f4 = some ⟨oc4, od4, .func (PySem.W.fnOf "is_ahead" "is_ahead" (defArgs s_is_ahead) (defBody s_is_ahead) (defScope s_is_ahead) .none kV4 dc4 pm4 an4 cd4 ct4), sl4⟩) (c4 : PySem.W.codeIn K cd4 "is_ahead" = true) (k4 : PySem.W.keepIn K (.ref f4) = true)
    (a5 : PySem.W.nsIn K mainGlobals "is_step" = some (some (.ref f5))) (l5 : K.lookup f5 = some ⟨oc5, od5, .func (PySem.W.fnOf "is_step" "is_step" (defArgs s_is_step) (defBody s_is_step) (defScope s_is_step) .none kV5 dc5 pm5 an5 cd5 ct5), sl5⟩) (c5 : PySem.W.codeIn K cd5 "is_step" = true) (k5 : PySem.W.keepIn K (.ref f5) = true)
    (a6 : PySem.W.nsIn K mainGlobals "spans_of" = some (some (.ref f6))) (l6 : K.lookup f6 = some ⟨oc6, od6, .func (PySem.W.fnOf "spans_of" "spans_of" (defArgs s_spans_of) (defBody s_spans_of) (defScope s_spans_of) .none kV6 dc6 pm6 an6 cd6 ct6), sl6⟩) (c6 : PySem.W.codeIn K cd6 "spans_of" = true) (k6 : PySem.W.keepIn K (.ref f6) = true)
    (a7 : PySem.W.nsIn K mainGlobals "program_error" = some (some (.ref f7))) (l7 : K.lookup f7 = some ⟨oc7, od7, .func (PySem.W.fnOf "program_error" "program_error" (defArgs s_program_error) (defBody s_program_error) (defScope s_program_error) .none kV7 dc7 pm7 an7 cd7 ct7), sl7⟩) (c7 : PySem.W.codeIn K cd7 "program_error" = true) (k7 : PySem.W.keepIn K (.ref f7) = true)
    (a8 : PySem.W.nsIn K mainGlobals "inputs_error" = some (some (.ref f8))) (l8 : K.lookup f8 = some ⟨oc8, od8, .func (PySem.W.fnOf "inputs_error" "inputs_error" (defArgs s_inputs_error) (defBody s_inputs_error) (defScope s_inputs_error) .none kV8 dc8 pm8 an8 cd8 ct8), sl8⟩) (c8 : PySem.W.codeIn K cd8 "inputs_error" = true) (k8 : PySem.W.keepIn K (.ref f8) = true)
    (a9 : PySem.W.nsIn K mainGlobals "_law_deck" = some (some (.ref f9))) (l9 : K.lookup f9 = some ⟨oc9, od9, .func (PySem.W.fnOf "_law_deck" "_law_deck" (defArgs s__law_deck) (defBody s__law_deck) (defScope s__law_deck) .none kV9 dc9 pm9 an9 cd9 ct9), sl9⟩) (c9 : PySem.W.codeIn K cd9 "_law_deck" = true) (k9 : PySem.W.keepIn K (.ref f9) = true)
    (a10 : PySem.W.nsIn K mainGlobals "_law_draw" = some (some (.ref f10))) (l10 : K.lookup f10 = some ⟨oc10, od10, .func (PySem.W.fnOf "_law_draw" "_law_draw" (defArgs s__law_draw) (defBody s__law_draw) (defScope s__law_draw) .none kV10 dc10 pm10 an10 cd10 ct10), sl10⟩) (c10 : PySem.W.codeIn K cd10 "_law_draw" = true) (k10 : PySem.W.keepIn K (.ref f10) = true)
    (a11 : PySem.W.nsIn K mainGlobals "_law_pick" = some (some (.ref f11))) (l11 : K.lookup f11 = some ⟨oc11, od11, .func (PySem.W.fnOf "_law_pick" "_law_pick" (defArgs s__law_pick) (defBody s__law_pick) (defScope s__law_pick) .none kV11 dc11 pm11 an11 cd11 ct11), sl11⟩) (c11 : PySem.W.codeIn K cd11 "_law_pick" = true) (k11 : PySem.W.keepIn K (.ref f11) = true)
    (a12 : PySem.W.nsIn K mainGlobals "_law_span" = some (some (.ref f12))) (l12 : K.lookup f12 = some ⟨oc12, od12, .func (PySem.W.fnOf "_law_span" "_law_span" (defArgs s__law_span) (defBody s__law_span) (defScope s__law_span) .none kV12 dc12 pm12 an12 cd12 ct12), sl12⟩) (c12 : PySem.W.codeIn K cd12 "_law_span" = true) (k12 : PySem.W.keepIn K (.ref f12) = true)
    (a13 : PySem.W.nsIn K mainGlobals "_law_program" = some (some (.ref f13))) (l13 : K.lookup f13 = some ⟨oc13, od13, .func (PySem.W.fnOf "_law_program" "_law_program" (defArgs s__law_program) (defBody s__law_program) (defScope s__law_program) .none kV13 dc13 pm13 an13 cd13 ct13), sl13⟩) (c13 : PySem.W.codeIn K cd13 "_law_program" = true) (k13 : PySem.W.keepIn K (.ref f13) = true)
    (a14 : PySem.W.nsIn K mainGlobals "_law_spans_of" = some (some (.ref f14))) (l14 : K.lookup f14 = some ⟨oc14, od14, .func (PySem.W.fnOf "_law_spans_of" "_law_spans_of" (defArgs s__law_spans_of) (defBody s__law_spans_of) (defScope s__law_spans_of) .none kV14 dc14 pm14 an14 cd14 ct14), sl14⟩) (c14 : PySem.W.codeIn K cd14 "_law_spans_of" = true) (k14 : PySem.W.keepIn K (.ref f14) = true)
    (a15 : PySem.W.nsIn K mainGlobals "_law_great" = some (some (.ref f15))) (l15 : K.lookup f15 = some ⟨oc15, od15, .func (PySem.W.fnOf "_law_great" "_law_great" (defArgs s__law_great) (defBody s__law_great) (defScope s__law_great) .none kV15 dc15 pm15 an15 cd15 ct15), sl15⟩) (c15 : PySem.W.codeIn K cd15 "_law_great" = true) (k15 : PySem.W.keepIn K (.ref f15) = true)
    (a16 : PySem.W.nsIn K mainGlobals "_law_some" = some (some (.ref f16))) (l16 : K.lookup f16 = some ⟨oc16, od16, .func (PySem.W.fnOf "_law_some" "_law_some" (defArgs s__law_some) (defBody s__law_some) (defScope s__law_some) .none kV16 dc16 pm16 an16 cd16 ct16), sl16⟩) (c16 : PySem.W.codeIn K cd16 "_law_some" = true) (k16 : PySem.W.keepIn K (.ref f16) = true)
    (a17 : PySem.W.nsIn K mainGlobals "_law_is_whole" = some (some (.ref f17))) (l17 : K.lookup f17 = some ⟨oc17, od17, .func (PySem.W.fnOf "_law_is_whole" "_law_is_whole" (defArgs s__law_is_whole) (defBody s__law_is_whole) (defScope s__law_is_whole) .none kV17 dc17 pm17 an17 cd17 ct17), sl17⟩) (c17 : PySem.W.codeIn K cd17 "_law_is_whole" = true) (k17 : PySem.W.keepIn K (.ref f17) = true)
    (a18 : PySem.W.nsIn K mainGlobals "_law_is_span" = some (some (.ref f18))) (l18 : K.lookup f18 = some ⟨oc18, od18, .func (PySem.W.fnOf "_law_is_span" "_law_is_span" (defArgs s__law_is_span) (defBody s__law_is_span) (defScope s__law_is_span) .none kV18 dc18 pm18 an18 cd18 ct18), sl18⟩) (c18 : PySem.W.codeIn K cd18 "_law_is_span" = true) (k18 : PySem.W.keepIn K (.ref f18) = true)
    (a19 : PySem.W.nsIn K mainGlobals "_law_is_step" = some (some (.ref f19))) (l19 : K.lookup f19 = some ⟨oc19, od19, .func (PySem.W.fnOf "_law_is_step" "_law_is_step" (defArgs s__law_is_step) (defBody s__law_is_step) (defScope s__law_is_step) .none kV19 dc19 pm19 an19 cd19 ct19), sl19⟩) (c19 : PySem.W.codeIn K cd19 "_law_is_step" = true) (k19 : PySem.W.keepIn K (.ref f19) = true)
    (a20 : PySem.W.nsIn K mainGlobals "_law_program_error" = some (some (.ref f20))) (l20 : K.lookup f20 = some ⟨oc20, od20, .func (PySem.W.fnOf "_law_program_error" "_law_program_error" (defArgs s__law_program_error) (defBody s__law_program_error) (defScope s__law_program_error) .none kV20 dc20 pm20 an20 cd20 ct20), sl20⟩) (c20 : PySem.W.codeIn K cd20 "_law_program_error" = true) (k20 : PySem.W.keepIn K (.ref f20) = true)
    (a21 : PySem.W.nsIn K mainGlobals "_law_inputs_error" = some (some (.ref f21))) (l21 : K.lookup f21 = some ⟨oc21, od21, .func (PySem.W.fnOf "_law_inputs_error" "_law_inputs_error" (defArgs s__law_inputs_error) (defBody s__law_inputs_error) (defScope s__law_inputs_error) .none kV21 dc21 pm21 an21 cd21 ct21), sl21⟩) (c21 : PySem.W.codeIn K cd21 "_law_inputs_error" = true) (k21 : PySem.W.keepIn K (.ref f21) = true)
    (a22 : PySem.W.nsIn K mainGlobals "_law_odd_step" = some (some (.ref f22))) (l22 : K.lookup f22 = some ⟨oc22, od22, .func (PySem.W.fnOf "_law_odd_step" "_law_odd_step" (defArgs s__law_odd_step) (defBody s__law_odd_step) (defScope s__law_odd_step) .none kV22 dc22 pm22 an22 cd22 ct22), sl22⟩) (c22 : PySem.W.codeIn K cd22 "_law_odd_step" = true) (k22 : PySem.W.keepIn K (.ref f22) = true)
    (a23 : PySem.W.nsIn K mainGlobals "_law_odd_inputs" = some (some (.ref f23))) (l23 : K.lookup f23 = some ⟨oc23, od23, .func (PySem.W.fnOf "_law_odd_inputs" "_law_odd_inputs" (defArgs s__law_odd_inputs) (defBody s__law_odd_inputs) (defScope s__law_odd_inputs) .none kV23 dc23 pm23 an23 cd23 ct23), sl23⟩) (c23 : PySem.W.codeIn K cd23 "_law_odd_inputs" = true) (k23 : PySem.W.keepIn K (.ref f23) = true)
    (a24 : PySem.W.nsIn K mainGlobals "_law_is_judged" = some (some (.ref f24))) (l24 : K.lookup f24 = some ⟨oc24, od24, .func (PySem.W.fnOf "_law_is_judged" "_law_is_judged" (defArgs s__law_is_judged) (defBody s__law_is_judged) (defScope s__law_is_judged) .none kV24 dc24 pm24 an24 cd24 ct24), sl24⟩) (c24 : PySem.W.codeIn K cd24 "_law_is_judged" = true) (k24 : PySem.W.keepIn K (.ref f24) = true)
    (a25 : PySem.W.nsIn K mainGlobals "law" = some (some (.ref f25))) (l25 : K.lookup f25 = some ⟨oc25, od25, .func (PySem.W.fnOf "law" "law" (defArgs s_law) (defBody s_law) (defScope s_law) .none kV25 dc25 pm25 an25 cd25 ct25), sl25⟩) (c25 : PySem.W.codeIn K cd25 "law" = true) (k25 : PySem.W.keepIn K (.ref f25) = true)
    (z_abs : PySem.W.nsIn K mainGlobals "abs" = some none)
    (z_bool : PySem.W.nsIn K mainGlobals "bool" = some none)
    (z_enumerate : PySem.W.nsIn K mainGlobals "enumerate" = some none)
    (z_int : PySem.W.nsIn K mainGlobals "int" = some none)
    (z_isinstance : PySem.W.nsIn K mainGlobals "isinstance" = some none)
    (z_len : PySem.W.nsIn K mainGlobals "len" = some none)
    (z_list : PySem.W.nsIn K mainGlobals "list" = some none)
    (z_max : PySem.W.nsIn K mainGlobals "max" = some none)
    (z_min : PySem.W.nsIn K mainGlobals "min" = some none)
    (z_range : PySem.W.nsIn K mainGlobals "range" = some none)
    (z_repr : PySem.W.nsIn K mainGlobals "repr" = some none)
    (z_str : PySem.W.nsIn K mainGlobals "str" = some none)
    (z_tuple : PySem.W.nsIn K mainGlobals "tuple" = some none)
    (g_MAX_NUMBER : PySem.W.nsIn K mainGlobals "MAX_NUMBER" = some (some (.int (1000000000000000000000000000000000000000000000000000000000000) tg_MAX_NUMBER)))
    (g_MAX_STEP : PySem.W.nsIn K mainGlobals "MAX_STEP" = some (some (.int (1000000000000000000000000000000000000000000000000000000000000) tg_MAX_STEP)))
    (g_MAX_STEPS : PySem.W.nsIn K mainGlobals "MAX_STEPS" = some (some (.int (30) tg_MAX_STEPS)))
    (g_MAX_INPUTS : PySem.W.nsIn K mainGlobals "MAX_INPUTS" = some (some (.int (12) tg_MAX_INPUTS)))
    (g_MAX_FACTOR : PySem.W.nsIn K mainGlobals "MAX_FACTOR" = some (some (.int (100000000000000000000) tg_MAX_FACTOR)))
    (t_PAIRED : PySem.W.nsIn K mainGlobals "PAIRED" = some (some (.ref xt_PAIRED))) (t_PAIRED_l : K.lookup xt_PAIRED = some ⟨.type "tuple", xdt_PAIRED, .seq xit_PAIRED xnt_PAIRED, xst_PAIRED⟩) (t_PAIRED_v : Vals ([.str "sum", .str "less"].map vOf) xit_PAIRED.toList) (t_PAIRED_z : xit_PAIRED.size ≤ sizeLine) :
    ∃ fd : FuncData, (∀ (s : Shared) (v : Value), BindsTo s fd ⟨[v], []⟩ [("script", v)]) ∧ ∀ base : Heap, K.In base → base.Ns mainGlobals mg → FnG l.prog w K mg base CX0 7 fa fd ["script"] (spLawA K) := by
  have e := hfa.symm.trans (PySem.W.mg_of X G a25)
  cases e
  have T : Txt K mg := ⟨PySem.W.mg_none_of X G z_abs, PySem.W.mg_none_of X G z_bool, PySem.W.mg_none_of X G z_enumerate, PySem.W.mg_none_of X G z_int, PySem.W.mg_none_of X G z_isinstance, PySem.W.mg_none_of X G z_len, PySem.W.mg_none_of X G z_list, PySem.W.mg_none_of X G z_max, PySem.W.mg_none_of X G z_min, PySem.W.mg_none_of X G z_range, PySem.W.mg_none_of X G z_repr, PySem.W.mg_none_of X G z_str, PySem.W.mg_none_of X G z_tuple, ⟨_, PySem.W.mg_of X G g_MAX_NUMBER⟩, ⟨_, PySem.W.mg_of X G g_MAX_STEP⟩, ⟨_, PySem.W.mg_of X G g_MAX_STEPS⟩, ⟨_, PySem.W.mg_of X G g_MAX_INPUTS⟩, ⟨_, PySem.W.mg_of X G g_MAX_FACTOR⟩, ⟨_, PySem.W.mg_of X G t_PAIRED, fun H => .inr ⟨_, _, _, t_PAIRED_l, rfl, rfl, t_PAIRED_z, t_PAIRED_v⟩⟩⟩
  have F0 := fun_mk (st := s_is_integer) l0 c0 k0
  have B0 := F0.binds (ps := ["value"]) fun _ _ _ _ _ _ us hl => match us, hl with | [_], _ => rfl
  have F1 := fun_mk (st := s_is_number) l1 c1 k1
  have B1 := F1.binds (ps := ["value"]) fun _ _ _ _ _ _ us hl => match us, hl with | [_], _ => rfl
  have F2 := fun_mk (st := s_is_span) l2 c2 k2
  have B2 := F2.binds (ps := ["value"]) fun _ _ _ _ _ _ us hl => match us, hl with | [_], _ => rfl
  have F3 := fun_mk (st := s_is_held) l3 c3 k3
  have B3 := F3.binds (ps := ["span", "value"]) fun _ _ _ _ _ _ us hl => match us, hl with | [_, _], _ => rfl
  have F4 := fun_mk (st := s_is_ahead) l4 c4 k4
  have B4 := F4.binds (ps := ["value", "place"]) fun _ _ _ _ _ _ us hl => match us, hl with | [_, _], _ => rfl
  have F5 := fun_mk (st := s_is_step) l5 c5 k5
  have B5 := F5.binds (ps := ["value", "place"]) fun _ _ _ _ _ _ us hl => match us, hl with | [_, _], _ => rfl
  have F6 := fun_mk (st := s_spans_of) l6 c6 k6
  have B6 := F6.binds (ps := ["program"]) fun _ _ _ _ _ _ us hl => match us, hl with | [_], _ => rfl
  have F7 := fun_mk (st := s_program_error) l7 c7 k7
  have B7 := F7.binds (ps := ["value"]) fun _ _ _ _ _ _ us hl => match us, hl with | [_], _ => rfl
  have F8 := fun_mk (st := s_inputs_error) l8 c8 k8
  have B8 := F8.binds (ps := ["program", "value"]) fun _ _ _ _ _ _ us hl => match us, hl with | [_, _], _ => rfl
  have F9 := fun_mk (st := s__law_deck) l9 c9 k9
  have B9 := F9.binds (ps := ["script"]) fun _ _ _ _ _ _ us hl => match us, hl with | [_], _ => rfl
  have F10 := fun_mk (st := s__law_draw) l10 c10 k10
  have B10 := F10.binds (ps := ["deck", "many"]) fun _ _ _ _ _ _ us hl => match us, hl with | [_, _], _ => rfl
  have F11 := fun_mk (st := s__law_pick) l11 c11 k11
  have B11 := F11.binds (ps := ["deck", "row"]) fun _ _ _ _ _ _ us hl => match us, hl with | [_, _], _ => rfl
  have F12 := fun_mk (st := s__law_span) l12 c12 k12
  have B12 := F12.binds (ps := ["deck", "most", "many"]) fun _ _ _ _ _ _ us hl => match us, hl with | [_, _, _], _ => rfl
  have F13 := fun_mk (st := s__law_program) l13 c13 k13
  have B13 := F13.binds (ps := ["deck", "many", "most", "factors"]) fun _ _ _ _ _ _ us hl => match us, hl with | [_, _, _, _], _ => rfl
  have F14 := fun_mk (st := s__law_spans_of) l14 c14 k14
  have B14 := F14.binds (ps := ["program"]) fun _ _ _ _ _ _ us hl => match us, hl with | [_], _ => rfl
  have F15 := fun_mk (st := s__law_great) l15 c15 k15
  have B15 := F15.binds (ps := ["deck", "many", "kept"]) fun _ _ _ _ _ _ us hl => match us, hl with | [_, _, _], _ => rfl
  have F16 := fun_mk (st := s__law_some) l16 c16 k16
  have B16 := F16.binds (ps := ["deck", "spans"]) fun _ _ _ _ _ _ us hl => match us, hl with | [_, _], _ => rfl
  have F17 := fun_mk (st := s__law_is_whole) l17 c17 k17
  have B17 := F17.binds (ps := ["thing", "low", "high"]) fun _ _ _ _ _ _ us hl => match us, hl with | [_, _, _], _ => rfl
  have F18 := fun_mk (st := s__law_is_span) l18 c18 k18
  have B18 := F18.binds (ps := ["thing"]) fun _ _ _ _ _ _ us hl => match us, hl with | [_], _ => rfl
  have F19 := fun_mk (st := s__law_is_step) l19 c19 k19
  have B19 := F19.binds (ps := ["place", "thing"]) fun _ _ _ _ _ _ us hl => match us, hl with | [_, _], _ => rfl
  have F20 := fun_mk (st := s__law_program_error) l20 c20 k20
  have B20 := F20.binds (ps := ["thing"]) fun _ _ _ _ _ _ us hl => match us, hl with | [_], _ => rfl
  have F21 := fun_mk (st := s__law_inputs_error) l21 c21 k21
  have B21 := F21.binds (ps := ["program", "thing"]) fun _ _ _ _ _ _ us hl => match us, hl with | [_, _], _ => rfl
  have F22 := fun_mk (st := s__law_odd_step) l22 c22 k22
  have B22 := F22.binds (ps := ["deck", "place"]) fun _ _ _ _ _ _ us hl => match us, hl with | [_, _], _ => rfl
  have F23 := fun_mk (st := s__law_odd_inputs) l23 c23 k23
  have B23 := F23.binds (ps := ["deck", "program"]) fun _ _ _ _ _ _ us hl => match us, hl with | [_, _], _ => rfl
  have F24 := fun_mk (st := s__law_is_judged) l24 c24 k24
  have B24 := F24.binds (ps := ["thing", "is_named"]) fun _ _ _ _ _ _ us hl => match us, hl with | [_, _], _ => rfl
  have F25 := fun_mk (st := s_law) l25 c25 k25
  refine ⟨PySem.W.fnOf "law" "law" (defArgs s_law) (defBody s_law) (defScope s_law) .none kV25 dc25 pm25 an25 cd25 ct25, fun s v => .of_eq rfl, fun base _ _ => ?_⟩
  have c_is_integer : CalG l.prog w K mg base (ZA K) 1 "is_integer" ["value"] C_is_integer := ⟨⟨_, _, ok_is_integer F0 T, PySem.W.mg_of X G a0, k0, B0⟩, m_is_integer⟩
  have c_spans_of : CalG l.prog w K mg base (ZA K) 1 "spans_of" ["program"] C_spans_of := ⟨⟨_, _, ok_spans_of F6 T, PySem.W.mg_of X G a6, k6, B6⟩, m_spans_of⟩
  have c__law_draw : CalG l.prog w K mg base (ZA K) 1 "_law_draw" ["deck", "many"] C__law_draw := ⟨⟨_, _, ok_draw F10 T, PySem.W.mg_of X G a10, k10, B10⟩, m__law_draw⟩
  have c__law_spans_of : CalG l.prog w K mg base (ZA K) 1 "_law_spans_of" ["program"] C__law_spans_of := ⟨⟨_, _, ok__law_spans_of F14 T, PySem.W.mg_of X G a14, k14, B14⟩, m__law_spans_of⟩
  have c__law_is_whole : CalG l.prog w K mg base (ZA K) 1 "_law_is_whole" ["thing", "low", "high"] C__law_is_whole := ⟨⟨_, _, ok__law_is_whole F17 T, PySem.W.mg_of X G a17, k17, B17⟩, m__law_is_whole⟩
  have c_is_number : CalG l.prog w K mg base (ZA K) 2 "is_number" ["value"] C_is_number := ⟨⟨_, _, ok_is_number F1 T c_is_integer, PySem.W.mg_of X G a1, k1, B1⟩, m_is_number⟩
  have c_is_held : CalG l.prog w K mg base (ZA K) 2 "is_held" ["span", "value"] C_is_held := ⟨⟨_, _, ok_is_held F3 T c_is_integer, PySem.W.mg_of X G a3, k3, B3⟩, m_is_held⟩
  have c_is_ahead : CalG l.prog w K mg base (ZA K) 2 "is_ahead" ["value", "place"] C_is_ahead := ⟨⟨_, _, ok_is_ahead F4 T c_is_integer, PySem.W.mg_of X G a4, k4, B4⟩, m_is_ahead⟩
  have c__law_pick : CalG l.prog w K mg base (ZA K) 2 "_law_pick" ["deck", "row"] C__law_pick := ⟨⟨_, _, ok__law_pick F11 T c__law_draw, PySem.W.mg_of X G a11, k11, B11⟩, m__law_pick⟩
  have c__law_is_span : CalG l.prog w K mg base (ZA K) 2 "_law_is_span" ["thing"] C__law_is_span := ⟨⟨_, _, ok__law_is_span F18 T c__law_is_whole, PySem.W.mg_of X G a18, k18, B18⟩, m__law_is_span⟩
  have c__law_inputs_error : CalG l.prog w K mg base (ZA K) 2 "_law_inputs_error" ["program", "thing"] C__law_inputs_error := ⟨⟨_, _, ok__law_inputs_error F21 T c__law_spans_of c__law_is_whole, PySem.W.mg_of X G a21, k21, B21⟩, m__law_inputs_error⟩
  have c_is_span : CalG l.prog w K mg base (ZA K) 3 "is_span" ["value"] C_is_span := ⟨⟨_, _, ok_is_span F2 T c_is_number c_is_integer, PySem.W.mg_of X G a2, k2, B2⟩, m_is_span⟩
  have c_inputs_error : CalG l.prog w K mg base (ZA K) 3 "inputs_error" ["program", "value"] C_inputs_error := ⟨⟨_, _, ok_inputs_error F8 T c_spans_of c_is_held, PySem.W.mg_of X G a8, k8, B8⟩, m_inputs_error⟩
  have c_inputs_error_k10 : CalK l.prog w K mg base (ZA K) 3 "inputs_error" ["program", "value"] ["value", "program"] [1, 0] C_inputs_error := ⟨⟨_, _, ok_inputs_error F8 T c_spans_of c_is_held, PySem.W.mg_of X G a8, k8, ⟨rfl, by decide, fun ws hw => match ws, hw with | [_, _], _ => rfl⟩⟩, m_inputs_error⟩
  have c__law_span : CalG l.prog w K mg base (ZA K) 3 "_law_span" ["deck", "most", "many"] C__law_span := ⟨⟨_, _, ok__law_span F12 T c__law_pick c__law_draw, PySem.W.mg_of X G a12, k12, B12⟩, m__law_span⟩
  have c__law_great : CalG l.prog w K mg base (ZA K) 3 "_law_great" ["deck", "many", "kept"] C__law_great := ⟨⟨_, _, ok__law_great F15 T c__law_pick c__law_draw, PySem.W.mg_of X G a15, k15, B15⟩, m__law_great⟩
  have c__law_some : CalG l.prog w K mg base (ZA K) 3 "_law_some" ["deck", "spans"] C__law_some := ⟨⟨_, _, ok__law_some F16 T c__law_pick, PySem.W.mg_of X G a16, k16, B16⟩, m__law_some⟩
  have c__law_is_step : CalG l.prog w K mg base (ZA K) 3 "_law_is_step" ["place", "thing"] C__law_is_step := ⟨⟨_, _, ok__law_is_step F19 T c__law_is_span c__law_is_whole, PySem.W.mg_of X G a19, k19, B19⟩, m__law_is_step⟩
  have c__law_odd_step : CalG l.prog w K mg base (ZA K) 3 "_law_odd_step" ["deck", "place"] C__law_odd_step := ⟨⟨_, _, ok__law_odd_step F22 T c__law_pick, PySem.W.mg_of X G a22, k22, B22⟩, m__law_odd_step⟩
  have c_is_step : CalG l.prog w K mg base (ZA K) 4 "is_step" ["value", "place"] C_is_step := ⟨⟨_, _, ok_is_step F5 T c_is_span c_is_number c_is_ahead c_is_integer, PySem.W.mg_of X G a5, k5, B5⟩, m_is_step⟩
  have c__law_program : CalG l.prog w K mg base (ZA K) 4 "_law_program" ["deck", "many", "most", "factors"] C__law_program := ⟨⟨_, _, ok__law_program F13 T c__law_pick c__law_span c__law_draw, PySem.W.mg_of X G a13, k13, B13⟩, m__law_program⟩
  have c__law_program_error : CalG l.prog w K mg base (ZA K) 4 "_law_program_error" ["thing"] C__law_program_error := ⟨⟨_, _, ok__law_program_error F20 T c__law_is_step, PySem.W.mg_of X G a20, k20, B20⟩, m__law_program_error⟩
  have c__law_odd_inputs : CalG l.prog w K mg base (ZA K) 4 "_law_odd_inputs" ["deck", "program"] C__law_odd_inputs := ⟨⟨_, _, ok__law_odd_inputs F23 T c__law_spans_of c__law_some c__law_draw c__law_pick, PySem.W.mg_of X G a23, k23, B23⟩, m__law_odd_inputs⟩
  have c_program_error : CalG l.prog w K mg base (ZA K) 5 "program_error" ["value"] C_program_error := ⟨⟨_, _, ok_program_error F7 T c_is_step c_spans_of, PySem.W.mg_of X G a7, k7, B7⟩, m_program_error⟩
  have c_program_error_k0 : CalK l.prog w K mg base (ZA K) 5 "program_error" ["value"] ["value"] [0] C_program_error := ⟨⟨_, _, ok_program_error F7 T c_is_step c_spans_of, PySem.W.mg_of X G a7, k7, ⟨rfl, by decide, fun ws hw => match ws, hw with | [_], _ => rfl⟩⟩, m_program_error⟩
  have c__law_is_judged : CalG l.prog w K mg base (ZA K) 6 "_law_is_judged" ["thing", "is_named"] C__law_is_judged := ⟨⟨_, _, ok__law_is_judged F24 T c__law_program_error c_program_error c_program_error_k0, PySem.W.mg_of X G a24, k24, B24⟩, m__law_is_judged⟩
  exact ok_law F25 F9 (PySem.W.mg_of X G a9) B9 T c__law_great c__law_program c__law_draw c__law_odd_step c__law_odd_inputs c__law_some c__law_spans_of c__law_inputs_error c_inputs_error c_inputs_error_k10 c__law_is_judged
theorem walk {l : PySem.W.OpenLaw} {q : Program} {loose : List Str} {XP : (Str → Option Value) → Heap → Prop} {YP : World → Heap → Prop} {d : DefRec} {K : Params → PySem.W.Frag} (hn : l.most = some 63) (hdf : d.params.defaults = []) (hin : importsNone q = true)
    (hY : ∀ (w : World) (h : Heap), YP w h → (K w.params).In h) (hsm : ∀ w : World, (K w.params).lookup sysModules = none)
    (F : ∀ (w : World) (mg : Str → Option Value) (fa : Addr) (h : Heap), (K w.params).In h → h.Ns mainGlobals mg → mg d.name = some (.ref fa) →
      ∃ fd : FuncData, (∀ (s : Shared) (u : Value), BindsTo s fd ⟨[u], []⟩ [("script", u)]) ∧ ∀ base : Heap, (K w.params).In base → base.Ns mainGlobals mg → FnG l.prog w (K w.params) mg base CX0 7 fa fd ["script"] (spLawA (K w.params))) :
    PySem.W.WalkO q loose XP YP l.row.toRowW d [] (fun f vs => PySem.call f vs) :=
  walkG (n := 63) (k := 7) (x := "script") (sp := spLawA) hn (by decide) hdf ⟨rfl, by decide, by decide⟩ hin hY hsm F fun w o0 H a ns hl hO hS => ⟨a, ns, _, rfl, hS, hl, hO.1, fun H' e => ⟨rfl, e⟩⟩
end K35


open PySem PySem.W PyProof.Rows in
set_option maxRecDepth 100000 in
set_option maxHeartbeats 0 in
theorem PySem.Challenge.cw_everyexact_k35_programs_and_inputs_of_al_holds : PySem.Challenge.rw_everyexact_k35_programs_and_inputs_of_al.Holds := by
  w_on; o_law; k_head; (case hw => w_witness2)
  k_fill
  refine K35.walk (l := PySem.Challenge.rw_everyexact_k35_programs_and_inputs_of_al) rfl rfl ?hin (fun w h Y => PySem.W.kIn_of Y) ?hsm ?F
  case hin => decide +kernel
  case hsm => intro w; first | rfl | k_is
  case F =>
    intro w mg fa h KX G hmg
    refine' K35.all_mk KX G hmg ?a0 ?l0 ?c0 ?k0 ?a1 ?l1 ?c1 ?k1 ?a2 ?l2 ?c2 ?k2 ?a3 ?l3 ?c3 ?k3 ?a4 ?l4 ?c4 ?k4 ?a5 ?l5 ?c5 ?k5 ?a6 ?l6 ?c6 ?k6 ?a7 ?l7 ?c7 ?k7 ?a8 ?l8 ?c8 ?k8 ?a9 ?l9 ?c9 ?k9 ?a10 ?l10 ?c10 ?k10 ?a11 ?l11 ?c11 ?k11 ?a12 ?l12 ?c12 ?k12 ?a13 ?l13 ?c13 ?k13 ?a14 ?l14 ?c14 ?k14 ?a15 ?l15 ?c15 ?k15 ?a16 ?l16 ?c16 ?k16 ?a17 ?l17 ?c17 ?k17 ?a18 ?l18 ?c18 ?k18 ?a19 ?l19 ?c19 ?k19 ?a20 ?l20 ?c20 ?k20 ?a21 ?l21 ?c21 ?k21 ?a22 ?l22 ?c22 ?k22 ?a23 ?l23 ?c23 ?k23 ?a24 ?l24 ?c24 ?k24 ?a25 ?l25 ?c25 ?k25 ?z_abs ?z_bool ?z_enumerate ?z_int ?z_isinstance ?z_len ?z_list ?z_max ?z_min ?z_range ?z_repr ?z_str ?z_tuple ?g_MAX_NUMBER ?g_MAX_STEP ?g_MAX_STEPS ?g_MAX_INPUTS ?g_MAX_FACTOR ?t_PAIRED ?t_PAIRED_l ?t_PAIRED_v ?t_PAIRED_z
    (case a0 => first | k_is | exact .cons ⟨_, rfl⟩ (.cons ⟨_, rfl⟩ .nil) | decide)
    (case l0 => first | k_is | exact .cons ⟨_, rfl⟩ (.cons ⟨_, rfl⟩ .nil) | decide)
    (case c0 => first | k_is | exact .cons ⟨_, rfl⟩ (.cons ⟨_, rfl⟩ .nil) | decide)
    (case k0 => first | k_is | exact .cons ⟨_, rfl⟩ (.cons ⟨_, rfl⟩ .nil) | decide)
    (case a1 => first | k_is | exact .cons ⟨_, rfl⟩ (.cons ⟨_, rfl⟩ .nil) | decide)
    (case l1 => first | k_is | exact .cons ⟨_, rfl⟩ (.cons ⟨_, rfl⟩ .nil) | decide)
    (case c1 => first | k_is | exact .cons ⟨_, rfl⟩ (.cons ⟨_, rfl⟩ .nil) | decide)
    (case k1 => first | k_is | exact .cons ⟨_, rfl⟩ (.cons ⟨_, rfl⟩ .nil) | decide)
    (case a2 => first | k_is | exact .cons ⟨_, rfl⟩ (.cons ⟨_, rfl⟩ .nil) | decide)
    (case l2 => first | k_is | exact .cons ⟨_, rfl⟩ (.cons ⟨_, rfl⟩ .nil) | decide)
    (case c2 => first | k_is | exact .cons ⟨_, rfl⟩ (.cons ⟨_, rfl⟩ .nil) | decide)
    (case k2 => first | k_is | exact .cons ⟨_, rfl⟩ (.cons ⟨_, rfl⟩ .nil) | decide)
    (case a3 => first | k_is | exact .cons ⟨_, rfl⟩ (.cons ⟨_, rfl⟩ .nil) | decide)
    (case l3 => first | k_is | exact .cons ⟨_, rfl⟩ (.cons ⟨_, rfl⟩ .nil) | decide)
    (case c3 => first | k_is | exact .cons ⟨_, rfl⟩ (.cons ⟨_, rfl⟩ .nil) | decide)
    (case k3 => first | k_is | exact .cons ⟨_, rfl⟩ (.cons ⟨_, rfl⟩ .nil) | decide)
    (case a4 => first | k_is | exact .cons ⟨_, rfl⟩ (.cons ⟨_, rfl⟩ .nil) | decide)
    (case l4 => first | k_is | exact .cons ⟨_, rfl⟩ (.cons ⟨_, rfl⟩ .nil) | decide)
    (case c4 => first | k_is | exact .cons ⟨_, rfl⟩ (.cons ⟨_, rfl⟩ .nil) | decide)
    (case k4 => first | k_is | exact .cons ⟨_, rfl⟩ (.cons ⟨_, rfl⟩ .nil) | decide)
    (case a5 => first | k_is | exact .cons ⟨_, rfl⟩ (.cons ⟨_, rfl⟩ .nil) | decide)
    (case l5 => first | k_is | exact .cons ⟨_, rfl⟩ (.cons ⟨_, rfl⟩ .nil) | decide)
    (case c5 => first | k_is | exact .cons ⟨_, rfl⟩ (.cons ⟨_, rfl⟩ .nil) | decide)
    (case k5 => first | k_is | exact .cons ⟨_, rfl⟩ (.cons ⟨_, rfl⟩ .nil) | decide)
    (case a6 => first | k_is | exact .cons ⟨_, rfl⟩ (.cons ⟨_, rfl⟩ .nil) | decide)
    (case l6 => first | k_is | exact .cons ⟨_, rfl⟩ (.cons ⟨_, rfl⟩ .nil) | decide)
    (case c6 => first | k_is | exact .cons ⟨_, rfl⟩ (.cons ⟨_, rfl⟩ .nil) | decide)
    (case k6 => first | k_is | exact .cons ⟨_, rfl⟩ (.cons ⟨_, rfl⟩ .nil) | decide)
    (case a7 => first | k_is | exact .cons ⟨_, rfl⟩ (.cons ⟨_, rfl⟩ .nil) | decide)
    (case l7 => first | k_is | exact .cons ⟨_, rfl⟩ (.cons ⟨_, rfl⟩ .nil) | decide)
    (case c7 => first | k_is | exact .cons ⟨_, rfl⟩ (.cons ⟨_, rfl⟩ .nil) | decide)
    (case k7 => first | k_is | exact .cons ⟨_, rfl⟩ (.cons ⟨_, rfl⟩ .nil) | decide)
    (case a8 => first | k_is | exact .cons ⟨_, rfl⟩ (.cons ⟨_, rfl⟩ .nil) | decide)
    (case l8 => first | k_is | exact .cons ⟨_, rfl⟩ (.cons ⟨_, rfl⟩ .nil) | decide)
    (case c8 => first | k_is | exact .cons ⟨_, rfl⟩ (.cons ⟨_, rfl⟩ .nil) | decide)
    (case k8 => first | k_is | exact .cons ⟨_, rfl⟩ (.cons ⟨_, rfl⟩ .nil) | decide)
    (case a9 => first | k_is | exact .cons ⟨_, rfl⟩ (.cons ⟨_, rfl⟩ .nil) | decide)
    (case l9 => first | k_is | exact .cons ⟨_, rfl⟩ (.cons ⟨_, rfl⟩ .nil) | decide)
    (case c9 => first | k_is | exact .cons ⟨_, rfl⟩ (.cons ⟨_, rfl⟩ .nil) | decide)
    (case k9 => first | k_is | exact .cons ⟨_, rfl⟩ (.cons ⟨_, rfl⟩ .nil) | decide)
    (case a10 => first | k_is | exact .cons ⟨_, rfl⟩ (.cons ⟨_, rfl⟩ .nil) | decide)
    (case l10 => first | k_is | exact .cons ⟨_, rfl⟩ (.cons ⟨_, rfl⟩ .nil) | decide)
    (case c10 => first | k_is | exact .cons ⟨_, rfl⟩ (.cons ⟨_, rfl⟩ .nil) | decide)
    (case k10 => first | k_is | exact .cons ⟨_, rfl⟩ (.cons ⟨_, rfl⟩ .nil) | decide)
    (case a11 => first | k_is | exact .cons ⟨_, rfl⟩ (.cons ⟨_, rfl⟩ .nil) | decide)
    (case l11 => first | k_is | exact .cons ⟨_, rfl⟩ (.cons ⟨_, rfl⟩ .nil) | decide)
    (case c11 => first | k_is | exact .cons ⟨_, rfl⟩ (.cons ⟨_, rfl⟩ .nil) | decide)
    (case k11 => first | k_is | exact .cons ⟨_, rfl⟩ (.cons ⟨_, rfl⟩ .nil) | decide)
    (case a12 => first | k_is | exact .cons ⟨_, rfl⟩ (.cons ⟨_, rfl⟩ .nil) | decide)
    (case l12 => first | k_is | exact .cons ⟨_, rfl⟩ (.cons ⟨_, rfl⟩ .nil) | decide)
    (case c12 => first | k_is | exact .cons ⟨_, rfl⟩ (.cons ⟨_, rfl⟩ .nil) | decide)
    (case k12 => first | k_is | exact .cons ⟨_, rfl⟩ (.cons ⟨_, rfl⟩ .nil) | decide)
    (case a13 => first | k_is | exact .cons ⟨_, rfl⟩ (.cons ⟨_, rfl⟩ .nil) | decide)
    (case l13 => first | k_is | exact .cons ⟨_, rfl⟩ (.cons ⟨_, rfl⟩ .nil) | decide)
    (case c13 => first | k_is | exact .cons ⟨_, rfl⟩ (.cons ⟨_, rfl⟩ .nil) | decide)
    (case k13 => first | k_is | exact .cons ⟨_, rfl⟩ (.cons ⟨_, rfl⟩ .nil) | decide)
    (case a14 => first | k_is | exact .cons ⟨_, rfl⟩ (.cons ⟨_, rfl⟩ .nil) | decide)
    (case l14 => first | k_is | exact .cons ⟨_, rfl⟩ (.cons ⟨_, rfl⟩ .nil) | decide)
    (case c14 => first | k_is | exact .cons ⟨_, rfl⟩ (.cons ⟨_, rfl⟩ .nil) | decide)
    (case k14 => first | k_is | exact .cons ⟨_, rfl⟩ (.cons ⟨_, rfl⟩ .nil) | decide)
    (case a15 => first | k_is | exact .cons ⟨_, rfl⟩ (.cons ⟨_, rfl⟩ .nil) | decide)
    (case l15 => first | k_is | exact .cons ⟨_, rfl⟩ (.cons ⟨_, rfl⟩ .nil) | decide)
    (case c15 => first | k_is | exact .cons ⟨_, rfl⟩ (.cons ⟨_, rfl⟩ .nil) | decide)
    (case k15 => first | k_is | exact .cons ⟨_, rfl⟩ (.cons ⟨_, rfl⟩ .nil) | decide)
    (case a16 => first | k_is | exact .cons ⟨_, rfl⟩ (.cons ⟨_, rfl⟩ .nil) | decide)
    (case l16 => first | k_is | exact .cons ⟨_, rfl⟩ (.cons ⟨_, rfl⟩ .nil) | decide)
    (case c16 => first | k_is | exact .cons ⟨_, rfl⟩ (.cons ⟨_, rfl⟩ .nil) | decide)
    (case k16 => first | k_is | exact .cons ⟨_, rfl⟩ (.cons ⟨_, rfl⟩ .nil) | decide)
    (case a17 => first | k_is | exact .cons ⟨_, rfl⟩ (.cons ⟨_, rfl⟩ .nil) | decide)
    (case l17 => first | k_is | exact .cons ⟨_, rfl⟩ (.cons ⟨_, rfl⟩ .nil) | decide)
    (case c17 => first | k_is | exact .cons ⟨_, rfl⟩ (.cons ⟨_, rfl⟩ .nil) | decide)
    (case k17 => first | k_is | exact .cons ⟨_, rfl⟩ (.cons ⟨_, rfl⟩ .nil) | decide)
    (case a18 => first | k_is | exact .cons ⟨_, rfl⟩ (.cons ⟨_, rfl⟩ .nil) | decide)
    (case l18 => first | k_is | exact .cons ⟨_, rfl⟩ (.cons ⟨_, rfl⟩ .nil) | decide)
    (case c18 => first | k_is | exact .cons ⟨_, rfl⟩ (.cons ⟨_, rfl⟩ .nil) | decide)
    (case k18 => first | k_is | exact .cons ⟨_, rfl⟩ (.cons ⟨_, rfl⟩ .nil) | decide)
    (case a19 => first | k_is | exact .cons ⟨_, rfl⟩ (.cons ⟨_, rfl⟩ .nil) | decide)
    (case l19 => first | k_is | exact .cons ⟨_, rfl⟩ (.cons ⟨_, rfl⟩ .nil) | decide)
    (case c19 => first | k_is | exact .cons ⟨_, rfl⟩ (.cons ⟨_, rfl⟩ .nil) | decide)
    (case k19 => first | k_is | exact .cons ⟨_, rfl⟩ (.cons ⟨_, rfl⟩ .nil) | decide)
    (case a20 => first | k_is | exact .cons ⟨_, rfl⟩ (.cons ⟨_, rfl⟩ .nil) | decide)
    (case l20 => first | k_is | exact .cons ⟨_, rfl⟩ (.cons ⟨_, rfl⟩ .nil) | decide)
    (case c20 => first | k_is | exact .cons ⟨_, rfl⟩ (.cons ⟨_, rfl⟩ .nil) | decide)
    (case k20 => first | k_is | exact .cons ⟨_, rfl⟩ (.cons ⟨_, rfl⟩ .nil) | decide)
    (case a21 => first | k_is | exact .cons ⟨_, rfl⟩ (.cons ⟨_, rfl⟩ .nil) | decide)
    (case l21 => first | k_is | exact .cons ⟨_, rfl⟩ (.cons ⟨_, rfl⟩ .nil) | decide)
    (case c21 => first | k_is | exact .cons ⟨_, rfl⟩ (.cons ⟨_, rfl⟩ .nil) | decide)
    (case k21 => first | k_is | exact .cons ⟨_, rfl⟩ (.cons ⟨_, rfl⟩ .nil) | decide)
    (case a22 => first | k_is | exact .cons ⟨_, rfl⟩ (.cons ⟨_, rfl⟩ .nil) | decide)
    (case l22 => first | k_is | exact .cons ⟨_, rfl⟩ (.cons ⟨_, rfl⟩ .nil) | decide)
    (case c22 => first | k_is | exact .cons ⟨_, rfl⟩ (.cons ⟨_, rfl⟩ .nil) | decide)
    (case k22 => first | k_is | exact .cons ⟨_, rfl⟩ (.cons ⟨_, rfl⟩ .nil) | decide)
    (case a23 => first | k_is | exact .cons ⟨_, rfl⟩ (.cons ⟨_, rfl⟩ .nil) | decide)
    (case l23 => first | k_is | exact .cons ⟨_, rfl⟩ (.cons ⟨_, rfl⟩ .nil) | decide)
    (case c23 => first | k_is | exact .cons ⟨_, rfl⟩ (.cons ⟨_, rfl⟩ .nil) | decide)
    (case k23 => first | k_is | exact .cons ⟨_, rfl⟩ (.cons ⟨_, rfl⟩ .nil) | decide)
    (case a24 => first | k_is | exact .cons ⟨_, rfl⟩ (.cons ⟨_, rfl⟩ .nil) | decide)
    (case l24 => first | k_is | exact .cons ⟨_, rfl⟩ (.cons ⟨_, rfl⟩ .nil) | decide)
    (case c24 => first | k_is | exact .cons ⟨_, rfl⟩ (.cons ⟨_, rfl⟩ .nil) | decide)
    (case k24 => first | k_is | exact .cons ⟨_, rfl⟩ (.cons ⟨_, rfl⟩ .nil) | decide)
    (case a25 => first | k_is | exact .cons ⟨_, rfl⟩ (.cons ⟨_, rfl⟩ .nil) | decide)
    (case l25 => first | k_is | exact .cons ⟨_, rfl⟩ (.cons ⟨_, rfl⟩ .nil) | decide)
    (case c25 => first | k_is | exact .cons ⟨_, rfl⟩ (.cons ⟨_, rfl⟩ .nil) | decide)
    (case k25 => first | k_is | exact .cons ⟨_, rfl⟩ (.cons ⟨_, rfl⟩ .nil) | decide)
    (case z_abs => first | k_is | exact .cons ⟨_, rfl⟩ (.cons ⟨_, rfl⟩ .nil) | decide)
    (case z_bool => first | k_is | exact .cons ⟨_, rfl⟩ (.cons ⟨_, rfl⟩ .nil) | decide)
    (case z_enumerate => first | k_is | exact .cons ⟨_, rfl⟩ (.cons ⟨_, rfl⟩ .nil) | decide)
    (case z_int => first | k_is | exact .cons ⟨_, rfl⟩ (.cons ⟨_, rfl⟩ .nil) | decide)
    (case z_isinstance => first | k_is | exact .cons ⟨_, rfl⟩ (.cons ⟨_, rfl⟩ .nil) | decide)
    (case z_len => first | k_is | exact .cons ⟨_, rfl⟩ (.cons ⟨_, rfl⟩ .nil) | decide)
    (case z_list => first | k_is | exact .cons ⟨_, rfl⟩ (.cons ⟨_, rfl⟩ .nil) | decide)
    (case z_max => first | k_is | exact .cons ⟨_, rfl⟩ (.cons ⟨_, rfl⟩ .nil) | decide)
    (case z_min => first | k_is | exact .cons ⟨_, rfl⟩ (.cons ⟨_, rfl⟩ .nil) | decide)
    (case z_range => first | k_is | exact .cons ⟨_, rfl⟩ (.cons ⟨_, rfl⟩ .nil) | decide)
    (case z_repr => first | k_is | exact .cons ⟨_, rfl⟩ (.cons ⟨_, rfl⟩ .nil) | decide)
    (case z_str => first | k_is | exact .cons ⟨_, rfl⟩ (.cons ⟨_, rfl⟩ .nil) | decide)
    (case z_tuple => first | k_is | exact .cons ⟨_, rfl⟩ (.cons ⟨_, rfl⟩ .nil) | decide)
    (case g_MAX_NUMBER => first | k_is | exact .cons ⟨_, rfl⟩ (.cons ⟨_, rfl⟩ .nil) | decide)
    (case g_MAX_STEP => first | k_is | exact .cons ⟨_, rfl⟩ (.cons ⟨_, rfl⟩ .nil) | decide)
    (case g_MAX_STEPS => first | k_is | exact .cons ⟨_, rfl⟩ (.cons ⟨_, rfl⟩ .nil) | decide)
    (case g_MAX_INPUTS => first | k_is | exact .cons ⟨_, rfl⟩ (.cons ⟨_, rfl⟩ .nil) | decide)
    (case g_MAX_FACTOR => first | k_is | exact .cons ⟨_, rfl⟩ (.cons ⟨_, rfl⟩ .nil) | decide)
    (case t_PAIRED => first | k_is | exact .cons ⟨_, rfl⟩ (.cons ⟨_, rfl⟩ .nil) | decide)
    (case t_PAIRED_l => first | k_is | exact .cons ⟨_, rfl⟩ (.cons ⟨_, rfl⟩ .nil) | decide)
    (case t_PAIRED_v => first | k_is | exact .cons ⟨_, rfl⟩ (.cons ⟨_, rfl⟩ .nil) | decide)
    (case t_PAIRED_z => first | k_is | exact .cons ⟨_, rfl⟩ (.cons ⟨_, rfl⟩ .nil) | decide)

