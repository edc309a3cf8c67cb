import PyProof.Rows.All
import Wide.All
import OpenK.AllK
import Wide.FinOn
import HandS.ForMost
import HandS.ForExc
import HandS.Wide
import HandS.TupAny
import HandS.TupLen
import HandS.Style
import HandS.Flow
import HandS.SortInts
import HandS.IsInst
import HandS.Conv
import HandS.EndBits
import HandS.NoneIn
import HandS.Lambda
import HandS.TupMul
import HandS.Deep
import HandS.Iter
import HandS.Zip
import HandS.Rev
import HandS.CallSlots
import HandS.SortRule
import HandS.More
import HandS.Gcd
import HandS.Text
import KE.SortData
import HandS.StrMore
import HandS.StrSplit
import PyProof.StrCalls6
import HandS.ExcInit
import HandS.FStr
import KE.KExcSuper
import HandS.TryOnly
import HandS.ExcField
import PyProof.StrLawsRepr
import HandS.DictComp
import HandS.EndTab
import KE.KDictCopyH
import PyProof.MinMaxWalk
import PyProof.WalkInts
import PyProof.WalksMore
import PySem.Challenge.RW_foreverdays_k62_fixtures
set_option Elab.async false
set_option linter.all false
set_option maxRecDepth 100000
/-! DCore: deep data D, environments by slots, and the transformers that a def's body is read as. No heap, no program: plain Lean. -/
namespace DL
open PySem

abbrev Key := Sum Int Str

/-- deep data -/
inductive D where
  | non
  | bl (b : Bool)
  | int (i : Int)
  | str (x : Str)
  | tup (l : List D)
  | lst (l : List D)
  | dk (l : List (Key × D))
  | dt (l : List (List Key × D))
  | ins (c : String) (l : List (Str × D))
  /-- the drawing state of a law; the script; a class or def -/
  | st
  | scr (ns : List Int)
  | fn (x : String)

/-- a slot: nothing known, frozen data, a list or dict of the def's own that may still change -/
inductive Sl where
  | no
  | v (d : D)
  | o (d : D)

abbrev Env := List Sl
structure Err where
  cls : String
  fs : List (Str × D)
abbrev EK := Err → Env → Prop
abbrev DK := D → Prop
abbrev DT := EK → Env → DK → Prop
abbrev DB := EK → Env → (Bool → Prop) → Prop
abbrev DA := EK → Env → (List D → Prop) → Prop
abbrev DI := EK → Env → (List D → Prop) → Prop
structure DE where
  nx : Env → Prop
  rt : DK
  bk : Env → Prop := fun _ => False
  ct : Env → Prop := fun _ => False
  /-- what is given, where the own slots still count -/
  ro : D → Env → Prop := fun _ _ => False
abbrev DS := EK → DE → Env → Prop
abbrev DG := D → Env → (Env → Prop) → Prop
abbrev DGs := List D → Env → (Env → Prop) → Prop
abbrev DO := EK → Env → (Option Int → Prop) → Prop
/-- what a def is read as: arguments, what is wanted of the value, of an error -/
abbrev DF := List D → DK → (Err → Prop) → Prop

/-! ### limits of the model -/
def lineMax : Nat := 16777216

/-! ### operations on data -/
def eqK (a b : Key) : Bool := decide (a = b)
mutual
def eqD : D → D → Bool
  | .non, .non => true
  | .bl a, .bl b => a == b
  | .bl a, .int j => (if a then 1 else 0) == j
  | .int i, .bl b => i == (if b then 1 else 0)
  | .int i, .int j => i == j
  | .str x, .str y => x == y
  | .tup xs, .tup ys => eqDs xs ys
  | .lst xs, .lst ys => eqDs xs ys
  | _, _ => false
def eqDs : List D → List D → Bool
  | [], [] => true
  | x :: xs, y :: ys => eqD x y && eqDs xs ys
  | _, _ => false
end
mutual
/-- data whose == is known here: None, bools, ints, texts, tuples and lists of these, not too deep -/
def okD : Nat → D → Bool
  | _, .non => true
  | _, .bl _ => true
  | _, .int _ => true
  | _, .str x => x.cps.all (· < 0x110000)
  | n + 1, .tup xs => okDs n xs
  | n + 1, .lst xs => okDs n xs
  | _, _ => false
def okDs : Nat → List D → Bool
  | _, [] => true
  | n, x :: xs => okD n x && okDs n xs
end
def isFlat : D → Bool
  | .non => true
  | .bl _ => true
  | .int _ => true
  | .str _ => true
  | _ => false

def oAdd (x y : D) (Q : DK) : Prop := match x, y with
  | .int i, .int j => Q (.int (i + j))
  | .str a, .str b => a.length + b.length ≤ lineMax ∧ Q (.str (a ++ b))
  | .lst a, .lst b => a.length + b.length ≤ lineMax ∧ Q (.lst (a ++ b))
  | .tup a, .tup b => a.length + b.length ≤ lineMax ∧ Q (.tup (a ++ b))
  | _, _ => False
def oSub (x y : D) (Q : DK) : Prop := match x, y with
  | .int i, .int j => Q (.int (i - j))
  | _, _ => False
/-- a factor below 2^64, or both together below a million bits -/
def mulOk (i j : Int) : Prop := i.natAbs.log2 + j.natAbs.log2 < 1000000
def oMul (x y : D) (Q : DK) : Prop := match x, y with
  | .int i, .int j => mulOk i j ∧ Q (.int (i * j))
  | .lst a, .int k => -(2 ^ 63) ≤ k ∧ k < 2 ^ 63 ∧ a.length * k.toNat ≤ lineMax ∧ Q (.lst (List.replicate k.toNat a).flatten)
  | .tup a, .int k => -(2 ^ 63) ≤ k ∧ k ≤ 1000 ∧ a.length ≤ 1000 ∧ Q (.tup (List.replicate k.toNat a).flatten)
  | _, _ => False
def divOk (j : Int) : Prop := 0 < j ∧ j.natAbs.log2 < 9000
def oDiv (x y : D) (Q : DK) : Prop := match x, y with
  | .int i, .int j => divOk j ∧ Q (.int (i / j))
  | _, _ => False
def oMod (x y : D) (Q : DK) : Prop := match x, y with
  | .int i, .int j => 0 < j ∧ Q (.int (i % j))
  | _, _ => False
def oPow (x y : D) (Q : DK) : Prop := match x, y with
  | .int i, .int j => (0 ≤ j ∧ j ≤ 1000000 ∧ i.natAbs < 2 ^ 64) ∧ Q (.int (i ^ j.toNat))
  | _, _ => False
def oNeg (x : D) (Q : DK) : Prop := match x with
  | .int i => Q (.int (-i))
  | _ => False
def oEq (x y : D) (Q : DK) : Prop := okD 60 x = true ∧ okD 60 y = true ∧ Q (.bl (eqD x y))
def oNe (x y : D) (Q : DK) : Prop := okD 60 x = true ∧ okD 60 y = true ∧ Q (.bl (!eqD x y))
def oLt (x y : D) (Q : DK) : Prop := match x, y with
  | .int i, .int j => Q (.bl (decide (i < j)))
  | .str a, .str b => Q (.bl (decide (a.cps.toList < b.cps.toList)))
  | _, _ => False
def oLe (x y : D) (Q : DK) : Prop := match x, y with
  | .int i, .int j => Q (.bl (decide (i ≤ j)))
  | .str a, .str b => Q (.bl (!decide (b.cps.toList < a.cps.toList)))
  | _, _ => False
def oGt (x y : D) (Q : DK) : Prop := match x, y with
  | .int i, .int j => Q (.bl (decide (j < i)))
  | .str a, .str b => Q (.bl (decide (b.cps.toList < a.cps.toList)))
  | _, _ => False
def oGe (x y : D) (Q : DK) : Prop := match x, y with
  | .int i, .int j => Q (.bl (decide (j ≤ i)))
  | .str a, .str b => Q (.bl (!decide (a.cps.toList < b.cps.toList)))
  | _, _ => False
def isNon : D → Bool
  | .non => true
  | _ => false
def oIsN (x : D) (Q : DK) : Prop := Q (.bl (isNon x))
def oNotN (x : D) (Q : DK) : Prop := Q (.bl (!isNon x))
def oIs (x y : D) (Q : DK) : Prop := isNon y = true ∧ oIsN x Q
def oIsNot (x y : D) (Q : DK) : Prop := isNon y = true ∧ oNotN x Q
def oAddI (x y : D) (Q : DK) : Prop := match x, y with
  | .int i, .int j => Q (.int (i + j))
  | _, _ => False
def inD (x : D) (xs : List D) : Bool := xs.any fun y => eqD y x
/-- keys -/
def keyOf : D → Option Key
  | .int i => some (.inl i)
  | .str x => some (.inr x)
  | _ => none
def keysOf : List D → Option (List Key)
  | [] => some []
  | d :: r => match keyOf d, keysOf r with
    | some k, some ks => some (k :: ks)
    | _, _ => none
def dKey : Key → D
  | .inl i => .int i
  | .inr x => .str x
def lookD {κ : Type} [DecidableEq κ] (kvs : List (κ × D)) (k : κ) : Option D := (kvs.find? fun kv => decide (kv.1 = k)).map (·.2)
/-- in its place, or at the end -/
def putD {κ : Type} [DecidableEq κ] (kvs : List (κ × D)) (k : κ) (v : D) : List (κ × D) :=
  if (kvs.any fun kv => decide (kv.1 = k)) = true then kvs.map (fun kv => if kv.1 = k then (kv.1, v) else kv) else kvs ++ [(k, v)]
def oIn (x y : D) (Q : DK) : Prop := match y with
  | .lst xs => okD 60 x = true ∧ okDs 59 xs = true ∧ Q (.bl (inD x xs))
  | .tup xs => ((isFlat x = true ∧ xs.all isFlat = true) ∨ (okD 60 x = true ∧ okDs 59 xs = true)) ∧ Q (.bl (inD x xs))
  | .dk kvs => match keyOf x with
    | some k => Q (.bl (lookD kvs k).isSome)
    | none => False
  | _ => False
def neg1 (Q : DK) : DK := fun d => match d with
  | .bl b => Q (.bl (!b))
  | _ => False
def oNotIn (x y : D) (Q : DK) : Prop := oIn x y (neg1 Q)
/-- the place that an index means -/
def ixN (n : Nat) (i : Int) : Option Nat := if 0 ≤ i then (if i < n then some i.toNat else none) else if -(n : Int) ≤ i then some (i + n).toNat else none
def atI {α : Type} (xs : List α) (i : Int) : Option α := (ixN xs.length i).bind fun j => xs[j]?
def oGet (o : Option D) (Q : DK) : Prop := match o with
  | some d => Q d
  | none => False
def oIx (x y : D) (Q : DK) : Prop := match x, y with
  | .lst xs, .int i => oGet (atI xs i) Q
  | .tup xs, .int i => oGet (atI xs i) Q
  | .str z, .int i => z.length ≤ lineMax ∧ oGet ((atI z.cps.toList i).map fun c => .str ⟨#[c]⟩) Q
  | .dk kvs, y => match keyOf y with
    | some k => oGet (lookD kvs k) Q
    | none => False
  | _, _ => False
/-- the cut of a slice -/
def sIx (n d : Nat) : Option Int → Nat
  | none => d
  | some i => if i < 0 then (i + n).toNat else min i.toNat n
def cutL {α : Type} (xs : List α) (lo hi : Option Int) : List α := (xs.drop (sIx xs.length 0 lo)).take (sIx xs.length xs.length hi - sIx xs.length 0 lo)
def oCut (x : D) (lo hi : Option Int) (Q : DK) : Prop := match x with
  | .lst xs => Q (.lst (cutL xs lo hi))
  | .tup xs => Q (.tup (cutL xs lo hi))
  | .str z => z.length ≤ lineMax ∧ Q (.str ⟨(cutL z.cps.toList lo hi).toArray⟩)
  | _ => False

/-! ### expressions -/
def dVar (i : Nat) : DT := fun _ ρ Q => match ρ[i]? with
  | some (.v d) => Q d
  | _ => False
def dC (d : D) : DT := fun _ _ Q => Q d
def dOp (f : D → D → DK → Prop) (a b : DT) : DT := fun E ρ Q => a E ρ fun x => b E ρ fun y => f x y Q
def dUn (f : D → DK → Prop) (a : DT) : DT := fun E ρ Q => a E ρ fun x => f x Q
/-- a < b < c -/
def dChain (f g : D → D → DK → Prop) (a b c : DT) : DT := fun E ρ Q => a E ρ fun x => b E ρ fun y => f x y fun z => match z with
  | .bl k => if k = true then c E ρ fun u => g y u Q else Q (.bl false)
  | _ => False
def aNil : DA := fun _ _ Q => Q []
def aCons (a : DT) (r : DA) : DA := fun E ρ Q => a E ρ fun x => r E ρ fun xs => Q (x :: xs)
def dTup (a : DA) : DT := fun E ρ Q => a E ρ fun xs => xs.length ≤ lineMax ∧ Q (.tup xs)
def dLst (a : DA) : DT := fun E ρ Q => a E ρ fun xs => xs.length ≤ lineMax ∧ Q (.lst xs)
/-- what a def gives, and all that follows from it -/
def up (W : DF) : DF := fun ds Q E => ∃ Q' E', W ds Q' E' ∧ (∀ d, Q' d → Q d) ∧ ∀ e, E' e → E e
theorem up.of {W : DF} {ds : List D} {Q : DK} {E : Err → Prop} (h : W ds Q E) : up W ds Q E := ⟨Q, E, h, fun _ q => q, fun _ q => q⟩
theorem up.mono {W : DF} {ds : List D} {Q Q' : DK} {E E' : Err → Prop} (h : up W ds Q E) (hq : ∀ d, Q d → Q' d) (he : ∀ e, E e → E' e) : up W ds Q' E' := by
  obtain ⟨Q1, E1, h, a, b⟩ := h
  exact ⟨Q1, E1, h, fun d q => hq d (a d q), fun e q => he e (b e q)⟩
/-- a recursive def, by the depth of its calls -/
def upN (G : Nat → DF) (N : Nat) : DF := fun ds Q E => ∃ n, n ≤ N ∧ G n ds Q E
def dCall (W : DF) (a : DA) : DT := fun E ρ Q => a E ρ fun xs => up W xs Q fun e => E e ρ
/-- a call of a built-in by values -/
def dBlt (f : List D → DK → Prop) (a : DA) : DT := fun E ρ Q => a E ρ fun xs => f xs Q
def bT (a : DT) : DB := fun E ρ Q => a E ρ fun x => match x with
  | .bl b => Q b
  | _ => False
def truthD (x : D) (Q : Bool → Prop) : Prop := match x with
  | .bl b => Q b
  | .non => Q false
  | .int i => Q (i != 0)
  | .str z => z.length ≤ lineMax ∧ Q (z.length != 0)
  | .lst xs => Q (!xs.isEmpty)
  | .tup xs => Q (!xs.isEmpty)
  | .dk kvs => Q (!kvs.isEmpty)
  | _ => False
def bTruth (a : DT) : DB := fun E ρ Q => a E ρ fun x => truthD x Q
def bAnd (a b : DB) : DB := fun E ρ Q => a E ρ fun c => if c = true then b E ρ Q else Q false
def bOr (a b : DB) : DB := fun E ρ Q => a E ρ fun c => if c = true then Q true else b E ρ Q
def bNot (a : DB) : DB := fun E ρ Q => a E ρ fun c => Q (!c)
def dAndV (a b : DT) : DT := fun E ρ Q => a E ρ fun x => match x with
  | .bl c => if c = true then b E ρ Q else Q (.bl false)
  | _ => False
def dOrV (a b : DT) : DT := fun E ρ Q => a E ρ fun x => match x with
  | .bl c => if c = true then Q (.bl true) else b E ρ Q
  | _ => False
def dNotV (a : DT) : DT := fun E ρ Q => a E ρ fun x => match x with
  | .bl c => Q (.bl (!c))
  | _ => False
def dIf (c : DB) (a b : DT) : DT := fun E ρ Q => c E ρ fun k => if k = true then a E ρ Q else b E ρ Q
def oN : DO := fun _ _ Q => Q none
def oS (a : DT) : DO := fun E ρ Q => a E ρ fun x => match x with
  | .int i => Q (some i)
  | _ => False
def dSlice (a : DT) (lo hi : DO) : DT := fun E ρ Q => a E ρ fun x => lo E ρ fun l => hi E ρ fun h => oCut x l h Q

/-! ### what is walked -/
def rng (lo : Int) (n : Nat) : List D := (List.range n).map fun k => .int (lo + (k : Nat))
def rngC (lo c : Int) (n : Nat) : List D := (List.range n).map fun k => .int (lo + (k : Nat) * c)
def iSeq (a : DT) : DI := fun E ρ Q => a E ρ fun x => match x with
  | .lst xs => Q xs
  | .tup xs => Q xs
  | .str z => Q (z.cps.toList.map fun c => .str ⟨#[c]⟩)
  | _ => False
def iRng1 (a : DA) : DI := fun E ρ Q => a E ρ fun xs => match xs with
  | [.int j] => -(2 ^ 62) ≤ j ∧ j < 2 ^ 62 ∧ Q (rng 0 j.toNat)
  | _ => False
def iRng2 (a : DA) : DI := fun E ρ Q => a E ρ fun xs => match xs with
  | [.int i, .int j] => (-(2 ^ 62) ≤ i ∧ i < 2 ^ 62 ∧ -(2 ^ 62) ≤ j ∧ j < 2 ^ 62) ∧ Q (rng i (j - i).toNat)
  | _ => False

/-- enumerate, zip, reversed -/
def enumD (xs : List D) : List D := xs.zipIdx.map fun p => .tup [.int (p.2 : Nat), p.1]
def zipD (xs ys : List D) : List D := (xs.zip ys).map fun p => .tup [p.1, p.2]
def iEnum (a : DA) : DI := fun E ρ Q => a E ρ fun xs => match xs with
  | [.lst xs] => Q (enumD xs)
  | _ => False
def iZip (a : DA) : DI := fun E ρ Q => a E ρ fun xs => match xs with
  | [.lst xs, .lst ys] => Q (zipD xs ys)
  | [.tup xs, .tup ys] => Q (zipD xs ys)
  | _ => False
def iRev (a : DT) : DI := fun E ρ Q => a E ρ fun x => match x with
  | .lst xs => Q xs.reverse
  | .tup xs => Q xs.reverse
  | _ => False

/-! ### targets -/
def gName (i : Nat) : DG := fun d ρ Q => Q (ρ.set i (.v d))
def gNil : DGs := fun xs ρ Q => xs = [] ∧ Q ρ
def gCons (g : DG) (r : DGs) : DGs := fun xs ρ Q => match xs with
  | x :: ys => g x ρ fun ρ' => r ys ρ' Q
  | [] => False
def gTup (g : DGs) : DG := fun d ρ Q => match d with
  | .tup xs => g xs ρ Q
  | .lst xs => g xs ρ Q
  | _ => False

/-! ### statements -/
def sNext : DS := fun _ K ρ => K.nx ρ
def sSeq (a b : DS) : DS := fun E K ρ => a E { K with nx := b E K } ρ
def sBreak : DS := fun _ K ρ => K.bk ρ
def sCont : DS := fun _ K ρ => K.ct ρ
def sDrop (a : DT) : DS := fun E K ρ => a E ρ fun _ => K.nx ρ
def sRet (a : DT) : DS := fun E K ρ => a E ρ K.rt
def sRetN : DS := fun _ K _ => K.rt .non
/-- return e, where the own slots still count -/
def sRetX (a : DT) : DS := fun E K ρ => a E ρ fun d => K.ro d ρ
def sRetNX : DS := fun _ K ρ => K.ro .non ρ
def sIf (c : DB) (a b : DS) : DS := fun E K ρ => c E ρ fun k => if k = true then a E K ρ else b E K ρ
def sAsg (a : DT) (g : DG) : DS := fun E K ρ => a E ρ fun x => g x ρ K.nx
def sSet (i : Nat) (a : DT) : DS := fun E K ρ => a E ρ fun x => K.nx (ρ.set i (.v x))
/-- a new list (or dict) of the def's own, kept to be changed -/
def sOwn (i : Nat) (a : DT) : DS := fun E K ρ => a E ρ fun x => K.nx (ρ.set i (.o x))
/-- what slot i holds changes no more -/
def frz (i : Nat) (ρ : Env) : Env := match ρ[i]? with
  | some (.o d) => ρ.set i (.v d)
  | _ => ρ
def sFrz (i : Nat) (a : DS) : DS := fun E K ρ => a E K (frz i ρ)
/-- the slots js are forgotten -/
def fgt (js : List Nat) (ρ : Env) : Env := js.foldl (fun ρ j => ρ.set j .no) ρ
def sFgt (js : List Nat) (a : DS) : DS := fun E K ρ => a E K (fgt js ρ)
def sPar (i j : Nat) (a : DA) : DS := fun E K ρ => a E ρ fun xs => match xs with
  | [x, y] => K.nx ((ρ.set i (.v x)).set j (.v y))
  | _ => False
def sAug (i : Nat) (f : D → D → DK → Prop) (a : DT) : DS := fun E K ρ => match ρ[i]? with
  | some (.v x) => a E ρ fun y => f x y fun z => K.nx (ρ.set i (.v z))
  | _ => False
/-- xs.append(e) -/
def sApp (i : Nat) (a : DT) : DS := fun E K ρ => match ρ[i]? with
  | some (.o (.lst xs)) => a E ρ fun x => xs.length < lineMax ∧ K.nx (ρ.set i (.o (.lst (xs ++ [x]))))
  | _ => False
/-- one turn after another, over what is left -/
def forL (g : DG) (b : DS) (E : EK) (K : DE) : List D → Env → Prop
  | [], ρ => K.nx ρ
  | x :: r, ρ => g x ρ fun ρ' => b E { nx := forL g b E K r, ct := forL g b E K r, bk := K.nx, rt := K.rt, ro := K.ro } ρ'
def sFor (it : DI) (g : DG) (b : DS) : DS := fun E K ρ => it E ρ fun xs => forL g b E K xs ρ
def whileN (c : DB) (b : DS) (E : EK) (K : DE) : Nat → Env → Prop
  | 0, _ => False
  | n + 1, ρ => c E ρ fun k => if k = true then b E { nx := whileN c b E K n, ct := whileN c b E K n, bk := K.nx, rt := K.rt, ro := K.ro } ρ else K.nx ρ
def sWhile (c : DB) (b : DS) : DS := fun E K ρ => ∃ n, whileN c b E K n ρ
/-- a def: its parameters in the first slots, the rest empty -/
def envOf (n : Nat) (ds : List D) : Env := ds.map Sl.v ++ List.replicate (n - ds.length) .no
def defT (np n : Nat) (b : DS) : DF := fun ds Q E => ds.length = np ∧ b (fun e _ => E e) { nx := fun _ => Q .non, rt := Q } (envOf n ds)
/-- a list comprehension: own slots wiped, one turn after another -/
def wipeE (ρ : Env) (vs : List Nat) : Env := vs.foldl (fun ρ j => ρ.set j .no) ρ
def noE : EK := fun _ _ => False
def lcL (g : DG) (t : DB) (e : DT) (ρ : Env) : List D → List D → (List D → Prop) → Prop
  | [], acc, Q => Q acc
  | x :: r, acc, Q => g x ρ fun ρ' => t noE ρ' fun k => if k = true then e noE ρ' fun y => acc.length < lineMax ∧ lcL g t e ρ r (acc ++ [y]) Q else lcL g t e ρ r acc Q
/-- a def's own objects are not seen in a comprehension -/
def noOwn (ρ : Env) : Env := ρ.map fun s => match s with
  | .v d => .v d
  | _ => .no
def dLc (it : DI) (g : DG) (t : DB) (e : DT) (vs : List Nat) : DT := fun E ρ Q => it E ρ fun xs => lcL g t e (noOwn (wipeE ρ vs)) xs [] fun r => Q (.lst r)
def bYes : DB := fun _ _ Q => Q true

/-! ### built-ins -/
def intsOf : List D → Option (List Int)
  | [] => some []
  | .int i :: r => (intsOf r).map fun ns => i :: ns
  | _ :: _ => none
def blsOf : List D → Option (List Bool)
  | [] => some []
  | .bl i :: r => (blsOf r).map fun ns => i :: ns
  | _ :: _ => none
def fLen (xs : List D) (Q : DK) : Prop := match xs with
  | [.lst l] => Q (.int l.length)
  | [.tup l] => Q (.int l.length)
  | [.str z] => z.length ≤ lineMax ∧ Q (.int z.length)
  | [.dk l] => Q (.int l.length)
  | [.scr ns] => Q (.int ns.length)
  | _ => False
def fAbs (xs : List D) (Q : DK) : Prop := match xs with
  | [.int i] => Q (.int (if i < 0 then -i else i))
  | _ => False
def fGcd (xs : List D) (Q : DK) : Prop := match xs with
  | [.int i, .int j] => Q (.int ((Nat.gcd i.natAbs j.natAbs : Nat) : Int))
  | _ => False
def fMin (xs : List D) (Q : DK) : Prop := match xs with
  | [.int i, .int j] => Q (.int (if j < i then j else i))
  | [.lst l] => match intsOf l with
    | some ns => ns ≠ [] ∧ ∀ m, m ∈ ns → (∀ y ∈ ns, m ≤ y) → Q (.int m)
    | none => False
  | _ => False
def fMax (xs : List D) (Q : DK) : Prop := match xs with
  | [.int i, .int j] => Q (.int (if j > i then j else i))
  | [.lst l] => match intsOf l with
    | some ns => ns ≠ [] ∧ ∀ m, m ∈ ns → (∀ y ∈ ns, y ≤ m) → Q (.int m)
    | none => False
  | _ => False
def fSum (xs : List D) (Q : DK) : Prop := match xs with
  | [.lst l] => match intsOf l with
    | some ns => Q (.int ns.sum)
    | none => False
  | [.tup l] => match intsOf l with
    | some ns => Q (.int ns.sum)
    | none => False
  | _ => False
def fAll (xs : List D) (Q : DK) : Prop := match xs with
  | [.lst l] => match blsOf l with
    | some ns => Q (.bl (ns.all id))
    | none => False
  | _ => False
def fAny (xs : List D) (Q : DK) : Prop := match xs with
  | [.lst l] => match blsOf l with
    | some ns => Q (.bl (ns.any id))
    | none => False
  | _ => False
/-- sorted ints: the one ascending arrangement -/
def keyD : Key → D
  | .inl i => .int i
  | .inr x => .str x
/-- a dict's keys, all ints -/
def ikeys : List (Key × D) → Option (List Int)
  | [] => some []
  | (.inl i, _) :: r => (ikeys r).map (i :: ·)
  | _ => none
def pairD (p : Int × Int) : D := .tup [.int p.1, .int p.2]
/-- a list of pairs of ints -/
def pair1 : D → Option (Int × Int)
  | .tup [.int i, .int j] => some (i, j)
  | _ => none
def pairsOf : List D → Option (List (Int × Int))
  | [] => some []
  | x :: r => (pair1 x).bind fun p => (pairsOf r).map (p :: ·)
theorem pair1_eq {x : D} {p : Int × Int} (h : pair1 x = some p) : x = pairD p := by
  unfold pair1 at h
  split at h
  · cases h; rfl
  · cases h
def lexLe (p q : Int × Int) : Prop := p.1 < q.1 ∨ (p.1 = q.1 ∧ p.2 ≤ q.2)
def fSorted (xs : List D) (Q : DK) : Prop := match xs with
  | [.lst l] => match intsOf l with
    | some ns => ∀ ns' : List Int, ns'.Perm ns → ns'.Pairwise (· ≤ ·) → Q (.lst (ns'.map .int))
    | none => match pairsOf l with
      | some ps => ∀ ps' : List (Int × Int), ps'.Perm ps → ps'.Pairwise lexLe → Q (.lst (ps'.map pairD))
      | none => False
  | [.dk kvs] => match ikeys kvs with
    | some ns => ns.length < 64 ∧ ∀ ns' : List Int, ns'.Perm ns → ns'.Pairwise (· ≤ ·) → Q (.lst (ns'.map .int))
    | none => False
  | _ => False
/-- sorted(set(xs)): the ascending list of the same numbers -/
def fSetSorted (xs : List D) (Q : DK) : Prop := match xs with
  | [.lst l] => match intsOf l with
    | some ns => ns.length ≤ 4000 ∧ ∀ ys : List Int, ys.Pairwise (· < ·) → (∀ j, j ∈ ys ↔ j ∈ ns) → Q (.lst (ys.map .int))
    | none => False
  | _ => False
def fList (xs : List D) (Q : DK) : Prop := match xs with
  | [.lst l] => Q (.lst l)
  | [.tup l] => Q (.lst l)
  | [.dk kvs] => Q (.lst (kvs.map fun kv => keyD kv.1))
  | [.scr ns] => Q (.lst (ns.map .int))
  | _ => False
def fTuple (xs : List D) (Q : DK) : Prop := match xs with
  | [.lst l] => Q (.tup l)
  | [.tup l] => Q (.tup l)
  | _ => False
def fInt (xs : List D) (Q : DK) : Prop := match xs with
  | [.int i] => Q (.int i)
  | [.bl b] => Q (.int (if b then 1 else 0))
  | _ => False
def fStr (xs : List D) (Q : DK) : Prop := match xs with
  | [.int i] => i.natAbs.log2 < 1920 ∧ Q (.str (Str.ofString (toString i)))
  | _ => False
def fDivmod (xs : List D) (Q : DK) : Prop := match xs with
  | [.int i, .int j] => (0 < j ∧ j < 1073741824) ∧ Q (.tup [.int (i / j), .int (i % j)])
  | _ => False
def tyName : D → String
  | .non => "NoneType"
  | .bl _ => "bool"
  | .int _ => "int"
  | .str _ => "str"
  | .tup _ => "tuple"
  | .lst _ => "list"
  | .dk _ => "dict"
  | _ => ""
/-- isinstance against one of int, bool, str, tuple, list, dict -/
def isTy (c : String) (d : D) : Bool := tyName d == c || (tyName d == "bool" && c == "int")
def dIsi (c : String) (a : DT) : DT := fun E ρ Q => a E ρ fun d => tyName d ≠ "" ∧ Q (.bl (isTy c d))
/-- own objects are only looked at, the answer is flat -/
def bor (ρ : Env) : Env := ρ.map fun s => match s with
  | .o d => .v d
  | s => s
def dBor (a : DT) : DT := fun _ ρ Q => a noE (bor ρ) fun d => isFlat d = true ∧ Q d
/-- xs[i] of a list of the def's own -/
def dIxO (i : Nat) (a : DT) : DT := fun E ρ Q => match ρ[i]? with
  | some (.o (.lst xs)) => a E ρ fun y => match y with
    | .int k => oGet (atI xs k) Q
    | _ => False
  | _ => False
/-- list(xs), tuple(xs) of a list of the def's own, which stays its own -/
def dListO (i : Nat) : DT := fun _ ρ Q => match ρ[i]? with
  | some (.o (.lst xs)) => Q (.lst xs)
  | _ => False
def dTupleO (i : Nat) : DT := fun _ ρ Q => match ρ[i]? with
  | some (.o (.lst xs)) => Q (.tup xs)
  | _ => False
/-- a test in which own objects are only looked at -/
def bBor (a : DB) : DB := fun _ ρ Q => a noE (bor ρ) Q
/-! the laws' own draws -/
def wStart : DF := fun ds Q _ => match ds with
  | [.scr ns] => ns.length ≤ 63 ∧ Q .st
  | _ => False
def wDraw : DF := fun ds Q _ => match ds with
  | [.st, .int b] => 0 < b ∧ b.natAbs.log2 < 9000 ∧ ∀ r, 0 ≤ r → r < b → Q (.int r)
  | _ => False
/-! instances -/
def putFD (f : Str) (v : D) : List (Str × D) → List (Str × D)
  | [] => [(f, v)]
  | (g, x) :: r => if g = f then (g, v) :: r else (g, x) :: putFD f v r
/-- x.f -/
def dFld (c : String) (f : Str) (a : DT) : DT := fun E ρ Q => a E ρ fun x => match x with
  | .ins c' fs => c' = c ∧ oGet (fs.lookup f) Q
  | _ => False
/-- self.f = value, self being made -/
def sFldO (c : String) (i : Nat) (f : Str) (a : DT) : DS := fun E K ρ => match ρ[i]? with
  | some (.o (.ins c' fs)) => c' = c ∧ a E ρ fun v => fs.length < 1000 ∧ K.nx (ρ.set i (.o (.ins c (putFD f v fs))))
  | _ => False
/-- x.m(..), nothing let out -/
def dMeth (c : String) (m : Str) (W : DF) (a : DT) (r : DA) : DT := fun E ρ Q => a E ρ fun x => match x with
  | .ins c' fs => c' = c ∧ fs.lookup m = none ∧ r E ρ fun xs => up W (.ins c' fs :: xs) Q fun _ => False
  | _ => False
/-- C(..), nothing let out -/
def dMake (W : DF) (r : DA) : DT := fun E ρ Q => r E ρ fun xs => up W xs Q fun _ => False
/-- what __init__ makes -/
def madeQ (Q : DK) (ρ : Env) : Prop := match ρ[(0 : Nat)]? with
  | some (.o (.ins c fs)) => Q (.ins c fs)
  | _ => False
def mkT (c : String) (np n : Nat) (b : DS) : DF := fun ds Q E => ds.length + 1 = np ∧ b (fun e _ => E e) { nx := madeQ Q, rt := fun _ => False } ((envOf n (.non :: ds)).set 0 (.o (.ins c [])))
/-! ### own lists and dicts changed -/
def gOL (o : Option Sl) (Q : List D → Prop) : Prop := match o with
  | some (.o (.lst xs)) => Q xs
  | _ => False
def gOD (o : Option Sl) (Q : List (Key × D) → Prop) : Prop := match o with
  | some (.o (.dk xs)) => Q xs
  | _ => False
def gI (d : D) (Q : Int → Prop) : Prop := match d with
  | .int b => Q b
  | _ => False
def gK (d : D) (Q : Key → Prop) : Prop := match keyOf d with
  | some k => Q k
  | none => False
def gSm {α : Type} (o : Option α) (Q : α → Prop) : Prop := match o with
  | some k => Q k
  | none => False
/-- an own list's method, its value dropped -/
def sLop (f : List D → List D → (List D → Prop) → Prop) (i : Nat) (a : DA) : DS := fun E K ρ => gOL ρ[i]? fun xs => a E ρ fun ys => f xs ys fun zs => K.nx (ρ.set i (.o (.lst zs)))
def lExt (xs ys : List D) (Q : List D → Prop) : Prop := match ys with
  | [.lst zs] => xs.length + zs.length ≤ lineMax ∧ Q (xs ++ zs)
  | _ => False
def lIns (xs ys : List D) (Q : List D → Prop) : Prop := match ys with
  | [.int k, y] => (xs.length < lineMax ∧ 0 ≤ k ∧ k < 2 ^ 63) ∧ Q (xs.take k.toNat ++ [y] ++ xs.drop k.toNat)
  | _ => False
def lRev (xs ys : List D) (Q : List D → Prop) : Prop := ys = [] ∧ Q xs.reverse
def lClr (xs ys : List D) (Q : List D → Prop) : Prop := ys = [] ∧ Q []
/-- pop: what is given, what is left -/
def lPop0 (xs : List D) (Q : D → List D → Prop) : Prop := gSm xs[xs.length - 1]? fun y => Q y xs.dropLast
def lPop1 (xs : List D) (k : Int) (Q : D → List D → Prop) : Prop := (-(2 ^ 63) ≤ k ∧ k < 2 ^ 63) ∧ gSm (ixN xs.length k) fun j => gSm xs[j]? fun y => Q y (xs.eraseIdx j)
def lPop (xs ys : List D) (Q : D → List D → Prop) : Prop := match ys with
  | [] => lPop0 xs Q
  | [.int k] => lPop1 xs k Q
  | _ => False
/-- xs.pop(..) -/
def sPop (i : Nat) (a : DA) : DS := fun E K ρ => gOL ρ[i]? fun xs => a E ρ fun ys => lPop xs ys fun _ zs => K.nx (ρ.set i (.o (.lst zs)))
/-- y = xs.pop(..) -/
def sPopTo (i j : Nat) (a : DA) : DS := fun E K ρ => gOL ρ[i]? fun xs => a E ρ fun ys => lPop xs ys fun y zs => K.nx ((ρ.set i (.o (.lst zs))).set j (.v y))
/-- xs.append(xs.pop(..)) -/
def sPopApp (i : Nat) (a : DA) : DS := fun E K ρ => gOL ρ[i]? fun xs => a E ρ fun ys => lPop xs ys fun y zs => zs.length < lineMax ∧ K.nx (ρ.set i (.o (.lst (zs ++ [y]))))
/-- xs[i] = v -/
def sSetIx (i : Nat) (a b : DT) : DS := fun E K ρ => gOL ρ[i]? fun xs => b E ρ fun v => a E ρ fun k => gI k fun k => gSm (ixN xs.length k) fun j => K.nx (ρ.set i (.o (.lst (xs.set j v))))
/-- xs[i] += v -/
def sAugIx (f : D → D → DK → Prop) (i : Nat) (a b : DT) : DS := fun E K ρ => gOL ρ[i]? fun xs => a E ρ fun k => gI k fun k => gSm (ixN xs.length k) fun j => gSm xs[j]? fun x => b E ρ fun y => f x y fun z => K.nx (ρ.set i (.o (.lst (xs.set j z))))
/-- {} -/
def dNewK : DT := fun _ _ Q => Q (.dk [])
/-- d[k] = v -/
def sPutK (i : Nat) (a b : DT) : DS := fun E K ρ => gOD ρ[i]? fun kvs => b E ρ fun v => a E ρ fun k => gK k fun k => kvs.length < 1000000 ∧ K.nx (ρ.set i (.o (.dk (putD kvs k v))))
/-- d[k] of an own dict -/
def dIxK (i : Nat) (a : DT) : DT := fun E ρ Q => gOD ρ[i]? fun kvs => a E ρ fun k => gK k fun k => oGet (lookD kvs k) Q
def gDk (d : D) (Q : List (Key × D) → Prop) : Prop := match d with
  | .dk kvs => Q kvs
  | _ => False
/-- x.get(k), x.get(k, d) -/
def dGetK1 (a b : DT) : DT := fun E ρ Q => a E ρ fun x => gDk x fun kvs => b E ρ fun k => gK k fun k => Q ((lookD kvs k).getD .non)
def dGetK2 (a b c : DT) : DT := fun E ρ Q => a E ρ fun x => gDk x fun kvs => b E ρ fun k => c E ρ fun z => gK k fun k => Q ((lookD kvs k).getD z)
/-- {k: v, ..} -/
def keyV : List (D × D) → Option (List (Key × D))
  | [] => some []
  | (k, v) :: r => match keyOf k, keyV r with
    | some k, some kvs => some ((k, v) :: kvs)
    | _, _ => none
def mergeD (kvs : List (Key × D)) : List (Key × D) := kvs.foldl (fun acc p => putD acc p.1 p.2) []
def DPs := EK → Env → (List (D × D) → Prop) → Prop
def pNil : DPs := fun _ _ Q => Q []
def pCons (a b : DT) (r : DPs) : DPs := fun E ρ Q => a E ρ fun x => b E ρ fun y => r E ρ fun ps => Q ((x, y) :: ps)
def dDisp (a : DPs) : DT := fun E ρ Q => a E ρ fun ps => gSm (keyV ps) fun kvs => ps.length ≤ 15 ∧ Q (.dk (mergeD kvs))
/-! a def that gives a new list of its own -/
def gO (o : Option Sl) (Q : DK) : Prop := match o with
  | some (.o d) => Q d
  | _ => False
def sRetO (i : Nat) : DS := fun _ K ρ => gO ρ[i]? K.rt
def defF (np n : Nat) (b : DS) : DF := fun ds Q E => ds.length = np ∧ b (fun e _ => E e) { nx := fun _ => False, rt := Q } (envOf n ds)
/-! a def that changes the list or dict that stands at its parameter j: what is given, what stands there then -/
def dPair (d o : D) : D := .tup [d, o]
def defX (j np n : Nat) (b : DS) : DF := fun ds Q E => ds.length = np ∧ b (fun e _ => E e) { nx := fun ρ => gO ρ[j]? fun o => Q (dPair .non o), rt := fun _ => False, ro := fun d ρ => gO ρ[j]? fun o => Q (dPair d o) } ((envOf n ds).set j (.o (ds.getD j .non)))
/-- the arguments, the own thing of slot i among them -/
def aOwn (i : Nat) (r : DA) : DA := fun E ρ Q => gO ρ[i]? fun d => r E ρ fun xs => Q (d :: xs)
def gPair (d : D) (Q : D → D → Prop) : Prop := match d with
  | .tup [x, y] => Q x y
  | _ => False
/-- f(.., x, ..) of the own thing x of slot i, its value dropped; kept in slot k -/
def sCallX (i : Nat) (W : DF) (a : DA) : DS := fun E K ρ => a E ρ fun xs => up W xs (fun r => gPair r fun _ o => K.nx (ρ.set i (.o o))) fun e => E e (ρ.set i .no)
def sCallXTo (i k : Nat) (W : DF) (a : DA) : DS := fun E K ρ => a E ρ fun xs => up W xs (fun r => gPair r fun d o => K.nx ((ρ.set i (.o o)).set k (.v d))) fun e => E e (ρ.set i .no)
/-- what an own error may carry -/
def okE : D → Prop
  | .str x => x.length ≤ 1000 ∧ ∀ c ∈ x.cps.toList, c < 16 ^ 8
  | .int i => i.natAbs.log2 < 1920
  | _ => False
def sRaise (c : String) (fs : List Str) (a : DA) : DS := fun E _ ρ => a E ρ fun xs => xs.length = fs.length ∧ (∀ x ∈ xs, okE x) ∧ E ⟨c, (fs.zip xs).reverse⟩ ρ
/-- try: b, except one of ms: s; the others, of os, go on -/
def sTry (ms os : List String) (b s : DS) : DS := fun E B ρ => b (fun e ρ' => if e.cls ∈ ms then s noE B ρ' else e.cls ∈ os ∧ E e ρ') B ρ
/-- try: b, except m as n: return n.f; n's slot is i -/
def sTryR (m : String) (os : List String) (i : Nat) (f : Str) (b : DS) : DS := fun E B ρ => b (fun e ρ' => if e.cls = m then i < ρ'.length ∧ (match e.fs.lookup f with | some d => B.rt d | none => False) else e.cls ∈ os ∧ E e ρ') B ρ
/-- the keys of an own dict, walked -/
def iKeyO (i : Nat) : DI := fun _ ρ Q => gOD ρ[i]? fun kvs => Q (kvs.map fun kv => keyD kv.1)
end DL

/-! DWalk: the transformers of DCore are sound for the hand layer's readings. -/
namespace DL
open PySem L2

abbrev Fg := PySem.W.Frag
/-- the tables of code objects, and the name of the lambdas whose code objects stand in each -/
class TN where
  ts : List Addr
  nm : Addr → Str
variable [TN]
/-- the text's names of classes and defs; what stands at a drawing state's address a: its cells at c, n of them -/
structure Cl where
  nm : String → Option Addr
  so : Bool × (Addr → Addr → Nat → HO)
  /-- the instance that is being made -/
  me : Option Addr := none
  /-- what is given back is a new object of the def's own -/
  fr : Bool := false
  /-- the own things that stand at parameters -/
  pin : Nat → Option Addr := fun _ => none
  /-- the tables of code objects -/
  tabs : List Addr := []

/-! ### what a value represents in a frozen heap -/
mutual
inductive Rep (K : Fg) (cl : Cl) (F : Hp) : V → D → Prop
  | non : Rep K cl F .non .non
  | bl (b : Bool) : Rep K cl F (.bl b) (.bl b)
  | int (i : Int) : Rep K cl F (.int i) (.int i)
  | str (x : Str) : Rep K cl F (.str x) (.str x)
  | tup {a : Addr} {vs : List V} {ds : List D} : SqT K F a vs → Reps K cl F vs ds → Rep K cl F (.ref a) (.tup ds)
  | lst {a : Addr} {vs : List V} {ds : List D} : F a = some (.lst vs) → Reps K cl F vs ds → Rep K cl F (.ref a) (.lst ds)
  | dk {a : Addr} {ws : List (L2.Key × V)} {kvs : List (DL.Key × D)} : F a = some (.dK ws) → KReps K cl F ws kvs → Rep K cl F (.ref a) (.dk kvs)
  | dt {a : Addr} {ws : List (List L2.Key × V)} {kvs : List (List DL.Key × D)} : F a = some (.dT ws) → TReps K cl F ws kvs → Rep K cl F (.ref a) (.dt kvs)
  | ins {a C dx : Addr} {ws : List (Str × V)} {c : String} {kvs : List (Str × D)} : cl.nm c = some C → F a = some (.ins C dx ws) → F dx = some (.own a) → FReps K cl F ws kvs → Rep K cl F (.ref a) (.ins c kvs)
  | st {a c : Addr} {ns : List Int} : F a = some (cl.so.2 a c ns.length) → (cl.so.1 = true → F c = some (.lst (ns.map V.int))) → (∀ n ∈ ns, 0 ≤ n) → Rep K cl F (.ref a) .st
  | scr {a : Addr} {ns : List Int} : SqL K F a (ns.map V.int) → Rep K cl F (.ref a) (.scr ns)
  | fn {a : Addr} {x : String} : cl.nm x = some a → Rep K cl F (.ref a) (.fn x)
inductive Reps (K : Fg) (cl : Cl) (F : Hp) : List V → List D → Prop
  | nil : Reps K cl F [] []
  | cons {v : V} {d : D} {vs : List V} {ds : List D} : Rep K cl F v d → Reps K cl F vs ds → Reps K cl F (v :: vs) (d :: ds)
inductive KReps (K : Fg) (cl : Cl) (F : Hp) : List (L2.Key × V) → List (DL.Key × D) → Prop
  | nil : KReps K cl F [] []
  | cons {k : L2.Key} {v : V} {d : D} {vs : List (L2.Key × V)} {ds : List (DL.Key × D)} : Rep K cl F v d → KReps K cl F vs ds → KReps K cl F ((k, v) :: vs) ((k, d) :: ds)
inductive TReps (K : Fg) (cl : Cl) (F : Hp) : List (List L2.Key × V) → List (List DL.Key × D) → Prop
  | nil : TReps K cl F [] []
  | cons {k : List L2.Key} {v : V} {d : D} {vs : List (List L2.Key × V)} {ds : List (List DL.Key × D)} : Rep K cl F v d → TReps K cl F vs ds → TReps K cl F ((k, v) :: vs) ((k, d) :: ds)
inductive FReps (K : Fg) (cl : Cl) (F : Hp) : List (Str × V) → List (Str × D) → Prop
  | nil : FReps K cl F [] []
  | cons {k : Str} {v : V} {d : D} {vs : List (Str × V)} {ds : List (Str × D)} : Rep K cl F v d → FReps K cl F vs ds → FReps K cl F ((k, v) :: vs) ((k, d) :: ds)
end
theorem same_t {K : Fg} {H H' : Hp} {a : Addr} {xs : List V} (e : Same H H') (h : SqT K H a xs) : SqT K H' a xs := by
  rcases h with (h | ⟨o, h⟩) | h
  · exact .inl (.inl (e _ _ h))
  · exact .inl (.inr ⟨o, e _ _ h⟩)
  · exact .inr h
section
variable {K : Fg} {cl : Cl} {F F' : Hp}
mutual
theorem Rep.mono (e : Same F F') : ∀ {v : V} {d : D}, Rep K cl F v d → Rep K cl F' v d
  | _, _, .non => .non
  | _, _, .bl b => .bl b
  | _, _, .int b => .int b
  | _, _, .str b => .str b
  | _, _, .tup h r => .tup (same_t e h) (Reps.mono e r)
  | _, _, .lst h r => .lst (e _ _ h) (Reps.mono e r)
  | _, _, .dk h r => .dk (e _ _ h) (KReps.mono e r)
  | _, _, .dt h r => .dt (e _ _ h) (TReps.mono e r)
  | _, _, .ins c h g r => .ins c (e _ _ h) (e _ _ g) (FReps.mono e r)
  | _, _, .st h g z => .st (e _ _ h) (fun t => e _ _ (g t)) z
  | _, _, .scr h => .scr (e.seq h)
  | _, _, .fn h => .fn h
theorem Reps.mono (e : Same F F') : ∀ {vs : List V} {ds : List D}, Reps K cl F vs ds → Reps K cl F' vs ds
  | _, _, .nil => .nil
  | _, _, .cons h r => .cons (Rep.mono e h) (Reps.mono e r)
theorem KReps.mono (e : Same F F') : ∀ {vs : List (L2.Key × V)} {ds : List (DL.Key × D)}, KReps K cl F vs ds → KReps K cl F' vs ds
  | _, _, .nil => .nil
  | _, _, .cons h r => .cons (Rep.mono e h) (KReps.mono e r)
theorem TReps.mono (e : Same F F') : ∀ {vs : List (List L2.Key × V)} {ds : List (List DL.Key × D)}, TReps K cl F vs ds → TReps K cl F' vs ds
  | _, _, .nil => .nil
  | _, _, .cons h r => .cons (Rep.mono e h) (TReps.mono e r)
theorem FReps.mono (e : Same F F') : ∀ {vs : List (Str × V)} {ds : List (Str × D)}, FReps K cl F vs ds → FReps K cl F' vs ds
  | _, _, .nil => .nil
  | _, _, .cons h r => .cons (Rep.mono e h) (FReps.mono e r)
end
end

/-! ### growth -/
/-- a table whose code objects are all of a kind -/
def TabC (C : Addr → Prop) (H : Hp) (P : Addr) : Prop := ∃ ps : Array Value, H P = some (.tbl ps) ∧ TriplesOk ps.toList ∧ ∀ (pos : Pos) (cv : Value), codeAmong pos ps.toList = some cv → ∃ c, cv = .ref c ∧ C c
theorem TabC.of {C : Addr → Prop} {H H' : Hp} {P : Addr} (t : TabC C H P) (e : ∀ ps, H P = some (.tbl ps) → H' P = some (.tbl ps)) : TabC C H' P := by
  obtain ⟨ps, h1, h2, h3⟩ := t
  exact ⟨ps, e ps h1, h2, h3⟩
/-- what was tracked stays; a table may have grown -/
structure Kp (H H' : Hp) : Prop where
  o : ∀ b u, H b = some u → (∀ ps, u ≠ .tbl ps) → H' b = some u
  t : ∀ (P : Addr), P ∈ TN.ts → ∀ C : Addr → Prop, (∀ c, H' c = some (LamX.CodeO c (TN.nm P)) → C c) → TabC C H P → TabC C H' P
  f : ∀ b, H' b = none → H b = none
  b : ∀ P ps, H' P = some (.tbl ps) → ∃ ps0, H P = some (.tbl ps0)
theorem Kp.get {H H' : Hp} (k : Kp H H') {b : Addr} {u : HO} (e : H b = some u) (n : ∀ ps, u ≠ .tbl ps := by intro _ z; cases z) : H' b = some u := k.o b u e n
theorem Kp.free {H H' : Hp} (k : Kp H H') {b : Addr} (e : H' b = none) : H b = none := k.f b e
/-- more is tracked, but no table -/
structure Nx (H H' : Hp) : Prop where
  s : Same H H'
  b : ∀ P ps, H' P = some (.tbl ps) → ∃ ps0, H P = some (.tbl ps0)
theorem Nx.refl (H : Hp) : Nx H H := ⟨Same.refl H, fun _ ps e => ⟨ps, e⟩⟩
theorem Nx.trans {H H1 H2 : Hp} (a : Nx H H1) (b : Nx H1 H2) : Nx H H2 := ⟨a.s.trans b.s, fun P ps e => (b.b P ps e).elim fun ps1 e1 => a.b P ps1 e1⟩
theorem nx_upd {H : Hp} {p : Addr} {o : HO} (h : H p = none) (no : ∀ ps, o ≠ .tbl ps := by intro _ z; cases z) : Nx H (upd H p o) := ⟨fun b x e => by
  rw [upd_ne (ne_of_none e h)]
  exact e, fun P ps e => by
  by_cases hp : P = p
  · rw [hp, upd_same] at e
    exact absurd (Option.some.inj e) (no ps)
  · rw [upd_ne hp] at e
    exact ⟨ps, e⟩⟩
theorem Nx.kp {H H' : Hp} (e : Nx H H') : Kp H H' := ⟨fun b u h _ => e.s b u h, fun P _ C _ t => t.of fun ps h => e.s _ _ h, fun b h => e.s.free h, e.b⟩
theorem Kp.refl (H : Hp) : Kp H H := (Nx.refl H).kp
theorem Kp.tab {H H' : Hp} (k : Kp H H') {P : Addr} (hm : P ∈ TN.ts) (t : LamX.TabS H P (TN.nm P)) : LamX.TabS H' P (TN.nm P) := k.t P hm (fun c => H' c = some (LamX.CodeO c (TN.nm P))) (fun _ h => h) (by
  obtain ⟨ps, h1, h2, h3⟩ := t
  refine ⟨ps, h1, h2, fun pos cv hc => ?_⟩
  obtain ⟨c, e1, e2⟩ := h3 pos cv hc
  exact ⟨c, e1, k.o _ _ e2 LamX.codeO_ne⟩)
theorem Kp.trans {H H1 H2 : Hp} (a : Kp H H1) (b : Kp H1 H2) : Kp H H2 :=
  ⟨fun c u e n => b.o c u (a.o c u e n) n, fun P hm C hC t => b.t P hm C hC (a.t P hm C (fun c h => hC c (b.o _ _ h LamX.codeO_ne)) t), fun c e => a.f c (b.f c e), fun P ps e => (b.b P ps e).elim fun ps1 e1 => a.b P ps1 e1⟩
/-- frozen F in H grows to F' in H': what was tracked stays, what is newly frozen is new -/
structure Gr (F H F' H' : Hp) : Prop where
  f : Same F F'
  k : Kp H H'
  s : Same F' H'
  n : ∀ p, F' p ≠ none → F p = none → H p = none
  w : ∀ p ps, F' p = some (.tbl ps) → H p = none ∨ H p = some (.tbl ps)
  v : ∀ p ps, F' p = some (.tbl ps) → F p = some (.tbl ps)
theorem Gr.refl {F H : Hp} (s : Same F H) : Gr F H F H := ⟨Same.refl _, Kp.refl _, s, fun _ a b => absurd b a, fun p ps e => .inr (s _ _ e), fun _ _ e => e⟩
theorem Gr.trans {F H F1 H1 F2 H2 : Hp} (a : Gr F H F1 H1) (b : Gr F1 H1 F2 H2) : Gr F H F2 H2 := by
  refine ⟨a.f.trans b.f, a.k.trans b.k, b.s, fun p h2 h0 => ?_, fun p ps e => ?_, fun p ps e => a.v p ps (b.v p ps e)⟩
  · cases h1 : F1 p with
    | none => exact a.k.free (b.n p h2 h1)
    | some o => exact a.n p (by rw [h1]; simp) h0
  · cases h1 : F1 p with
    | none => exact .inl (a.k.free (b.n p (by rw [e]; simp) h1))
    | some o =>
      have z := b.f _ _ h1
      rw [e] at z
      cases z
      exact a.w p ps h1
theorem Gr.h {F H H' : Hp} (s : Same F H) (k : Nx H H') : Gr F H F H' := ⟨Same.refl _, k.kp, s.trans k.s, fun _ a b => absurd b a, fun p ps e => .inr (s _ _ e), fun _ _ e => e⟩
theorem Gr.hk {F H H' : Hp} (s : Same F H) (k : Kp H H') (s' : Same F H') : Gr F H F H' := ⟨Same.refl _, k, s', fun _ a b => absurd b a, fun p ps e => .inr (s _ _ e), fun _ _ e => e⟩
theorem same_upd {H : Hp} {p : Addr} {o : HO} (h : H p = none) : Same H (upd H p o) := fun b x e => by
  rw [upd_ne (ne_of_none e h)]
  exact e
theorem same_upd2 {F H : Hp} {p : Addr} {o : HO} (e : Same F H) : Same (upd F p o) (upd H p o) := fun b x q => by
  by_cases hb : b = p
  · subst hb
    rw [upd_same] at q ⊢
    exact q
  · rw [upd_ne hb] at q ⊢
    exact e b x q
/-- a new object is laid and frozen -/
theorem Gr.new {F H : Hp} {p : Addr} {o : HO} (s : Same F H) (h : H p = none) (no : ∀ ps, o ≠ .tbl ps := by intro _ z; cases z) : Gr F H (upd F p o) (upd H p o) := by
  refine ⟨same_upd (s.free h), (nx_upd h no).kp, same_upd2 s, fun q a b => ?_, fun q ps e => ?_, fun q ps e => ?_⟩
  · by_cases hq : q = p
    · subst hq
      exact h
    · rw [upd_ne hq] at a
      exact absurd b a
  · by_cases hq : q = p
    · subst hq
      exact .inl h
    · rw [upd_ne hq] at e
      exact .inr (s _ _ e)
  · by_cases hq : q = p
    · rw [hq, upd_same] at e
      exact absurd (Option.some.inj e) (no ps)
    · rwa [upd_ne hq] at e
/-- what the def has made of its own may be frozen -/
theorem Gr.keepNone {F H F' H' : Hp} (g : Gr F H F' H') {l : Addr} {o : HO} (h : H l = some o) (f : F l = none) : F' l = none := by
  cases q : F' l with
  | none => rfl
  | some u =>
    have z := g.n l (by rw [q]; simp) f
    rw [h] at z
    cases z

/-! ### slots -/
def Own (K : Fg) (cl : Cl) (F H : Hp) (a : Addr) : D → Prop
  | .lst ds => ∃ vs, H a = some (.lst vs) ∧ Reps K cl F vs ds
  | .dk kvs => ∃ ws, H a = some (.dK ws) ∧ KReps K cl F ws kvs
  | .dt kvs => ∃ ws, H a = some (.dT ws) ∧ TReps K cl F ws kvs
  | .ins c kvs => ∃ ws, (∃ C dx, cl.nm c = some C ∧ H a = some (.ins C dx ws) ∧ F dx = some (.own a) ∧ cl.me = some a) ∧ FReps K cl F ws kvs
  | _ => False
theorem Own.there {K : Fg} {cl : Cl} {F H : Hp} {a : Addr} {d : D} (h : Own K cl F H a d) : ∃ o, H a = some o := by
  cases d <;> first | exact h.elim | (obtain ⟨_, e, _⟩ := h; exact ⟨_, e⟩) | (obtain ⟨_, ⟨_, _, _, e, _⟩, _⟩ := h; exact ⟨_, e⟩)
theorem Own.mono {K : Fg} {cl : Cl} {F H F' H' : Hp} {a : Addr} {d : D} (f : Same F F') (k : ∀ o, H a = some o → (∀ ps, o ≠ .tbl ps) → H' a = some o) (h : Own K cl F H a d) : Own K cl F' H' a d := by
  cases d with
  | lst ds => obtain ⟨vs, e, r⟩ := h; exact ⟨vs, k _ e (fun _ z => by cases z), r.mono f⟩
  | dk ds => obtain ⟨vs, e, r⟩ := h; exact ⟨vs, k _ e (fun _ z => by cases z), r.mono f⟩
  | dt ds => obtain ⟨vs, e, r⟩ := h; exact ⟨vs, k _ e (fun _ z => by cases z), r.mono f⟩
  | ins c ds => obtain ⟨vs, ⟨C, dx, n, e, o, m⟩, r⟩ := h; exact ⟨vs, ⟨C, dx, n, k _ e (fun _ z => by cases z), f _ _ o, m⟩, r.mono f⟩
  | _ => exact h.elim
/-- the tables are right, and not frozen -/
def TabF (cl : Cl) (F H : Hp) : Prop := ∀ p ∈ cl.tabs, LamX.TabS H p (TN.nm p) ∧ F p = none ∧ p ∈ TN.ts
theorem TabF.nil {cl : Cl} {F H : Hp} (h : cl.tabs = []) : TabF cl F H := fun p hp => by rw [h] at hp; cases hp
theorem TabF.grow {cl : Cl} {F H F' H' : Hp} (t : TabF cl F H) (g : Gr F H F' H') : TabF cl F' H' := fun p hp => by
  obtain ⟨a, b, m⟩ := t p hp
  refine ⟨g.k.tab m a, ?_, m⟩
  obtain ⟨ps, e, _⟩ := a
  exact g.keepNone e b
/-- no table and no code object stands there -/
structure NT (H : Hp) (a : Addr) : Prop where
  t : ∀ ps, H a ≠ some (.tbl ps)
  c : ∀ c q, H a ≠ some (LamX.CodeO c q)
theorem NT.free {H : Hp} {a : Addr} (h : H a = none) : NT H a := ⟨fun _ z => by (rw [h] at z; cases z), fun _ _ z => by (rw [h] at z; cases z)⟩
theorem NT.at {H : Hp} {a : Addr} {o : HO} (h : H a = some o) (n1 : ∀ ps, o ≠ .tbl ps := by intro _ z; cases z) (n2 : ∀ φ, o ≠ .ext φ := by intro _ z; cases z) : NT H a :=
  ⟨fun ps z => n1 ps (Option.some.inj (h.symm.trans z)), fun c q z => by unfold LamX.CodeO at z; exact n2 _ (Option.some.inj (h.symm.trans z))⟩
theorem Own.nt {K : Fg} {cl : Cl} {F H : Hp} {a : Addr} {d : D} (h : Own K cl F H a d) : NT H a := by
  cases d <;> first | exact h.elim | (obtain ⟨_, e, _⟩ := h; exact .at e) | (obtain ⟨_, ⟨_, _, _, e, _⟩, _⟩ := h; exact .at e)
theorem tabS_put {H : Hp} {a : Addr} {o : HO} (n : NT H a) {P : Addr} {q : Str} (t : LamX.TabS H P q) : LamX.TabS (upd H a o) P q := by
  obtain ⟨ps, h1, h2, h3⟩ := t
  refine ⟨ps, by rw [upd_ne (fun z => n.t ps (by rw [← z]; exact h1))]; exact h1, h2, fun pos cv hc => ?_⟩
  obtain ⟨c, e1, e2⟩ := h3 pos cv hc
  exact ⟨c, e1, by rw [upd_ne (fun z => n.c _ _ (by rw [← z]; exact e2))]; exact e2⟩
theorem TabF.put {cl : Cl} {F H : Hp} {a : Addr} {o : HO} (t : TabF cl F H) (n : NT H a) (no : ∀ ps, o ≠ .tbl ps := by intro _ z; cases z) : TabF cl F (upd H a o) := fun p hp => by
  obtain ⟨x, b, m⟩ := t p hp
  exact ⟨tabS_put n x, b, m⟩
theorem TabF.frz {cl : Cl} {F H : Hp} {a : Addr} {o : HO} (t : TabF cl F H) (n : NT H a) (ho : H a = some o) : TabF cl (upd F a o) H := fun p hp => by
  obtain ⟨x, b, m⟩ := t p hp
  obtain ⟨ps, e, _⟩ := x
  refine ⟨(t p hp).1, ?_, m⟩
  exact (by rw [upd_ne (fun z => n.t ps (by rw [← z]; exact e))]; exact b)
/-- what is not known at the start may be written -/
theorem Kp.put {H H' : Hp} (k : Kp H H') {a : Addr} {o : HO} (n : H a = none) (nt : NT H' a) (no : ∀ ps, o ≠ .tbl ps := by intro _ z; cases z) : Kp H (upd H' a o) := by
  have ne : ∀ b u, H b = some u → b ≠ a := fun b u e z => by rw [z, n] at e; cases e
  refine ⟨fun b u e q => by rw [upd_ne (ne b u e)]; exact k.o b u e q, fun P hm C hC t => ?_, fun b e => ?_, fun P ps e => ?_⟩
  · have t2 := k.t P hm C (fun c h => hC c (by rw [upd_ne (fun z => nt.c _ _ (by rw [← z]; exact h))]; exact h)) t
    obtain ⟨ps, e, _⟩ := t
    exact t2.of fun ps' e' => by rw [upd_ne (ne _ _ e)]; exact e'
  · by_cases hb : b = a
    · rw [hb, upd_same] at e; cases e
    · rw [upd_ne hb] at e; exact k.f b e
  · by_cases hb : P = a
    · rw [hb, upd_same] at e
      exact absurd (Option.some.inj e) (no ps)
    · rw [upd_ne hb] at e; exact k.b P ps e
def SlRep (K : Fg) (cl : Cl) (H0 F H : Hp) (x : Option V) (a : Addr) : Sl → Prop
  | .no => True
  | .v d => ∃ v, x = some v ∧ Rep K cl F v d
  | .o d => x = some (.ref a) ∧ H0 a = none ∧ F a = none ∧ Own K cl F H a d
structure Hold (K : Fg) (cl : Cl) (F0 H0 F H : Hp) (σ : L2.St) (ρ : DL.Env) : Prop where
  g : Gr F0 H0 F H
  tb : TabF cl F H
  len : σ.length = ρ.length
  sl : ∃ θ : Nat → Addr, (∀ (i : Nat) s, ρ[i]? = some s → SlRep K cl H0 F H (σ[i]?.join) (θ i) s) ∧ (∀ (i j : Nat) di dj, ρ[i]? = some (.o di) → ρ[j]? = some (.o dj) → θ i = θ j → i = j) ∧ ∀ (i : Nat) a d, cl.pin i = some a → ρ[i]? = some (.o d) → θ i = a
section
variable {K : Fg} {cl : Cl} {F0 H0 F H F' H' : Hp} {σ : L2.St} {ρ : DL.Env}
theorem Hold.grow (h : Hold K cl F0 H0 F H σ ρ) (g : Gr F H F' H') : Hold K cl F0 H0 F' H' σ ρ := by
  obtain ⟨θ, hs, hd⟩ := h.sl
  refine ⟨h.g.trans g, h.tb.grow g, h.len, θ, fun i s e => ?_, hd⟩
  have q := hs i s e
  cases s with
  | no => trivial
  | v d => obtain ⟨v, e1, r⟩ := q; exact ⟨v, e1, r.mono g.f⟩
  | o d =>
    obtain ⟨e1, n0, nf, w⟩ := q
    obtain ⟨o, ho⟩ := w.there
    exact ⟨e1, n0, g.keepNone ho nf, w.mono g.f fun o e n => g.k.o _ _ e n⟩
theorem Hold.same (h : Hold K cl F0 H0 F H σ ρ) : Same F H := h.g.s
theorem join_some {σ : L2.St} {i : Nat} {v : V} (h : σ[i]?.join = some v) : σ[i]? = some (some v) := by
  cases e : σ[i]? with
  | none => rw [e] at h; cases h
  | some x =>
    rw [e] at h
    have h' : x = some v := h
    rw [h']
theorem Hold.var {i : Nat} {d : D} (h : Hold K cl F0 H0 F H σ ρ) (e : ρ[i]? = some (.v d)) : ∃ v, σ[i]? = some (some v) ∧ Rep K cl F v d := by
  obtain ⟨θ, hs, _⟩ := h.sl
  obtain ⟨v, e1, r⟩ := hs i _ e
  exact ⟨v, join_some e1, r⟩
/-- a slot is set to frozen data -/
theorem Hold.set {i : Nat} {d : D} {v : V} (h : Hold K cl F0 H0 F H σ ρ) (r : Rep K cl F v d) : Hold K cl F0 H0 F H (σ.set i (some v)) (ρ.set i (.v d)) := by
  obtain ⟨θ, hs, hd, hp⟩ := h.sl
  have ne : ∀ {a da}, (ρ.set i (Sl.v d))[a]? = some (Sl.o da) → ρ[a]? = some (Sl.o da) := fun {a da} q => by
      by_cases ha : a = i
      · subst ha
        have hl : a < ρ.length := by
          have := (List.getElem?_eq_some_iff.mp q).1
          simpa using this
        rw [List.getElem?_set_self hl] at q
        cases q
      · rwa [List.getElem?_set_ne (Ne.symm ha)] at q
  refine ⟨h.g, h.tb, by simp [h.len], θ, fun j s e => ?_, fun j k dj dk e1 e2 => ?_, fun j a dj e1 e2 => hp j a dj e1 (ne e2)⟩
  · by_cases hj : j = i
    · subst hj
      have hl : j < ρ.length := by
        have := (List.getElem?_eq_some_iff.mp e).1
        simpa using this
      rw [List.getElem?_set_self hl] at e
      cases e
      refine ⟨v, ?_, r⟩
      rw [List.getElem?_set_self (by rw [h.len]; exact hl)]
      rfl
    · rw [List.getElem?_set_ne (Ne.symm hj)] at e ⊢
      exact hs j s e
  · exact hd j k dj dk (ne e1) (ne e2)
/-- a slot is set to a new object of the def's own -/
theorem Hold.own {i : Nat} {d : D} {a : Addr} (hpi : cl.pin i = none) (h : Hold K cl F0 H0 F H σ ρ) (g : Gr F H F' H') (ha : H a = none) (hf : F' a = none) (w : Own K cl F' H' a d) : Hold K cl F0 H0 F' H' (σ.set i (some (.ref a))) (ρ.set i (.o d)) := by
  have h1 := h.grow g
  obtain ⟨θ0, hs0, _⟩ := h.sl
  obtain ⟨θ, hs, hd, hp⟩ := h.sl
  refine ⟨h1.g, h1.tb, by simp [h.len], fun j => if j = i then a else θ j, fun j s e => ?_, fun j k dj dk e1 e2 q => ?_, fun j b dj e1 e2 => ?_⟩
  · by_cases hj : j = i
    · subst hj
      have hl : j < ρ.length := by
        have := (List.getElem?_eq_some_iff.mp e).1
        simpa using this
      rw [List.getElem?_set_self hl] at e
      cases e
      show SlRep K cl H0 F' H' _ (if j = j then a else θ j) _
      rw [if_pos rfl]
      refine ⟨?_, h.g.k.free ha, hf, w⟩
      rw [List.getElem?_set_self (by rw [h.len]; exact hl)]
      rfl
    · rw [List.getElem?_set_ne (Ne.symm hj)] at e ⊢
      show SlRep K cl H0 F' H' _ (if j = i then a else θ j) _
      rw [if_neg hj]
      have q := hs j s e
      cases s with
      | no => trivial
      | v d => obtain ⟨v, e1, r⟩ := q; exact ⟨v, e1, r.mono g.f⟩
      | o d =>
        obtain ⟨e1, n0, nf, w⟩ := q
        obtain ⟨o, ho⟩ := w.there
        exact ⟨e1, n0, g.keepNone ho nf, w.mono g.f fun o e n => g.k.o _ _ e n⟩
  · have q : (if j = i then a else θ j) = (if k = i then a else θ k) := q
    have ne : ∀ {b db}, b ≠ i → (ρ.set i (Sl.o d))[b]? = some (Sl.o db) → ρ[b]? = some (Sl.o db) := fun {b db} hb q => by
      rwa [List.getElem?_set_ne (Ne.symm hb)] at q
    have far : ∀ {b db}, b ≠ i → (ρ.set i (Sl.o d))[b]? = some (Sl.o db) → θ b ≠ a := fun {b db} hb q z => by
      obtain ⟨_, _, _, w⟩ := hs b _ (ne hb q)
      obtain ⟨o, ho⟩ := w.there
      rw [z, ha] at ho
      cases ho
    by_cases hj : j = i
    · by_cases hk : k = i
      · rw [hj, hk]
      · rw [if_pos hj, if_neg hk] at q
        exact absurd q.symm (far hk e2)
    · by_cases hk : k = i
      · rw [if_neg hj, if_pos hk] at q
        exact absurd q (far hj e1)
      · rw [if_neg hj, if_neg hk] at q
        exact hd j k dj dk (ne hj e1) (ne hk e2) q
  · show (if j = i then a else θ j) = b
    by_cases hj : j = i
    · subst hj
      rw [hpi] at e1
      cases e1
    · rw [if_neg hj]
      rw [List.getElem?_set_ne (Ne.symm hj)] at e2
      exact hp j b dj e1 e2
/-- forgetting -/
theorem Hold.drop {i : Nat} (h : Hold K cl F0 H0 F H σ ρ) : Hold K cl F0 H0 F H σ (ρ.set i .no) := by
  obtain ⟨θ, hs, hd, hp⟩ := h.sl
  have ne : ∀ {a : Nat} {s : Sl}, s ≠ Sl.no → (ρ.set i Sl.no)[a]? = some s → ρ[a]? = some s := fun {a s} hn q => by
    by_cases ha : a = i
    · subst ha
      have hl : a < ρ.length := by
        have := (List.getElem?_eq_some_iff.mp q).1
        simpa using this
      rw [List.getElem?_set_self hl] at q
      exact absurd (Option.some.inj q).symm hn
    · rwa [List.getElem?_set_ne (Ne.symm ha)] at q
  refine ⟨h.g, h.tb, by simp [h.len], θ, fun j s e => ?_, fun j k dj dk e1 e2 => hd j k dj dk (ne (by simp) e1) (ne (by simp) e2), fun j a dj e1 e2 => hp j a dj e1 (ne (by simp) e2)⟩
  cases s with
  | no => trivial
  | v d => exact hs j _ (ne (by simp) e)
  | o d => exact hs j _ (ne (by simp) e)
theorem Hold.fgt (js : List Nat) : ∀ {ρ : DL.Env}, Hold K cl F0 H0 F H σ ρ → Hold K cl F0 H0 F H σ (DL.fgt js ρ) := by
  induction js with
  | nil => intro ρ h; exact h
  | cons j r ih => intro ρ h; exact ih h.drop
/-- a slot's own object is frozen -/
theorem Hold.frz (i : Nat) (h : Hold K cl F0 H0 F H σ ρ) : ∃ F', Hold K cl F0 H0 F' H σ (DL.frz i ρ) := by
  unfold DL.frz
  cases e : ρ[i]? with
  | none => exact ⟨F, h⟩
  | some s =>
    cases s with
    | no => exact ⟨F, h⟩
    | v d => exact ⟨F, h⟩
    | o d =>
      obtain ⟨θ, hs, hd, hpn⟩ := h.sl
      obtain ⟨e1, n0, nf, w⟩ := hs i _ e
      obtain ⟨ob, ho⟩ := w.there
      have sf : Same F (upd F (θ i) ob) := same_upd nf
      have s2 : Same (upd F (θ i) ob) H := fun b u q => by
        by_cases hb : b = θ i
        · subst hb
          rw [upd_same] at q
          cases q
          exact ho
        · rw [upd_ne hb] at q
          exact h.g.s b u q
      have rr : Rep K cl (upd F (θ i) ob) (.ref (θ i)) d := by
        have eo : (upd F (θ i) ob) (θ i) = some ob := upd_same
        cases d with
        | lst ds => obtain ⟨vs, q, r⟩ := w; rw [ho] at q; cases q; exact .lst eo (r.mono sf)
        | dk ds => obtain ⟨vs, q, r⟩ := w; rw [ho] at q; cases q; exact .dk eo (r.mono sf)
        | dt ds => obtain ⟨vs, q, r⟩ := w; rw [ho] at q; cases q; exact .dt eo (r.mono sf)
        | ins c ds => obtain ⟨vs, ⟨C, dx, n, q, o, _⟩, r⟩ := w; rw [ho] at q; cases q; exact .ins n eo (sf _ _ o) (r.mono sf)
        | _ => exact w.elim
      have hg : Gr F0 H0 (upd F (θ i) ob) H := ⟨h.g.f.trans sf, h.g.k, s2, fun p a b => by
        by_cases hp : p = θ i
        · subst hp; exact n0
        · rw [upd_ne hp] at a
          exact h.g.n p a b, fun p ps a => by
        by_cases hp : p = θ i
        · subst hp; exact .inl n0
        · rw [upd_ne hp] at a
          exact h.g.w p ps a, fun p ps a => by
        by_cases hp : p = θ i
        · rw [hp, upd_same, ← ho] at a
          exact absurd a (w.nt.t ps)
        · rw [upd_ne hp] at a
          exact h.g.v p ps a⟩
      have ne : ∀ {a : Nat} {s : Sl}, a ≠ i → (ρ.set i (Sl.v d))[a]? = some s → ρ[a]? = some s := fun {a s} hb q => by
        rwa [List.getElem?_set_ne (Ne.symm hb)] at q
      have me : ∀ {s : Sl}, (ρ.set i (Sl.v d))[i]? = some s → s = Sl.v d := fun {s} q => by
        have hl : i < ρ.length := (List.getElem?_eq_some_iff.mp e).1
        rw [List.getElem?_set_self hl] at q
        exact (Option.some.inj q).symm
      refine ⟨upd F (θ i) ob, hg, h.tb.frz w.nt ho, by simp [h.len], θ, fun j s q => ?_, fun j k dj dk q1 q2 => ?_, fun j b dj q1 q2 => ?_⟩
      · by_cases hj : j = i
        · subst hj
          cases me q
          exact ⟨_, e1, rr⟩
        · have q' := hs j s (ne hj q)
          cases s with
          | no => trivial
          | v d' => obtain ⟨v, z1, r⟩ := q'; exact ⟨v, z1, r.mono sf⟩
          | o d' =>
            obtain ⟨z1, z0, zf, zw⟩ := q'
            have hne : θ j ≠ θ i := fun z => hj (hd j i _ _ (ne hj q) e z)
            exact ⟨z1, z0, by rw [upd_ne hne]; exact zf, zw.mono sf fun _ x _ => x⟩
      · have nj : j ≠ i := fun z => by subst z; have := me q1; cases this
        have nk : k ≠ i := fun z => by subst z; have := me q2; cases this
        exact hd j k dj dk (ne nj q1) (ne nk q2)
      · have nj : j ≠ i := fun z => by subst z; have := me q2; cases this
        exact hpn j b dj q1 (ne nj q2)
end
end DL

/-! DJudge: readings of the hand layer refined by the transformers of DCore; the rules. -/
namespace DL
open PySem L2
variable [TN]

theorem line_eq : lineMax = sizeLine := by rw [sizeLine_eq]; rfl
/-- an error's value -/
def RepErr (K : Fg) (cl : Cl) (F : Hp) (c : Value) (dx : Option Addr) (e : Err) : Prop :=
  ∃ C, cl.nm e.cls = some C ∧ c = .ref C ∧ match dx with
    | none => e.fs = []
    | some d => ∃ ws, F d = some (.xd ws) ∧ FReps K cl F ws e.fs
def LinkE (K : Fg) (cl : Cl) (F0 H0 : Hp) (W : WX) (E : EK) : Prop :=
  ∀ err ρ σ F H c dx, Hold K cl F0 H0 F H σ ρ → E err ρ → RepErr K cl F c dx err → W c dx σ H
structure LinkD (K : Fg) (cl : Cl) (F0 H0 : Hp) (A : Ends) (B : DE) : Prop where
  nx : ∀ F H σ ρ, Hold K cl F0 H0 F H σ ρ → B.nx ρ → A.nx σ H
  bk : ∀ F H σ ρ, Hold K cl F0 H0 F H σ ρ → B.bk ρ → A.bk σ H
  ct : ∀ F H σ ρ, Hold K cl F0 H0 F H σ ρ → B.ct ρ → A.ct σ H
  rt : ∀ F H v d, Gr F0 H0 F H → (cl.fr = false → Rep K cl F v d) → (cl.fr = true → ∃ p, v = .ref p ∧ H0 p = none ∧ F p = none ∧ Own K cl F H p d) → B.rt d → A.rt v H
  ro : ∀ F H σ ρ v d, Hold K cl F0 H0 F H σ ρ → Rep K cl F v d → B.ro d ρ → A.rt v H

structure RfE (K : Fg) (cl : Cl) (W : WX) (te : TE) (t : DT) : Prop where
  mono2 : ∀ E E' ρ (P P' : DK), (∀ e ρ, E e ρ → E' e ρ) → (∀ d, P d → P' d) → t E ρ P → t E' ρ P'
  ok : ∀ F0 H0 F H σ ρ E (Q : VK), Hold K cl F0 H0 F H σ ρ → LinkE K cl F0 H0 W E → t E ρ (fun d => ∀ v F' H', Gr F H F' H' → Rep K cl F' v d → Q v H') → te σ H Q
structure RfB (K : Fg) (cl : Cl) (W : WX) (te : TT) (t : DB) : Prop where
  mono2 : ∀ E E' ρ (P P' : Bool → Prop), (∀ e ρ, E e ρ → E' e ρ) → (∀ d, P d → P' d) → t E ρ P → t E' ρ P'
  ok : ∀ F0 H0 F H σ ρ E (Q : Bool → Hp → Prop), Hold K cl F0 H0 F H σ ρ → LinkE K cl F0 H0 W E → t E ρ (fun b => ∀ F' H', Gr F H F' H' → Q b H') → te σ H Q
structure RfA (K : Fg) (cl : Cl) (W : WX) (te : TA) (t : DA) : Prop where
  mono2 : ∀ E E' ρ (P P' : List D → Prop), (∀ e ρ, E e ρ → E' e ρ) → (∀ d, P d → P' d) → t E ρ P → t E' ρ P'
  ok : ∀ F0 H0 F H σ ρ E (Q : List V → Hp → Prop), Hold K cl F0 H0 F H σ ρ → LinkE K cl F0 H0 W E → t E ρ (fun ds => ∀ vs F' H', Gr F H F' H' → Reps K cl F' vs ds → Q vs H') → te σ H Q
/-- an iterator that gives the data ds -/
def WalkD (K : Fg) (cl : Cl) (J : It) (F : Hp) (ds : List D) : Prop :=
  ∀ F2 H2, Same F F2 → Same F2 H2 → J.stop ds.length H2 ∧ ∀ (i : Nat) d, ds[i]? = some d → J.go i H2 ∧ ∀ x H3, J.yld i H2 x H3 → ∃ F3, Gr F2 H2 F3 H3 ∧ Rep K cl F3 x d
structure RfI (K : Fg) (cl : Cl) (W : WX) (wi : TI) (t : DI) : Prop where
  mono2 : ∀ E E' ρ (P P' : List D → Prop), (∀ e ρ, E e ρ → E' e ρ) → (∀ d, P d → P' d) → t E ρ P → t E' ρ P'
  ok : ∀ F0 H0 F H σ ρ E (R : It → Hp → Prop), Hold K cl F0 H0 F H σ ρ → LinkE K cl F0 H0 W E → t E ρ (fun ds => ∀ J F' H', Gr F H F' H' → WalkD K cl J F' ds → R J H') → wi σ H R
def Agree (js : List Nat) (σ σ' : L2.St) : Prop := σ'.length = σ.length ∧ ∀ i : Nat, i ∉ js → σ'[i]? = σ[i]?
structure RfG (K : Fg) (cl : Cl) (js : List Nat) (g : TG) (t : DG) : Prop where
  mono : ∀ d ρ (P P' : DL.Env → Prop), (∀ ρ, P ρ → P' ρ) → t d ρ P → t d ρ P'
  ok : ∀ F0 H0 F H σ ρ v d (Q : L2.St → Hp → Prop), Hold K cl F0 H0 F H σ ρ → Rep K cl F v d → t d ρ (fun ρ' => ∀ σ', Hold K cl F0 H0 F H σ' ρ' → Agree js σ σ' → Q σ' H) → g v σ H Q
structure RfGs (K : Fg) (cl : Cl) (js : List Nat) (g : TGs) (t : DGs) : Prop where
  mono : ∀ d ρ (P P' : DL.Env → Prop), (∀ ρ, P ρ → P' ρ) → t d ρ P → t d ρ P'
  ok : ∀ F0 H0 F H σ ρ v d (Q : L2.St → Hp → Prop), Hold K cl F0 H0 F H σ ρ → Reps K cl F v d → t d ρ (fun ρ' => ∀ σ', Hold K cl F0 H0 F H σ' ρ' → Agree js σ σ' → Q σ' H) → g v σ H Q
structure RfO (K : Fg) (cl : Cl) (W : WX) (te : TO) (t : DO) : Prop where
  mono2 : ∀ E E' ρ (P P' : Option Int → Prop), (∀ e ρ, E e ρ → E' e ρ) → (∀ d, P d → P' d) → t E ρ P → t E' ρ P'
  ok : ∀ F0 H0 F H σ ρ E (Q : Option Int → Hp → Prop), Hold K cl F0 H0 F H σ ρ → LinkE K cl F0 H0 W E → t E ρ (fun b => ∀ F' H', Gr F H F' H' → Q b H') → te σ H Q
structure LeD (A B : DE) : Prop where
  nx : ∀ ρ, A.nx ρ → B.nx ρ
  rt : ∀ d, A.rt d → B.rt d
  bk : ∀ ρ, A.bk ρ → B.bk ρ
  ct : ∀ ρ, A.ct ρ → B.ct ρ
  ro : ∀ d ρ, A.ro d ρ → B.ro d ρ
structure RfS (K : Fg) (cl : Cl) (W : WX) (ts : TS) (t : DS) : Prop where
  mono2 : ∀ E E' A B ρ, (∀ e ρ, E e ρ → E' e ρ) → LeD A B → t E A ρ → t E' B ρ
  ok : ∀ F0 H0 F H σ ρ E B A, Hold K cl F0 H0 F H σ ρ → LinkE K cl F0 H0 W E → LinkD K cl F0 H0 A B → t E B ρ → ts A σ H

theorem RfE.mono {K : Fg} {cl : Cl} {W : WX} {te : TE} {t : DT} (h : RfE K cl W te t) (E : EK) (ρ : DL.Env) (P P' : DK) (f : ∀ d, P d → P' d) (q : t E ρ P) : t E ρ P' := h.mono2 E E ρ P P' (fun _ _ z => z) f q
theorem RfB.mono {K : Fg} {cl : Cl} {W : WX} {te : TT} {t : DB} (h : RfB K cl W te t) (E : EK) (ρ : DL.Env) (P P' : Bool → Prop) (f : ∀ d, P d → P' d) (q : t E ρ P) : t E ρ P' := h.mono2 E E ρ P P' (fun _ _ z => z) f q
theorem RfA.mono {K : Fg} {cl : Cl} {W : WX} {te : TA} {t : DA} (h : RfA K cl W te t) (E : EK) (ρ : DL.Env) (P P' : List D → Prop) (f : ∀ d, P d → P' d) (q : t E ρ P) : t E ρ P' := h.mono2 E E ρ P P' (fun _ _ z => z) f q
theorem RfI.mono {K : Fg} {cl : Cl} {W : WX} {te : TI} {t : DI} (h : RfI K cl W te t) (E : EK) (ρ : DL.Env) (P P' : List D → Prop) (f : ∀ d, P d → P' d) (q : t E ρ P) : t E ρ P' := h.mono2 E E ρ P P' (fun _ _ z => z) f q
theorem RfO.mono {K : Fg} {cl : Cl} {W : WX} {te : TO} {t : DO} (h : RfO K cl W te t) (E : EK) (ρ : DL.Env) (P P' : Option Int → Prop) (f : ∀ d, P d → P' d) (q : t E ρ P) : t E ρ P' := h.mono2 E E ρ P P' (fun _ _ z => z) f q
theorem RfS.mono {K : Fg} {cl : Cl} {W : WX} {ts : TS} {t : DS} (h : RfS K cl W ts t) (E : EK) (A B : DE) (ρ : DL.Env) (f : LeD A B) (q : t E A ρ) : t E B ρ := h.mono2 E E A B ρ (fun _ _ z => z) f q

/-! ### the rules' own form: syntax, reading, transformer -/
structure VE (X : Cx) (K : Fg) (cl : Cl) (W : WX) (e : Expr) (te : TE) (t : DT) : Prop where
  pe : PE X e te
  rf : RfE K cl W te t
  hK : X.K = K
structure VB (X : Cx) (K : Fg) (cl : Cl) (W : WX) (e : Expr) (te : TT) (t : DB) : Prop where
  pe : PT X e te
  rf : RfB K cl W te t
  hK : X.K = K
structure VW (X : Cx) (K : Fg) (cl : Cl) (W : WX) (e : Expr) (te : TT) (t : DB) : Prop where
  pe : PW X e te
  rf : RfB K cl W te t
  hK : X.K = K
structure VA (X : Cx) (K : Fg) (cl : Cl) (W : WX) (e : List Expr) (te : TA) (t : DA) : Prop where
  pe : PA X e te
  rf : RfA K cl W te t
  hK : X.K = K
structure VI (X : Cx) (K : Fg) (cl : Cl) (W : WX) (tg e : Expr) (te : TI) (t : DI) : Prop where
  pe : PI X tg e te
  rf : RfI K cl W te t
  hK : X.K = K
structure VG (X : Cx) (K : Fg) (cl : Cl) (js : List Nat) (e : Expr) (te : TG) (t : DG) : Prop where
  pe : PG X e te
  rf : RfG K cl js te t
  hK : X.K = K
structure VGs (X : Cx) (K : Fg) (cl : Cl) (js : List Nat) (e : List Expr) (te : TGs) (t : DGs) : Prop where
  pe : PGs X e te
  rf : RfGs K cl js te t
  hK : X.K = K
structure VO (X : Cx) (K : Fg) (cl : Cl) (W : WX) (e : Option Expr) (te : TO) (t : DO) : Prop where
  pe : PO X e te
  rf : RfO K cl W te t
  hK : X.K = K
structure VS (X : Cx) (K : Fg) (cl : Cl) (W : WX) (e : Stmt) (te : TS) (t : DS) : Prop where
  pe : PS X e te
  rf : RfS K cl W te t
  hK : X.K = K
structure VSs (X : Cx) (K : Fg) (cl : Cl) (W : WX) (e : List Stmt) (te : TS) (t : DS) : Prop where
  pe : PSs X e te
  rf : RfS K cl W te t
  hK : X.K = K

section
variable {K : Fg} {cl : Cl} {W : WX} {ta tb tc : TE} {a b c : DT}
/-! ### expressions -/
theorem rfe_var {i : Nat} : RfE K cl W (tVar i) (dVar i) where
  mono2 := fun E E' ρ P P' hE h q => by
    unfold dVar at q ⊢
    split at q
    · exact h _ q
    · exact q.elim
  ok := fun F0 H0 F H σ ρ E Q hh _ q => by
    unfold dVar at q
    split at q
    · rename_i d e
      obtain ⟨v, e1, r⟩ := hh.var e
      exact ⟨v, e1, q v F H (Gr.refl hh.g.s) r⟩
    · exact q.elim
theorem rfe_c {v : V} {d : D} (r : ∀ F, Rep K cl F v d) : RfE K cl W (tC v) (dC d) where
  mono2 := fun E E' ρ P P' hE h q => h _ q
  ok := fun F0 H0 F H σ ρ E Q hh _ q => q v F H (Gr.refl hh.g.s) (r F)
structure RfOp (K : Fg) (cl : Cl) (r : R2) (f : D → D → DK → Prop) : Prop where
  mono : ∀ x y (P P' : DK), (∀ d, P d → P' d) → f x y P → f x y P'
  ok : ∀ F H v u x y (Q : VK), Same F H → Rep K cl F v x → Rep K cl F u y → f x y (fun d => ∀ v' F' H', Gr F H F' H' → Rep K cl F' v' d → Q v' H') → r v u H Q
theorem rfe_op {r : R2} {f : D → D → DK → Prop} (o : RfOp K cl r f) (ha : RfE K cl W ta a) (hb : RfE K cl W tb b) : RfE K cl W (tOp r ta tb) (dOp f a b) where
  mono2 := fun E E' ρ P P' hE h q => ha.mono2 E E' ρ _ _ hE (fun x q => hb.mono2 E E' ρ _ _ hE (fun y q => o.mono x y P P' h q) q) q
  ok := fun F0 H0 F H σ ρ E Q hh le q => by
    refine ha.ok F0 H0 F H σ ρ E _ hh le (ha.mono E ρ _ _ (fun x q v F1 H1 g1 r1 => ?_) q)
    refine hb.ok F0 H0 F1 H1 σ ρ E _ (hh.grow g1) le (hb.mono E ρ _ _ (fun y q u F2 H2 g2 r2 => ?_) q)
    exact o.ok F2 H2 v u x y Q g2.s (r1.mono g2.f) r2 (o.mono x y _ _ (fun d q v' F' H' g3 r3 => q v' F' H' ((g1.trans g2).trans g3) r3) q)
structure RfU (K : Fg) (cl : Cl) (r : V → Hp → VK → Prop) (f : D → DK → Prop) : Prop where
  mono : ∀ x (P P' : DK), (∀ d, P d → P' d) → f x P → f x P'
  ok : ∀ F H v x (Q : VK), Same F H → Rep K cl F v x → f x (fun d => ∀ v' F' H', Gr F H F' H' → Rep K cl F' v' d → Q v' H') → r v H Q
theorem rfe_un {r : V → Hp → VK → Prop} {f : D → DK → Prop} (o : RfU K cl r f) (ha : RfE K cl W ta a) : RfE K cl W (tUn r ta) (dUn f a) where
  mono2 := fun E E' ρ P P' hE h q => ha.mono2 E E' ρ _ _ hE (fun x q => o.mono x P P' h q) q
  ok := fun F0 H0 F H σ ρ E Q hh le q => by
    refine ha.ok F0 H0 F H σ ρ E _ hh le (ha.mono E ρ _ _ (fun x q v F1 H1 g1 r1 => ?_) q)
    exact o.ok F1 H1 v x Q g1.s r1 (o.mono x _ _ (fun d q v' F' H' g3 r3 => q v' F' H' (g1.trans g3) r3) q)
/-- calls on lists of values -/
structure RfC (K : Fg) (cl : Cl) (r : List V → Hp → VK → Prop) (f : List D → DK → Prop) : Prop where
  mono : ∀ x (P P' : DK), (∀ d, P d → P' d) → f x P → f x P'
  ok : ∀ F H v x (Q : VK), Same F H → Reps K cl F v x → f x (fun d => ∀ v' F' H', Gr F H F' H' → Rep K cl F' v' d → Q v' H') → r v H Q
theorem rfa_nil : RfA K cl W tNil aNil where
  mono2 := fun E E' ρ P P' hE h q => h _ q
  ok := fun F0 H0 F H σ ρ E Q hh _ q => q [] F H (Gr.refl hh.g.s) .nil
theorem rfa_cons {tr : TA} {r : DA} (ha : RfE K cl W ta a) (hr : RfA K cl W tr r) : RfA K cl W (tCons ta tr) (aCons a r) where
  mono2 := fun E E' ρ P P' hE h q => ha.mono2 E E' ρ _ _ hE (fun x q => hr.mono2 E E' ρ _ _ hE (fun y q => h _ q) q) q
  ok := fun F0 H0 F H σ ρ E Q hh le q => by
    refine ha.ok F0 H0 F H σ ρ E _ hh le (ha.mono E ρ _ _ (fun x q v F1 H1 g1 r1 => ?_) q)
    refine hr.ok F0 H0 F1 H1 σ ρ E _ (hh.grow g1) le (hr.mono E ρ _ _ (fun y q u F2 H2 g2 r2 => ?_) q)
    exact q _ F2 H2 (g1.trans g2) (.cons (r1.mono g2.f) r2)
theorem rfe_cb {tr : TA} {r : DA} {rr : List V → Hp → VK → Prop} {f : List D → DK → Prop} (o : RfC K cl rr f) (hr : RfA K cl W tr r) : RfE K cl W (tCB rr tr) (dBlt f r) where
  mono2 := fun E E' ρ P P' hE h q => hr.mono2 E E' ρ _ _ hE (fun x q => o.mono x P P' h q) q
  ok := fun F0 H0 F H σ ρ E Q hh le q => by
    refine hr.ok F0 H0 F H σ ρ E _ hh le (hr.mono E ρ _ _ (fun x q v F1 H1 g1 r1 => ?_) q)
    exact o.ok F1 H1 v x Q g1.s r1 (o.mono x _ _ (fun d q v' F' H' g3 r3 => q v' F' H' (g1.trans g3) r3) q)
theorem Reps.length {F : Hp} {vs : List V} {ds : List D} (r : Reps K cl F vs ds) : vs.length = ds.length := by
  induction ds generalizing vs with
  | nil => cases r; rfl
  | cons d ds ih => cases r with
    | cons h r => simp [ih r]
theorem rfe_tup {tr : TA} {r : DA} (hr : RfA K cl W tr r) : RfE K cl W (tTup tr) (dTup r) where
  mono2 := fun E E' ρ P P' hE h q => hr.mono2 E E' ρ _ _ hE (fun x q => ⟨q.1, h _ q.2⟩) q
  ok := fun F0 H0 F H σ ρ E Q hh le q => by
    refine hr.ok F0 H0 F H σ ρ E _ hh le (hr.mono E ρ _ _ (fun x q v F1 H1 g1 r1 => ?_) q)
    refine ⟨by rw [r1.length, ← line_eq]; exact q.1, fun p hp => ?_⟩
    exact q.2 _ (upd F1 p (.tup v)) _ (g1.trans (Gr.new g1.s hp)) (.tup (SqT.of upd_same) (r1.mono (same_upd (g1.s.free hp))))
/-- a new list that may still be changed -/
structure RfN (K : Fg) (cl : Cl) (W : WX) (te : TE) (t : DT) : Prop where
  mono2 : ∀ E E' ρ (P P' : DK), (∀ e ρ, E e ρ → E' e ρ) → (∀ d, P d → P' d) → t E ρ P → t E' ρ P'
  ok : ∀ F0 H0 F H σ ρ E (Q : VK), Hold K cl F0 H0 F H σ ρ → LinkE K cl F0 H0 W E → t E ρ (fun d => ∀ p F' H', Gr F H F' H' → H p = none → F' p = none → Own K cl F' H' p d → Q (.ref p) H') → te σ H Q
theorem RfN.mono {te : TE} {t : DT} (h : RfN K cl W te t) (E : EK) (ρ : DL.Env) (P P' : DK) (f : ∀ d, P d → P' d) (q : t E ρ P) : t E ρ P' := h.mono2 E E ρ P P' (fun _ _ z => z) f q
theorem RfN.e {te : TE} {t : DT} (h : RfN K cl W te t) : RfE K cl W te t where
  mono2 := h.mono2
  ok := fun F0 H0 F H σ ρ E Q hh le q => by
    refine h.ok F0 H0 F H σ ρ E Q hh le (h.mono E ρ _ _ (fun d q p F' H' g hp hf w => ?_) q)
    obtain ⟨ob, ho⟩ := w.there
    have sf : Same F' (upd F' p ob) := same_upd hf
    have s2 : Same (upd F' p ob) H' := fun b u z => by
      by_cases hb : b = p
      · subst hb
        rw [upd_same] at z
        cases z
        exact ho
      · rw [upd_ne hb] at z
        exact g.s b u z
    refine q _ (upd F' p ob) H' ⟨g.f.trans sf, g.k, s2, fun c x y => ?_, fun c ps x => ?_, fun c ps x => ?_⟩ ?_
    · by_cases hc : c = p
      · subst hc; exact hp
      · rw [upd_ne hc] at x
        exact g.n c x y
    · by_cases hc : c = p
      · subst hc; exact .inl hp
      · rw [upd_ne hc] at x
        exact g.w c ps x
    · by_cases hc : c = p
      · rw [hc, upd_same, ← ho] at x
        exact absurd x (w.nt.t ps)
      · rw [upd_ne hc] at x
        exact g.v c ps x
    · have eo : (upd F' p ob) p = some ob := upd_same
      cases d with
      | lst ds => obtain ⟨vs, z, r⟩ := w; rw [ho] at z; cases z; exact .lst eo (r.mono sf)
      | dk ds => obtain ⟨vs, z, r⟩ := w; rw [ho] at z; cases z; exact .dk eo (r.mono sf)
      | dt ds => obtain ⟨vs, z, r⟩ := w; rw [ho] at z; cases z; exact .dt eo (r.mono sf)
      | ins c ds => obtain ⟨vs, ⟨C, dx, n, z, o, _⟩, r⟩ := w; rw [ho] at z; cases z; exact .ins n eo (sf _ _ o) (r.mono sf)
      | _ => exact w.elim
theorem rfn_lst {tr : TA} {r : DA} (hr : RfA K cl W tr r) : RfN K cl W (tLst tr) (dLst r) where
  mono2 := fun E E' ρ P P' hE h q => hr.mono2 E E' ρ _ _ hE (fun x q => ⟨q.1, h _ q.2⟩) q
  ok := fun F0 H0 F H σ ρ E Q hh le q => by
    refine hr.ok F0 H0 F H σ ρ E _ hh le (hr.mono E ρ _ _ (fun x q v F1 H1 g1 r1 => ?_) q)
    refine ⟨by rw [r1.length, ← line_eq]; exact q.1, fun p hp => ?_⟩
    exact q.2 p F1 _ (g1.trans (Gr.h g1.s (nx_upd hp))) (g1.k.free hp) (g1.s.free hp) ⟨v, upd_same, r1⟩

/-! ### tests -/
theorem rfb_T {te : TE} {t : DT} (ha : RfE K cl W te t) : RfB K cl W (tB te) (bT t) where
  mono2 := fun E E' ρ P P' hE h q => ha.mono2 E E' ρ _ _ hE (fun x q => by cases x <;> first | exact h _ q | exact q.elim) q
  ok := fun F0 H0 F H σ ρ E Q hh le q => by
    refine ha.ok F0 H0 F H σ ρ E _ hh le (ha.mono E ρ _ _ (fun x q v F1 H1 g1 r1 => ?_) q)
    cases r1 with
    | bl b => exact ⟨b, rfl, q F1 H1 g1⟩
    | _ => exact q.elim
theorem rfb_and {t u : TT} {p r : DB} (ha : RfB K cl W t p) (hb : RfB K cl W u r) : RfB K cl W (tAnd t u) (bAnd p r) where
  mono2 := fun E E' ρ P P' hE h q => ha.mono2 E E' ρ _ _ hE (fun k q => by
    cases k with
    | true => exact hb.mono2 E E' ρ _ _ hE h q
    | false => exact h _ q) q
  ok := fun F0 H0 F H σ ρ E Q hh le q => by
    refine ha.ok F0 H0 F H σ ρ E _ hh le (ha.mono E ρ _ _ (fun k q F1 H1 g1 => ?_) q)
    cases k with
    | true => exact hb.ok F0 H0 F1 H1 σ ρ E Q (hh.grow g1) le (hb.mono E ρ _ _ (fun k q F2 H2 g2 => q F2 H2 (g1.trans g2)) q)
    | false => exact q F1 H1 g1
theorem rfb_or {t u : TT} {p r : DB} (ha : RfB K cl W t p) (hb : RfB K cl W u r) : RfB K cl W (tOr t u) (bOr p r) where
  mono2 := fun E E' ρ P P' hE h q => ha.mono2 E E' ρ _ _ hE (fun k q => by
    cases k with
    | false => exact hb.mono2 E E' ρ _ _ hE h q
    | true => exact h _ q) q
  ok := fun F0 H0 F H σ ρ E Q hh le q => by
    refine ha.ok F0 H0 F H σ ρ E _ hh le (ha.mono E ρ _ _ (fun k q F1 H1 g1 => ?_) q)
    cases k with
    | false => exact hb.ok F0 H0 F1 H1 σ ρ E Q (hh.grow g1) le (hb.mono E ρ _ _ (fun k q F2 H2 g2 => q F2 H2 (g1.trans g2)) q)
    | true => exact q F1 H1 g1
theorem rfb_not {t : TT} {p : DB} (ha : RfB K cl W t p) : RfB K cl W (tNot t) (bNot p) where
  mono2 := fun E E' ρ P P' hE h q => ha.mono2 E E' ρ _ _ hE (fun k q => h _ q) q
  ok := fun F0 H0 F H σ ρ E Q hh le q => ha.ok F0 H0 F H σ ρ E _ hh le q
theorem rfe_andV {ta tb : TE} {a b : DT} (ha : RfE K cl W ta a) (hb : RfE K cl W tb b) : RfE K cl W (tAndV ta tb) (dAndV a b) where
  mono2 := fun E E' ρ P P' hE h q => ha.mono2 E E' ρ _ _ hE (fun x q => by
    cases x with
    | bl k =>
      cases k with
      | true => exact hb.mono2 E E' ρ _ _ hE h q
      | false => exact h _ q
    | _ => exact q.elim) q
  ok := fun F0 H0 F H σ ρ E Q hh le q => by
    refine ha.ok F0 H0 F H σ ρ E _ hh le (ha.mono E ρ _ _ (fun x q v F1 H1 g1 r1 => ?_) q)
    cases r1 with
    | bl k =>
      refine ⟨k, rfl, ?_⟩
      cases k with
      | true => exact hb.ok F0 H0 F1 H1 σ ρ E Q (hh.grow g1) le (hb.mono E ρ _ _ (fun y q v F2 H2 g2 r2 => q v F2 H2 (g1.trans g2) r2) q)
      | false => exact q _ F1 H1 g1 (.bl false)
    | _ => exact q.elim
theorem rfe_orV {ta tb : TE} {a b : DT} (ha : RfE K cl W ta a) (hb : RfE K cl W tb b) : RfE K cl W (tOrV ta tb) (dOrV a b) where
  mono2 := fun E E' ρ P P' hE h q => ha.mono2 E E' ρ _ _ hE (fun x q => by
    cases x with
    | bl k =>
      cases k with
      | false => exact hb.mono2 E E' ρ _ _ hE h q
      | true => exact h _ q
    | _ => exact q.elim) q
  ok := fun F0 H0 F H σ ρ E Q hh le q => by
    refine ha.ok F0 H0 F H σ ρ E _ hh le (ha.mono E ρ _ _ (fun x q v F1 H1 g1 r1 => ?_) q)
    cases r1 with
    | bl k =>
      refine ⟨k, rfl, ?_⟩
      cases k with
      | false => exact hb.ok F0 H0 F1 H1 σ ρ E Q (hh.grow g1) le (hb.mono E ρ _ _ (fun y q v F2 H2 g2 r2 => q v F2 H2 (g1.trans g2) r2) q)
      | true => exact q _ F1 H1 g1 (.bl true)
    | _ => exact q.elim
theorem rfe_notV {ta : TE} {a : DT} (ha : RfE K cl W ta a) : RfE K cl W (tNotV ta) (dNotV a) where
  mono2 := fun E E' ρ P P' hE h q => ha.mono2 E E' ρ _ _ hE (fun x q => by cases x <;> first | exact h _ q | exact q.elim) q
  ok := fun F0 H0 F H σ ρ E Q hh le q => by
    refine ha.ok F0 H0 F H σ ρ E _ hh le (ha.mono E ρ _ _ (fun x q v F1 H1 g1 r1 => ?_) q)
    cases r1 with
    | bl k => exact ⟨k, rfl, q _ F1 H1 g1 (.bl _)⟩
    | _ => exact q.elim
theorem rfe_if {t : TT} {p : DB} (hc : RfB K cl W t p) (ha : RfE K cl W ta a) (hb : RfE K cl W tb b) : RfE K cl W (tIf t ta tb) (dIf p a b) where
  mono2 := fun E E' ρ P P' hE h q => hc.mono2 E E' ρ _ _ hE (fun k q => by
    cases k with
    | true => exact ha.mono2 E E' ρ _ _ hE h q
    | false => exact hb.mono2 E E' ρ _ _ hE h q) q
  ok := fun F0 H0 F H σ ρ E Q hh le q => by
    refine hc.ok F0 H0 F H σ ρ E _ hh le (hc.mono E ρ _ _ (fun k q F1 H1 g1 => ?_) q)
    cases k with
    | true => exact ha.ok F0 H0 F1 H1 σ ρ E Q (hh.grow g1) le (ha.mono E ρ _ _ (fun y q v F2 H2 g2 r2 => q v F2 H2 (g1.trans g2) r2) q)
    | false => exact hb.ok F0 H0 F1 H1 σ ρ E Q (hh.grow g1) le (hb.mono E ρ _ _ (fun y q v F2 H2 g2 r2 => q v F2 H2 (g1.trans g2) r2) q)
theorem rfe_chain {r r' : R2} {f g : D → D → DK → Prop} (o : RfOp K cl r f) (o' : RfOp K cl r' g) (ha : RfE K cl W ta a) (hb : RfE K cl W tb b) (hc : RfE K cl W tc c) : RfE K cl W (tChain r r' ta tb tc) (dChain f g a b c) where
  mono2 := fun E E' ρ P P' hE h q => ha.mono2 E E' ρ _ _ hE (fun x q => hb.mono2 E E' ρ _ _ hE (fun y q => o.mono x y _ _ (fun z q => by
    cases z with
    | bl k =>
      cases k with
      | true => exact hc.mono2 E E' ρ _ _ hE (fun u q => o'.mono y u _ _ h q) q
      | false => exact h _ q
    | _ => exact q.elim) q) q) q
  ok := fun F0 H0 F H σ ρ E Q hh le q => by
    refine ha.ok F0 H0 F H σ ρ E _ hh le (ha.mono E ρ _ _ (fun x q v F1 H1 g1 r1 => ?_) q)
    refine hb.ok F0 H0 F1 H1 σ ρ E _ (hh.grow g1) le (hb.mono E ρ _ _ (fun y q u F2 H2 g2 r2 => ?_) q)
    refine o.ok F2 H2 v u x y _ g2.s (r1.mono g2.f) r2 (o.mono x y _ _ (fun z q w F3 H3 g3 r3 => ?_) q)
    cases r3 with
    | bl k =>
      refine ⟨k, rfl, ?_⟩
      cases k with
      | false => exact q _ F3 H3 ((g1.trans g2).trans g3) (.bl false)
      | true =>
        refine hc.ok F0 H0 F3 H3 σ ρ E _ (((hh.grow g1).grow g2).grow g3) le (hc.mono E ρ _ _ (fun s q t F4 H4 g4 r4 => ?_) q)
        exact o'.ok F4 H4 u t y s Q g4.s ((r2.mono g3.f).mono g4.f) r4 (o'.mono y s _ _ (fun d q v' F' H' g5 r5 => q v' F' H' ((((g1.trans g2).trans g3).trans g4).trans g5) r5) q)
    | _ => exact q.elim
end
end DL

set_option maxHeartbeats 4000000
/-! DTup: tuple * int, the small counts. -/
namespace DL
open PySem PySem.Spec L2 PyProof.Rows
variable [TN]
theorem tupMul_same (l : Addr) (items : Array Value) (n : Nat) (dd : Option Addr) (sl : Array (Option Value)) (x : Int) (u : Tok) (c0 : (decide (x < -(2 ^ 63)) || decide (x ≥ 2 ^ 63)) = false) (c1 : (items.isEmpty || x == 1) = true) :
    Meets (Builtin.«tuple.__mul__» ⟨[.ref l, .int x u], []⟩) (fun _ R s => s.heap.get? l = some { cls := .type "tuple", dict := dd, data := .seq items n, slots := sl } ∧ R (.ok (.ret (Value.ref l))) s) :=
  .of_wp fun prog w A R s h => by
    obtain ⟨hp, g, d, tk, os⟩ := s
    obtain ⟨hl, h⟩ := h
    have f1 := AutoSeq1.idx_int
    wp_walk using wpAny_loadPart' hl
    repeat (first
      | (refine wpAny_ite_false (decide_eq_false (by rw [c0]; exact Bool.false_ne_true)) ?_; wp_walk using wpAny_loadPart' hl)
      | (refine wpAny_ite_true (decide_eq_true c1) ?_; wp_walk using wpAny_loadPart' hl))
    exact ⟨_, rfl, h⟩
theorem tupMul_none (l : Addr) (items : Array Value) (n : Nat) (dd : Option Addr) (sl : Array (Option Value)) (x : Int) (u : Tok) (c0 : (decide (x < -(2 ^ 63)) || decide (x ≥ 2 ^ 63)) = false) (c1 : (items.isEmpty || x == 1) = false) (c2 : (decide (x ≤ 0) || items.isEmpty) = true) :
    Meets (Builtin.«tuple.__mul__» ⟨[.ref l, .int x u], []⟩) (fun _ R s => s.heap.get? l = some { cls := .type "tuple", dict := dd, data := .seq items n, slots := sl } ∧
      R (.ok (.ret (Value.ref s.heap.objs.size))) { s with heap := s.heap.push { cls := Value.type "tuple", data := Data.seq #[] }, toks := s.toks }) :=
  .of_wp fun prog w A R s h => by
    obtain ⟨hp, g, d, tk, os⟩ := s
    obtain ⟨hl, h⟩ := h
    have f1 := AutoSeq1.idx_int
    wp_walk using wpAny_loadPart' hl
    repeat (first
      | (refine wpAny_ite_false (decide_eq_false (by rw [c0]; exact Bool.false_ne_true)) ?_; wp_walk using wpAny_loadPart' hl)
      | (refine wpAny_ite_false (decide_eq_false (by rw [c1]; exact Bool.false_ne_true)) ?_; wp_walk using wpAny_loadPart' hl)
      | (refine wpAny_ite_true (decide_eq_true c2) ?_; wp_walk using wpAny_loadPart' hl))
    exact ⟨_, rfl, h⟩
/-- tuple * int, any small count -/
def rRepU (K : Fg) : R2 := fun x y H Q => ∃ l k xs, x = .ref l ∧ y = .int k ∧ SqT K H l xs ∧ -(2 ^ 63) ≤ k ∧ k ≤ 1000 ∧ xs.length ≤ 1000 ∧
  ((xs = [] ∨ k = 1) ∧ Q (.ref l) H ∨ xs ≠ [] ∧ k ≠ 1 ∧ ∀ p, H p = none → Q (.ref p) (upd H p (.tup (List.replicate k.toNat xs).flatten)))
theorem op_repU {X : Cx} : OpR X (binaryOp .Mult) (rRepU X.K) := by
  intro pins s σ H x y v u Q I rx ry h
  obtain ⟨l, k, xs, rfl, rfl, hT, h0, h2, hz, q⟩ := h
  by_cases hk : xs ≠ [] ∧ 2 ≤ k
  · refine op_repT pins s σ H _ _ v u Q I rx ry ⟨l, k, xs, rfl, rfl, hT, hk.1, hk.2, h2, hz, ?_⟩
    rcases q with ⟨q | q, _⟩ | ⟨_, _, q⟩
    · exact absurd q hk.1
    · omega
    · exact q
  cases rx
  obtain ⟨t, rfl⟩ := ry
  obtain ⟨its, r, ⟨⟨cls, dd, data, sl⟩, ho, hc, n, hd⟩, hs⟩ := I.tuple hT
  simp only at hc hd
  subst hc hd
  have hle : its.length = xs.length := r.length.symm
  have c0 : (decide (k < -(2 ^ 63)) || decide (k ≥ 2 ^ 63)) = false := by
    rw [decide_eq_false (by omega), decide_eq_false (by omega)] <;> rfl
  rcases q with ⟨hq, q⟩ | ⟨hne, hk1, q⟩
  · have c1 : (its.toArray.isEmpty || k == 1) = true := by
      rcases hq with z | z
      · have : its = [] := List.eq_nil_of_length_eq_zero (by rw [hle, z]; rfl)
        rw [this]
        rfl
      · rw [z]
        simp
    refine wpAny_binaryOp_repeat_ref (T := "tuple") (U := "int") (by decide) ⟨_, ho, rfl⟩ (fun s' => typeIs_int s' k t) noFill_tuple_mul F.fills_int_mul F.slot_int_rmul repeat_tuple F.slot_int_index.lookup
      (call_meets F.slot_int_rmul (typeIs_int s k t) F.entry_int_rmul (F.args_int_rmul_2 _ _) (int_rmul_tuple k t l its.toArray n dd sl)
        ⟨ho, rfl, ⟨_, ho, rfl⟩, call_meets F.slot_tuple_mul ⟨_, ho, rfl⟩ F.entry_tuple_mul (F.args_tuple_mul_2 _ _) (tupMul_same l its.toArray n dd sl k t c0 c1) ⟨ho, ?_⟩⟩)
    exact ⟨.ref l, _, I, rfl, q⟩
  · have hn : its ≠ [] := fun e => hne (by
      rw [e] at hle
      exact List.eq_nil_of_length_eq_zero hle.symm)
    have hi : its.toArray.isEmpty = false := by
      cases its with
      | nil => exact absurd rfl hn
      | cons a b => rfl
    have hk0 : k ≤ 0 := by
      rcases Classical.em (2 ≤ k) with z | z
      · exact absurd ⟨hne, z⟩ hk
      · omega
    have c1 : (its.toArray.isEmpty || k == 1) = false := by
      rw [hi, Bool.false_or]
      exact beq_eq_false_iff_ne.mpr (by omega)
    have c2 : (decide (k ≤ 0) || its.toArray.isEmpty) = true := by
      rw [decide_eq_true hk0]
      rfl
    refine wpAny_binaryOp_repeat_ref (T := "tuple") (U := "int") (by decide) ⟨_, ho, rfl⟩ (fun s' => typeIs_int s' k t) noFill_tuple_mul F.fills_int_mul F.slot_int_rmul repeat_tuple F.slot_int_index.lookup
      (call_meets F.slot_int_rmul (typeIs_int s k t) F.entry_int_rmul (F.args_int_rmul_2 _ _) (int_rmul_tuple k t l its.toArray n dd sl)
        ⟨ho, rfl, ⟨_, ho, rfl⟩, call_meets F.slot_tuple_mul ⟨_, ho, rfl⟩ F.entry_tuple_mul (F.args_tuple_mul_2 _ _) (tupMul_none l its.toArray n dd sl k t c0 c1 c2) ⟨ho, ?_⟩⟩)
    have e0 : (List.replicate k.toNat xs).flatten = [] := by
      rw [show k.toNat = 0 by omega]
      rfl
    rw [e0] at q
    exact ⟨.ref s.heap.objs.size, _, I.laid (t' := s.toks) (o := .tup []) (fun b ob q => Heap.get?_push_of_some _ q) (Nat.le_refl _) ⟨Nat.zero_le _, _, .nil, IsTup.new _ _⟩, rfl, q _ (I.hok.fresh (Nat.le_refl _))⟩
end DL

/-! DOps: operators, comparisons, subscripts by data. -/
namespace DL
open PySem L2
variable [TN]
section
variable {X : Cx} {K : Fg} {cl : Cl}
/-! ### + - * // % ** -/
def rAddU (K : Fg) : R2 := fun x y H Q => rI0 (fun i j => .int (i + j)) x y H Q ∨ (∃ i j, x = .str i ∧ y = .str j ∧ i.length + j.length ≤ sizeLine ∧ Q (.str (i ++ j)) H) ∨ rCatA K x y H Q ∨ rCat x y H Q
theorem op_addU : OpR X (binaryOp .Add) (rAddU X.K) := op_add.or (op_add_str.or (op_catA.or op_cat))
theorem Reps.append {F : Hp} {vs us : List V} {ds es : List D} (a : Reps K cl F vs ds) (b : Reps K cl F us es) : Reps K cl F (vs ++ us) (ds ++ es) := by
  induction ds generalizing vs with
  | nil => cases a; exact b
  | cons d ds ih => cases a with
    | cons h r => exact .cons h (ih r)
theorem Reps.nil_iff {F : Hp} {vs : List V} {ds : List D} (a : Reps K cl F vs ds) : vs = [] ↔ ds = [] := by
  cases a <;> simp
theorem rf_add : RfOp K cl (rAddU K) oAdd where
  mono := fun x y P P' h q => by
    cases x <;> cases y <;> first | exact h _ q | exact ⟨q.1, h _ q.2⟩ | exact q.elim
  ok := fun F H v u x y Q s rx ry q => by
    cases rx with
    | int i => cases ry with
      | int j => exact .inl ⟨i, j, rfl, rfl, q _ F H (Gr.refl s) (.int _)⟩
      | _ => exact q.elim
    | str i => cases ry with
      | str j => exact .inr (.inl ⟨i, j, rfl, rfl, by rw [← line_eq]; exact q.1, q.2 _ F H (Gr.refl s) (.str _)⟩)
      | _ => exact q.elim
    | tup hx r1 => cases ry with
      | tup hy r2 =>
        obtain ⟨hz, q⟩ := q
        rename_i a vs ds b us es
        refine .inr (.inr (.inl ⟨a, b, vs, us, rfl, rfl, same_t s hx, same_t s hy, by rw [r1.length, r2.length, ← line_eq]; exact hz, fun e => ?_, fun _ e => ?_, fun _ _ p hp => ?_⟩))
        · have e' := r1.nil_iff.mp e
          subst e'
          exact q _ F H (Gr.refl s) (.tup hy r2)
        · have e' := r2.nil_iff.mp e
          subst e'
          rw [List.append_nil] at q
          exact q _ F H (Gr.refl s) (.tup hx r1)
        · exact q _ (upd F p (.tup (vs ++ us))) _ (Gr.new s hp) (.tup (SqT.of upd_same) ((r1.append r2).mono (same_upd (s.free hp))))
      | _ => exact q.elim
    | lst hx r1 => cases ry with
      | lst hy r2 =>
        obtain ⟨hz, q⟩ := q
        rename_i a vs ds b us es
        refine .inr (.inr (.inr ⟨a, b, vs, us, rfl, rfl, s _ _ hx, s _ _ hy, by rw [r1.length, r2.length, ← line_eq]; exact hz, fun p hp => ?_⟩))
        exact q _ (upd F p (.lst (vs ++ us))) _ (Gr.new s hp) (.lst upd_same ((r1.append r2).mono (same_upd (s.free hp))))
      | _ => exact q.elim
    | _ => exact q.elim
theorem rf_I0 {g : Int → Int → Int} {f : D → D → DK → Prop} (hf : ∀ i j Q, f (.int i) (.int j) Q = Q (.int (g i j))) (hn : ∀ x y Q, f x y Q → ∃ i j, x = .int i ∧ y = .int j) : RfOp K cl (rI0 fun i j => .int (g i j)) f where
  mono := fun x y P P' h q => by
    obtain ⟨i, j, rfl, rfl⟩ := hn x y P q
    rw [hf] at q ⊢
    exact h _ q
  ok := fun F H v u x y Q s rx ry q => by
    obtain ⟨i, j, rfl, rfl⟩ := hn x y _ q
    rw [hf] at q
    cases rx
    cases ry
    exact ⟨i, j, rfl, rfl, q _ F H (Gr.refl s) (.int _)⟩
theorem rf_I {C : Int → Int → Prop} {g : Int → Int → Int} {f : D → D → DK → Prop} (hf : ∀ i j Q, f (.int i) (.int j) Q = (C i j ∧ Q (.int (g i j)))) (hn : ∀ x y Q, f x y Q → ∃ i j, x = .int i ∧ y = .int j) : RfOp K cl (rI C fun i j => .int (g i j)) f where
  mono := fun x y P P' h q => by
    obtain ⟨i, j, rfl, rfl⟩ := hn x y P q
    rw [hf] at q ⊢
    exact ⟨q.1, h _ q.2⟩
  ok := fun F H v u x y Q s rx ry q => by
    obtain ⟨i, j, rfl, rfl⟩ := hn x y _ q
    rw [hf] at q
    cases rx
    cases ry
    exact ⟨i, j, rfl, rfl, q.1, q.2 _ F H (Gr.refl s) (.int _)⟩
theorem rf_sub : RfOp K cl (rI0 fun i j => .int (i - j)) oSub := rf_I0 (fun _ _ _ => rfl) fun x y Q q => by cases x <;> cases y <;> first | exact ⟨_, _, rfl, rfl⟩ | exact q.elim
theorem rf_div : RfOp K cl (rI CDivW fun i j => .int (i / j)) oDiv := rf_I (fun _ _ _ => rfl) fun x y Q q => by cases x <;> cases y <;> first | exact ⟨_, _, rfl, rfl⟩ | exact q.elim
theorem rf_mod : RfOp K cl (rI (fun _ j => 0 < j) fun i j => .int (i % j)) oMod := rf_I (fun _ _ _ => rfl) fun x y Q q => by cases x <;> cases y <;> first | exact ⟨_, _, rfl, rfl⟩ | exact q.elim
theorem rf_pow : RfOp K cl (rI CPow fun i j => .int (i ^ j.toNat)) oPow := rf_I (fun _ _ _ => rfl) fun x y Q q => by cases x <;> cases y <;> first | exact ⟨_, _, rfl, rfl⟩ | exact q.elim
def rMulU (K : Fg) : R2 := fun x y H Q => rI CMulW (fun i j => .int (i * j)) x y H Q ∨ rRep x y H Q ∨ rRepU K x y H Q
theorem op_mulU : OpR X (binaryOp .Mult) (rMulU X.K) := op_mulW.or (op_rep.or op_repU)
theorem Reps.rep {F : Hp} {vs : List V} {ds : List D} (a : Reps K cl F vs ds) : ∀ k : Nat, Reps K cl F (List.replicate k vs).flatten (List.replicate k ds).flatten
  | 0 => .nil
  | k + 1 => by
    rw [List.replicate_succ, List.replicate_succ, List.flatten_cons, List.flatten_cons]
    exact a.append (Reps.rep a k)
theorem rf_mul : RfOp K cl (rMulU K) oMul where
  mono := fun x y P P' h q => by
    cases x <;> cases y <;> first | exact ⟨q.1, h _ q.2⟩ | exact ⟨q.1, q.2.1, q.2.2.1, h _ q.2.2.2⟩ | exact ⟨q.1, q.2.1, q.2.2.1, h _ q.2.2.2⟩ | exact q.elim
  ok := fun F H v u x y Q s rx ry q => by
    cases rx with
    | int i => cases ry with
      | int j => exact .inl ⟨i, j, rfl, rfl, q.1, q.2 _ F H (Gr.refl s) (.int _)⟩
      | _ => exact q.elim
    | lst hx r1 => cases ry with
      | int k =>
        obtain ⟨h1, h2, h3, q⟩ := q
        rename_i a vs ds
        refine .inr (.inl ⟨a, k, vs, rfl, rfl, s _ _ hx, h1, h2, by rw [r1.length, ← line_eq]; exact h3, fun p hp => ?_⟩)
        exact q _ (upd F p (.lst _)) _ (Gr.new s hp) (.lst upd_same ((r1.rep _).mono (same_upd (s.free hp))))
      | _ => exact q.elim
    | tup hx r1 => cases ry with
      | int k =>
        obtain ⟨h1, h2, h3, q⟩ := q
        rename_i a vs ds
        refine .inr (.inr ⟨a, k, vs, rfl, rfl, same_t s hx, h1, h2, by rw [r1.length]; exact h3, ?_⟩)
        by_cases hv : vs = [] ∨ k = 1
        · refine .inl ⟨hv, q _ F H (Gr.refl s) ?_⟩
          have e : (List.replicate k.toNat ds).flatten = ds := by
            rcases hv with z | z
            · subst z
              cases r1
              simp
            · subst z
              simp
          rw [e]
          exact .tup hx r1
        · refine .inr ⟨fun z => hv (.inl z), fun z => hv (.inr z), fun p hp => ?_⟩
          exact q _ (upd F p (.tup _)) _ (Gr.new s hp) (.tup (.inl (.inl upd_same)) ((r1.rep _).mono (same_upd (s.free hp))))
      | _ => exact q.elim
    | _ => exact q.elim
theorem rf_neg : RfU K cl (rU fun i => .int (-i)) oNeg where
  mono := fun x P P' h q => by cases x <;> first | exact h _ q | exact q.elim
  ok := fun F H v x Q s rx q => by
    cases rx with
    | int i => exact ⟨i, rfl, q _ F H (Gr.refl s) (.int _)⟩
    | _ => exact q.elim
/-! ### == != -/
mutual
def toPy : D → PyData
  | .non => .none
  | .bl b => .bool b
  | .int i => .int i
  | .str x => .str x
  | .tup l => .tuple (toPys l)
  | .lst l => .list (toPys l)
  | _ => .none
def toPys : List D → List PyData
  | [] => []
  | d :: r => toPy d :: toPys r
end
mutual
theorem dp_of {F : Hp} : ∀ (n : Nat) (d : D) (v : V), okD n d = true → Rep K cl F v d → Dp K F v (toPy d)
  | _, .non, _, _, .non => by simp only [toPy]; exact .non
  | _, .bl b, _, _, .bl _ => by simp only [toPy]; exact .bl _
  | _, .int i, _, _, .int _ => by simp only [toPy]; exact .int _
  | _, .str x, _, _, .str _ => by simp only [toPy]; exact .str _
  | n + 1, .tup l, _, h, .tup e r => by
    simp only [toPy]
    exact .tup e (dps_of n l _ (by simpa [okD] using h) r)
  | n + 1, .lst l, _, h, .lst e r => by
    simp only [toPy]
    exact .lst (SqL.of e) (dps_of n l _ (by simpa [okD] using h) r)
  | 0, .tup l, _, h, _ => by simp [okD] at h
  | 0, .lst l, _, h, _ => by simp [okD] at h
theorem dps_of {F : Hp} : ∀ (n : Nat) (l : List D) (vs : List V), okDs n l = true → Reps K cl F vs l → DpAll K F vs (toPys l)
  | _, [], _, _, .nil => by simp only [toPys]; exact .nil
  | n, d :: l, _, h, .cons e r => by
    have h' : okD n d = true ∧ okDs n l = true := by simpa [okDs] using h
    simp only [toPys]
    exact .cons (dp_of n d _ h'.1 e) (dps_of n l _ h'.2 r)
end
mutual
theorem eqv_of : ∀ (n m : Nat) (a b : D), okD n a = true → okD m b = true → PyData.eqv (toPy a) (toPy b) = eqD a b
  | n, m, a, b, ha, hb => by
    cases a with
    | tup l =>
      cases n with
      | zero => simp [okD] at ha
      | succ n =>
        have ha' : okDs n l = true := by simpa [okD] using ha
        cases b with
        | tup k =>
          cases m with
          | zero => simp [okD] at hb
          | succ m =>
            have hb' : okDs m k = true := by simpa [okD] using hb
            have := eqvs_of n m l k ha' hb'
            simpa [toPy, eqD, PyData.eqv] using this
        | _ => first | (simp [toPy, eqD, PyData.eqv]; done) | (exfalso; cases m <;> simp [okD] at hb)
    | lst l =>
      cases n with
      | zero => simp [okD] at ha
      | succ n =>
        have ha' : okDs n l = true := by simpa [okD] using ha
        cases b with
        | lst k =>
          cases m with
          | zero => simp [okD] at hb
          | succ m =>
            have hb' : okDs m k = true := by simpa [okD] using hb
            have := eqvs_of n m l k ha' hb'
            simpa [toPy, eqD, PyData.eqv] using this
        | _ => first | (simp [toPy, eqD, PyData.eqv]; done) | (exfalso; cases m <;> simp [okD] at hb)
    | _ =>
      cases b <;> first
        | (simp [toPy, eqD, PyData.eqv]; done)
        | (exfalso; cases n <;> simp [okD] at ha; done)
        | (exfalso; cases m <;> simp [okD] at hb; done)
theorem eqvs_of : ∀ (n m : Nat) (a b : List D), okDs n a = true → okDs m b = true → PyData.eqvAll (toPys a) (toPys b) = eqDs a b
  | n, m, [], [], _, _ => by simp [toPys, eqDs, PyData.eqvAll]
  | n, m, [], _ :: _, _, _ => by simp [toPys, eqDs, PyData.eqvAll]
  | n, m, _ :: _, [], _, _ => by simp [toPys, eqDs, PyData.eqvAll]
  | n, m, x :: a, y :: b, ha, hb => by
    have ha' : okD n x = true ∧ okDs n a = true := by simpa [okDs] using ha
    have hb' : okD m y = true ∧ okDs m b = true := by simpa [okDs] using hb
    simp only [toPys, eqDs, PyData.eqvAll]
    rw [eqv_of n m x y ha'.1 hb'.1, eqvs_of n m a b ha'.2 hb'.2]
end

mutual
theorem lay_of : ∀ (n : Nat) (d : D), okD n d = true → (toPy d).canLay0 = true ∧ (toPy d).depth ≤ n
  | n, .non, _ => by simp [toPy, PyData.canLay0, PyData.depth]
  | n, .bl _, _ => by simp [toPy, PyData.canLay0, PyData.depth]
  | n, .int _, _ => by simp [toPy, PyData.canLay0, PyData.depth]
  | n, .str x, h => by
    have h' : x.cps.all (· < 0x110000) = true := by simpa only [okD] using h
    exact ⟨by simp only [toPy, PyData.canLay0]; exact h', by simp [toPy, PyData.depth]⟩
  | 0, .tup l, h => by simp [okD] at h
  | 0, .lst l, h => by simp [okD] at h
  | n + 1, .tup l, h => by
    have := lays_of n l (by simpa [okD] using h)
    simp only [toPy, PyData.canLay0, PyData.depth]
    exact ⟨this.1, by omega⟩
  | n + 1, .lst l, h => by
    have := lays_of n l (by simpa [okD] using h)
    simp only [toPy, PyData.canLay0, PyData.depth]
    exact ⟨this.1, by omega⟩
  | n, .dk _, h => by cases n <;> simp [okD] at h
  | n, .dt _, h => by cases n <;> simp [okD] at h
  | n, .ins _ _, h => by cases n <;> simp [okD] at h
  | n, .st, h => by cases n <;> simp [okD] at h
  | n, .scr _, h => by cases n <;> simp [okD] at h
  | n, .fn _, h => by cases n <;> simp [okD] at h
theorem lays_of : ∀ (n : Nat) (l : List D), okDs n l = true → PyData.canLayAll0 (toPys l) = true ∧ PyData.depthAll (toPys l) ≤ n
  | n, [], _ => by simp [toPys, PyData.canLayAll0, PyData.depthAll]
  | n, d :: l, h => by
    have h' : okD n d = true ∧ okDs n l = true := by simpa [okDs] using h
    have a := lay_of n d h'.1
    have b := lays_of n l h'.2
    simp only [toPys, PyData.canLayAll0, PyData.depthAll]
    exact ⟨by rw [a.1, b.1]; rfl, by omega⟩
end
theorem shaped_of {n : Nat} {d : D} (hn : n ≤ 64) (h : okD n d = true) : SeqAt.shaped (toPy d) = true := by
  have := lay_of n d h
  unfold SeqAt.shaped
  rw [this.1, decide_eq_true (show (toPy d).depth ≤ 64 by omega)]
  rfl
theorem rf_eq : RfOp K cl (rEqD K) oEq where
  mono := fun x y P P' h q => ⟨q.1, q.2.1, h _ q.2.2⟩
  ok := fun F H v u x y Q s rx ry q => by
    obtain ⟨h1, h2, q⟩ := q
    refine ⟨toPy x, toPy y, dp_of 60 x v h1 (rx.mono s), dp_of 60 y u h2 (ry.mono s), shaped_of (by decide) h1, shaped_of (by decide) h2, ?_⟩
    rw [eqv_of 60 60 x y h1 h2]
    exact q _ F H (Gr.refl s) (.bl _)
theorem rf_ne : RfOp K cl (rNeD K) oNe where
  mono := fun x y P P' h q => ⟨q.1, q.2.1, h _ q.2.2⟩
  ok := fun F H v u x y Q s rx ry q => by
    obtain ⟨h1, h2, q⟩ := q
    refine ⟨toPy x, toPy y, dp_of 60 x v h1 (rx.mono s), dp_of 60 y u h2 (ry.mono s), shaped_of (by decide) h1, shaped_of (by decide) h2, ?_⟩
    rw [eqv_of 60 60 x y h1 h2]
    exact q _ F H (Gr.refl s) (.bl _)
/-! ### order -/
def rCmpU (g : Int → Int → Bool) (h : Str → Str → Bool) : R2 := fun x y H Q => rI0 (fun i j => .bl (g i j)) x y H Q ∨ ∃ i j, x = .str i ∧ y = .str j ∧ Q (.bl (h i j)) H
theorem rf_cmpU {g : Int → Int → Bool} {h : Str → Str → Bool} {f : D → D → DK → Prop} (hi : ∀ i j Q, f (.int i) (.int j) Q = Q (.bl (g i j))) (hs : ∀ i j Q, f (.str i) (.str j) Q = Q (.bl (h i j)))
    (hn : ∀ x y Q, f x y Q → (∃ i j, x = .int i ∧ y = .int j) ∨ ∃ i j, x = .str i ∧ y = .str j) : RfOp K cl (rCmpU g h) f where
  mono := fun x y P P' h q => by
    rcases hn x y P q with ⟨i, j, rfl, rfl⟩ | ⟨i, j, rfl, rfl⟩
    · rw [hi] at q ⊢; exact h _ q
    · rw [hs] at q ⊢; exact h _ q
  ok := fun F H v u x y Q s rx ry q => by
    rcases hn x y _ q with ⟨i, j, rfl, rfl⟩ | ⟨i, j, rfl, rfl⟩
    · rw [hi] at q
      cases rx
      cases ry
      exact .inl ⟨i, j, rfl, rfl, q _ F H (Gr.refl s) (.bl _)⟩
    · rw [hs] at q
      cases rx
      cases ry
      exact .inr ⟨i, j, rfl, rfl, q _ F H (Gr.refl s) (.bl _)⟩
theorem op_ltU : OpR X (compareOp .Lt) (rCmpU (fun i j => decide (i < j)) fun i j => decide (i.cps.toList < j.cps.toList)) := op_lt.or op_lt_str
theorem op_leU : OpR X (compareOp .LtE) (rCmpU (fun i j => decide (i ≤ j)) fun i j => !decide (j.cps.toList < i.cps.toList)) := op_le.or op_le_str
theorem op_gtU : OpR X (compareOp .Gt) (rCmpU (fun i j => decide (j < i)) fun i j => decide (j.cps.toList < i.cps.toList)) := op_gt.or op_gt_str
theorem op_geU : OpR X (compareOp .GtE) (rCmpU (fun i j => decide (j ≤ i)) fun i j => !decide (i.cps.toList < j.cps.toList)) := op_ge.or op_ge_str
theorem rf_lt : RfOp K cl (rCmpU (fun i j => decide (i < j)) fun i j => decide (i.cps.toList < j.cps.toList)) oLt := rf_cmpU (fun _ _ _ => rfl) (fun _ _ _ => rfl) fun x y Q q => by
  cases x <;> cases y <;> first | exact .inl ⟨_, _, rfl, rfl⟩ | exact .inr ⟨_, _, rfl, rfl⟩ | exact q.elim
theorem rf_le : RfOp K cl (rCmpU (fun i j => decide (i ≤ j)) fun i j => !decide (j.cps.toList < i.cps.toList)) oLe := rf_cmpU (fun _ _ _ => rfl) (fun _ _ _ => rfl) fun x y Q q => by
  cases x <;> cases y <;> first | exact .inl ⟨_, _, rfl, rfl⟩ | exact .inr ⟨_, _, rfl, rfl⟩ | exact q.elim
theorem rf_gt : RfOp K cl (rCmpU (fun i j => decide (j < i)) fun i j => decide (j.cps.toList < i.cps.toList)) oGt := rf_cmpU (fun _ _ _ => rfl) (fun _ _ _ => rfl) fun x y Q q => by
  cases x <;> cases y <;> first | exact .inl ⟨_, _, rfl, rfl⟩ | exact .inr ⟨_, _, rfl, rfl⟩ | exact q.elim
theorem rf_ge : RfOp K cl (rCmpU (fun i j => decide (j ≤ i)) fun i j => !decide (i.cps.toList < j.cps.toList)) oGe := rf_cmpU (fun _ _ _ => rfl) (fun _ _ _ => rfl) fun x y Q q => by
  cases x <;> cases y <;> first | exact .inl ⟨_, _, rfl, rfl⟩ | exact .inr ⟨_, _, rfl, rfl⟩ | exact q.elim
/-! ### is None -/
theorem Rep.isNon {F : Hp} {v : V} {d : D} (r : Rep K cl F v d) : decide (v = .non) = DL.isNon d := by
  cases r <;> rfl
theorem rf_isN : RfOp K cl (fun x y H Q => y = .non ∧ Q (.bl (decide (x = .non))) H) (fun x y Q => isNon y = true ∧ oIsN x Q) where
  mono := fun x y P P' h q => ⟨q.1, h _ q.2⟩
  ok := fun F H v u x y Q s rx ry q => by
    refine ⟨?_, ?_⟩
    · have := q.1
      cases ry <;> first | rfl | cases this
    · rw [rx.isNon]
      exact q.2 _ F H (Gr.refl s) (.bl _)
theorem rf_notN : RfOp K cl (fun x y H Q => y = .non ∧ Q (.bl (!decide (x = .non))) H) (fun x y Q => isNon y = true ∧ oNotN x Q) where
  mono := fun x y P P' h q => ⟨q.1, h _ q.2⟩
  ok := fun F H v u x y Q s rx ry q => by
    refine ⟨?_, ?_⟩
    · have := q.1
      cases ry <;> first | rfl | cases this
    · rw [rx.isNon]
      exact q.2 _ F H (Gr.refl s) (.bl _)
end
end DL

/-! DOps2: in, subscripts, slices, truth. -/
namespace DL
open PySem L2 PyProof.Rows
variable [TN]
section
variable {X : Cx} {K : Fg} {cl : Cl}
/-! ### in -/
theorem Reps.flat {F : Hp} : ∀ {vs : List V} {ds : List D}, Reps K cl F vs ds → ds.all isFlat = true → vs.all flatV = true
  | _, _, .nil, _ => rfl
  | _, _, .cons h r, q => by
    rw [List.all_cons, Bool.and_eq_true] at q ⊢
    refine ⟨?_, Reps.flat r q.2⟩
    cases h <;> first | rfl | (have := q.1; cases this)
theorem Rep.flat1 {F : Hp} {v : V} {d : D} (h : Rep K cl F v d) (q : isFlat d = true) : flatV v = true := by
  cases h <;> first | rfl | cases q
theorem eqV_D {F : Hp} {v u : V} {d e : D} (h : Rep K cl F v d) (g : Rep K cl F u e) (q : isFlat d = true) (p : isFlat e = true) : eqV v u = eqD d e := by
  cases h <;> first | (cases q; done) | (cases g <;> first | (cases p; done) | (simp [eqV, eqD]; done))
theorem inV_D {F : Hp} {v : V} {d : D} (h : Rep K cl F v d) (q : isFlat d = true) : ∀ {vs : List V} {ds : List D}, Reps K cl F vs ds → ds.all isFlat = true → inV v vs = inD d ds
  | _, _, .nil, _ => rfl
  | _, _, .cons g r, p => by
    rw [List.all_cons, Bool.and_eq_true] at p
    have ih := inV_D h q r p.2
    unfold inV inD at ih ⊢
    rw [List.any_cons, List.any_cons, ih, eqV_D g h p.1 q]
theorem any_D {n m : Nat} {d : D} (hd : okD n d = true) : ∀ {ds : List D}, okDs m ds = true → ((toPys ds).any fun z => PyData.eqv z (toPy d)) = inD d ds
  | [], _ => rfl
  | e :: ds, h => by
    have h' : okD m e = true ∧ okDs m ds = true := by simpa [okDs] using h
    have ih := any_D hd h'.2
    unfold inD at ih ⊢
    simp only [toPys]
    rw [List.any_cons, List.any_cons, ih, eqv_of m n e d h'.1 hd]
def rInK : R2 := fun y x H Q => ∃ a o, x = .ref a ∧ DGet H a y o ∧ Q (.bl o.isSome) H
theorem op_inK (hu : X.A.units + 1 < cLine) : OpR X (compareOp .In) rInK := by
  intro pins s σ H y x iv u Q I ry rx h
  obtain ⟨a, o, rfl, g, q⟩ := h
  obtain rfl : u = Value.ref a := rx
  exact d_in hu I g ry fun s3 I3 => ⟨.bl o.isSome, H, I3, rfl, q⟩
/-- in a tuple of data of any depth -/
def rInDT (K : Fg) : R2 := fun x y H Q => ∃ d ds, Dp K H x d ∧ Dp K H y (.tuple ds) ∧ SeqAt.shaped d = true ∧ SeqAt.shaped (.tuple ds) = true ∧ Q (.bl (ds.any fun z => PyData.eqv z d)) H
theorem op_inDT (hu : X.A.units + 65 < cLine) : OpR X (compareOp .In) (rInDT X.K) := fun pins s σ H x y v u Q I rx ry h => by
  obtain ⟨e, es, h1, h2, s1, s2, q⟩ := h
  obtain ⟨_, r1⟩ := Dp.reads I e x v h1 rx
  obtain ⟨_, r2⟩ := Dp.reads I (.tuple es) y u h2 ry
  exact SeqAt.in_tuple_reads r2 r1 (SeqAt.canLay_of_shaped s2) (SeqAt.canLay_of_shaped s1) (room_in_shaped s1 hu) ⟨.bl _, H, I, rfl, q⟩
def rNotInDT (K : Fg) : R2 := fun x y H Q => ∃ d ds, Dp K H x d ∧ Dp K H y (.tuple ds) ∧ SeqAt.shaped d = true ∧ SeqAt.shaped (.tuple ds) = true ∧ Q (.bl (!ds.any fun z => PyData.eqv z d)) H
theorem op_notInDT (hu : X.A.units + 65 < cLine) : OpR X (compareOp .NotIn) (rNotInDT X.K) := fun pins s σ H x y v u Q I rx ry h => by
  obtain ⟨e, es, h1, h2, s1, s2, q⟩ := h
  obtain ⟨_, r1⟩ := Dp.reads I e x v h1 rx
  obtain ⟨_, r2⟩ := Dp.reads I (.tuple es) y u h2 ry
  exact SeqAt.notIn_tuple_reads r2 r1 (SeqAt.canLay_of_shaped s2) (SeqAt.canLay_of_shaped s1) (room_in_shaped s1 hu) ⟨.bl _, H, I, rfl, q⟩
def rInU (K : Fg) : R2 := fun x y H Q => rInD K x y H Q ∨ rIn K false x y H Q ∨ rInK x y H Q ∨ rInDT K x y H Q
theorem op_inU (hu : X.A.units + 65 < cLine) : OpR X (compareOp .In) (rInU X.K) := (op_inD hu).or (op_in_seq.or ((op_inK (by omega)).or (op_inDT hu)))
theorem keyOf_rel {F : Hp} {v : V} {d : D} {k : DL.Key} (r : Rep K cl F v d) (h : keyOf d = some k) : v = kV k := by
  cases r <;> first | (cases h; rfl) | cases h
theorem KReps.look {F : Hp} (k : DL.Key) : ∀ {ws : List (L2.Key × V)} {kvs : List (DL.Key × D)}, KReps K cl F ws kvs → (lookD kvs k = none ∧ valV ws k = none) ∨ ∃ v d, lookD kvs k = some d ∧ valV ws k = some v ∧ Rep K cl F v d
  | _, _, .nil => .inl ⟨rfl, rfl⟩
  | _, _, .cons (k := k') h r => by
    have ih := KReps.look k r
    unfold lookD valV at ih ⊢
    rw [List.find?_cons, List.find?_cons]
    by_cases e : k' = k
    · simp only [e, decide_true]
      exact .inr ⟨_, _, rfl, rfl, h⟩
    · simp only [e, decide_false]
      exact ih
theorem rf_in : RfOp K cl (rInU K) oIn where
  mono := fun x y P P' h q => by
    cases y with
    | lst l => exact ⟨q.1, q.2.1, h _ q.2.2⟩
    | tup l => exact ⟨q.1, h _ q.2⟩
    | dk l =>
      simp only [oIn] at q ⊢
      cases e : keyOf x with
      | none => rw [e] at q; exact q.elim
      | some k => rw [e] at q; exact h _ q
    | _ => exact q.elim
  ok := fun F H v u x y Q s rx ry q => by
    cases ry with
    | lst e r =>
      rename_i a vs ds
      obtain ⟨h1, h2, q⟩ := q
      have h3 : okD 60 (.lst ds) = true := by simpa [okD] using h2
      refine .inl ⟨toPy x, toPys ds, dp_of 60 x v h1 (rx.mono s), ?_, shaped_of (by decide) h1, ?_, ?_⟩
      · have := dp_of (K := K) (cl := cl) (F := H) 60 (.lst ds) (.ref a) h3 (.lst (s _ _ e) (r.mono s))
        simpa [toPy] using this
      · have := shaped_of (n := 60) (by decide) h3
        simpa [toPy] using this
      · rw [any_D h1 h2]
        exact q _ F H (Gr.refl s) (.bl _)
    | tup e r =>
      rename_i a vs ds
      obtain ⟨hd, q⟩ := q
      rcases hd with ⟨h1, h2⟩ | ⟨h1, h2⟩
      · refine .inr (.inl ⟨_, _, rfl, .inr (same_t s e), rx.flat1 h1, r.flat h2, ?_⟩)
        rw [if_neg (by decide), inV_D rx h1 r h2]
        exact q _ F H (Gr.refl s) (.bl _)
      · have h3 : okD 60 (.tup ds) = true := by simpa [okD] using h2
        refine .inr (.inr (.inr ⟨toPy x, toPys ds, dp_of 60 x v h1 (rx.mono s), ?_, shaped_of (by decide) h1, ?_, ?_⟩))
        · have := dp_of (K := K) (cl := cl) (F := H) 60 (.tup ds) (.ref a) h3 (.tup (same_t s e) (r.mono s))
          simpa [toPy] using this
        · have := shaped_of (n := 60) (by decide) h3
          simpa [toPy] using this
        · rw [any_D h1 h2]
          exact q _ F H (Gr.refl s) (.bl _)
    | dk e r =>
      simp only [oIn] at q
      cases ek : keyOf x with
      | none => rw [ek] at q; exact q.elim
      | some k =>
        rw [ek] at q
        rw [keyOf_rel rx ek]
        refine .inr (.inr (.inl ⟨_, _, rfl, DGet.k (k := k) (s _ _ e), ?_⟩))
        rcases r.look k with ⟨e1, e2⟩ | ⟨w, d, e1, e2, _⟩
        · simp only [e1] at q
          rw [e2]
          exact q _ F H (Gr.refl s) (.bl _)
        · simp only [e1] at q
          rw [e2]
          exact q _ F H (Gr.refl s) (.bl _)
    | _ => exact q.elim
def rNotInK : R2 := fun y x H Q => ∃ a o, x = .ref a ∧ DGet H a y o ∧ Q (.bl (!o.isSome)) H
theorem op_notInK (hu : X.A.units + 1 < cLine) : OpR X (compareOp .NotIn) rNotInK := by
  intro pins s σ H y x iv u Q I ry rx h
  obtain ⟨a, o, rfl, g, q⟩ := h
  obtain rfl : u = Value.ref a := rx
  exact d_notIn hu I g ry fun s3 I3 => ⟨.bl (!o.isSome), H, I3, rfl, q⟩
def rNotInU (K : Fg) : R2 := fun x y H Q => rNotInD K x y H Q ∨ rIn K true x y H Q ∨ rNotInK x y H Q ∨ rNotInDT K x y H Q
theorem op_notInU (hu : X.A.units + 65 < cLine) : OpR X (compareOp .NotIn) (rNotInU X.K) := (op_notInD hu).or (op_notIn_seq.or ((op_notInK (by omega)).or (op_notInDT hu)))
theorem rf_notIn : RfOp K cl (rNotInU K) oNotIn where
  mono := fun x y P P' h q => by
    refine rf_in (K := K) (cl := cl).mono x y _ _ (fun d q => ?_) q
    cases d <;> first | exact h _ q | exact q.elim
  ok := fun F H v u x y Q s rx ry q => by
    unfold oNotIn at q
    cases ry with
    | lst e r =>
      rename_i a vs ds
      obtain ⟨h1, h2, q⟩ := q
      have h3 : okD 60 (.lst ds) = true := by simpa [okD] using h2
      refine .inl ⟨toPy x, toPys ds, dp_of 60 x v h1 (rx.mono s), ?_, shaped_of (by decide) h1, ?_, ?_⟩
      · have := dp_of (K := K) (cl := cl) (F := H) 60 (.lst ds) (.ref a) h3 (.lst (s _ _ e) (r.mono s))
        simpa [toPy] using this
      · have := shaped_of (n := 60) (by decide) h3
        simpa [toPy] using this
      · rw [any_D h1 h2]
        exact q _ F H (Gr.refl s) (.bl _)
    | tup e r =>
      rename_i a vs ds
      obtain ⟨hd, q⟩ := q
      rcases hd with ⟨h1, h2⟩ | ⟨h1, h2⟩
      · refine .inr (.inl ⟨_, _, rfl, .inr (same_t s e), rx.flat1 h1, r.flat h2, ?_⟩)
        rw [if_pos rfl, inV_D rx h1 r h2]
        exact q _ F H (Gr.refl s) (.bl _)
      · have h3 : okD 60 (.tup ds) = true := by simpa [okD] using h2
        refine .inr (.inr (.inr ⟨toPy x, toPys ds, dp_of 60 x v h1 (rx.mono s), ?_, shaped_of (by decide) h1, ?_, ?_⟩))
        · have := dp_of (K := K) (cl := cl) (F := H) 60 (.tup ds) (.ref a) h3 (.tup (same_t s e) (r.mono s))
          simpa [toPy] using this
        · have := shaped_of (n := 60) (by decide) h3
          simpa [toPy] using this
        · rw [any_D h1 h2]
          exact q _ F H (Gr.refl s) (.bl _)
    | dk e r =>
      simp only [oIn] at q
      cases ek : keyOf x with
      | none => rw [ek] at q; exact q.elim
      | some k =>
        rw [ek] at q
        rw [keyOf_rel rx ek]
        refine .inr (.inr (.inl ⟨_, _, rfl, DGet.k (k := k) (s _ _ e), ?_⟩))
        rcases r.look k with ⟨e1, e2⟩ | ⟨w, d, e1, e2, _⟩
        · simp only [e1, neg1] at q
          rw [e2]
          exact q _ F H (Gr.refl s) (.bl _)
        · simp only [e1, neg1] at q
          rw [e2]
          exact q _ F H (Gr.refl s) (.bl _)
    | _ => exact q.elim
/-! ### subscripts -/
def rIxK : R2 := fun x y H Q => ∃ a v, x = .ref a ∧ DGet H a y (some v) ∧ Q v H
theorem ix_dict (hu : X.A.units + 1 < cLine) : IxR X rIxK := by
  intro value slice pins s σ H x y v u Q I rx ry h hs
  obtain ⟨a, w, rfl, g, q⟩ := h
  obtain rfl : v = Value.ref a := rx
  exact tail_any (dict_typeIs I g) PySem.F.slot_dict_getitem.lookup (d_getItem hu I g ry fun w' s3 I3 rw' => ⟨w, H, I3, rw', q⟩) hs
def rIxU (K : Fg) : R2 := fun x y H Q => rIx K x y H Q ∨ rIxK x y H Q
theorem ix_U (hu : X.A.units + 1 < cLine) : IxR X (rIxU X.K) := ix_seq.or (ix_dict hu)
theorem ixN_eq (n : Nat) (i : Int) : L2.ixN n i = DL.ixN n i := rfl
theorem Reps.get {F : Hp} : ∀ {vs : List V} {ds : List D} {j : Nat} {d : D}, Reps K cl F vs ds → ds[j]? = some d → ∃ v, vs[j]? = some v ∧ Rep K cl F v d
  | _, _, _, _, .nil, e => by simp at e
  | _, _, 0, _, .cons h _, e => by simp at e; subst e; exact ⟨_, rfl, h⟩
  | _, _, j + 1, _, .cons _ r, e => by
    obtain ⟨v, h1, h2⟩ := Reps.get (j := j) r (by simpa using e)
    exact ⟨v, by simpa using h1, h2⟩
theorem Reps.atI {F : Hp} {vs : List V} {ds : List D} {i : Int} {d : D} (r : Reps K cl F vs ds) (e : DL.atI ds i = some d) : ∃ v, L2.atI vs i = some v ∧ Rep K cl F v d := by
  unfold DL.atI at e
  unfold L2.atI
  rw [r.length, ixN_eq]
  cases q : DL.ixN ds.length i with
  | none => rw [q] at e; cases e
  | some j =>
    rw [q] at e
    exact r.get e
theorem oGet_some {o : Option D} {Q : DK} (h : oGet o Q) : ∃ d, o = some d ∧ Q d := by
  cases o with
  | none => exact h.elim
  | some d => exact ⟨d, rfl, h⟩
theorem rf_ix : RfOp K cl (rIxU K) oIx where
  mono := fun x y P P' h q => by
    have g : ∀ o, oGet o P → oGet o P' := fun o q => by cases o <;> first | exact q.elim | exact h _ q
    cases x with
    | lst l => cases y <;> first | exact g _ q | exact q.elim
    | tup l => cases y <;> first | exact g _ q | exact q.elim
    | str z => cases y <;> first | exact ⟨q.1, g _ q.2⟩ | exact q.elim
    | dk l =>
      simp only [oIx] at q ⊢
      cases e : keyOf y with
      | none => rw [e] at q; exact q.elim
      | some k => rw [e] at q; exact g _ q
    | _ => exact q.elim
  ok := fun F H v u x y Q s rx ry q => by
    cases rx with
    | lst e r => cases ry with
      | int i =>
        obtain ⟨d, e1, q⟩ := oGet_some q
        obtain ⟨w, e2, rr⟩ := r.atI e1
        exact .inl (.inl ⟨_, _, i, w, rfl, rfl, SqL.of (s _ _ e), e2, q w F H (Gr.refl s) rr⟩)
      | _ => exact q.elim
    | tup e r => cases ry with
      | int i =>
        obtain ⟨d, e1, q⟩ := oGet_some q
        obtain ⟨w, e2, rr⟩ := r.atI e1
        exact .inl (.inr (.inl ⟨_, _, i, w, rfl, rfl, same_t s e, e2, q w F H (Gr.refl s) rr⟩))
      | _ => exact q.elim
    | str z => cases ry with
      | int i =>
        obtain ⟨hz, q⟩ := q
        obtain ⟨d, e1, q⟩ := oGet_some q
        cases e2 : DL.atI z.cps.toList i with
        | none => rw [e2] at e1; cases e1
        | some c =>
          rw [e2] at e1
          cases e1
          exact .inl (.inr (.inr ⟨z, i, c, rfl, rfl, by rw [← line_eq]; exact hz, e2, q _ F H (Gr.refl s) (.str _)⟩))
      | _ => exact q.elim
    | dk e r =>
      simp only [oIx] at q
      cases ek : keyOf y with
      | none => rw [ek] at q; exact q.elim
      | some k =>
        rw [ek] at q
        obtain ⟨d, e1, q⟩ := oGet_some q
        rw [keyOf_rel ry ek]
        rcases r.look k with ⟨e2, e3⟩ | ⟨w, d', e2, e3, rr⟩
        · rw [e2] at e1; cases e1
        · rw [e2] at e1
          cases e1
          have gg := DGet.k (k := k) (s _ _ e)
          rw [e3] at gg
          exact .inr ⟨_, w, rfl, gg, q w F H (Gr.refl s) rr⟩
    | _ => exact q.elim
end
end DL

/-! DStm: slices, targets, statements, loops, list comprehensions, calls. -/
namespace DL
open PySem L2 PyProof.Rows
variable [TN]
/-! ### another base -/
def un (F H0 : Hp) : Hp := fun p => match F p with
  | some o => some o
  | none => H0 p
section
variable {K : Fg} {cl : Cl} {W : WX} {F0 H0 F H F' H' : Hp} {σ σ' : L2.St} {ρ ρ' : DL.Env}
theorem un_none {p : Addr} : un F H0 p = none ↔ F p = none ∧ H0 p = none := by
  unfold un
  cases e : F p <;> simp
theorem Gr.rebase (g : Gr F0 H0 F H) : Gr F (un F H0) F H := by
  refine ⟨Same.refl _, ⟨fun p o e n => ?_, fun P hm C hC t => ?_, fun p e => un_none.mpr ⟨g.s.free e, g.k.free e⟩, fun P ps e => ?_⟩, g.s, fun p a b => absurd b a, fun p ps e => ?_, fun _ _ e => e⟩
  · unfold un at e
    cases q : F p with
    | some u => rw [q] at e; cases e; exact g.s p _ q
    | none => rw [q] at e; exact g.k.o p o e n
  · cases q : F P with
    | some u =>
      refine t.of fun ps e => ?_
      unfold un at e
      rw [q] at e
      cases e
      exact g.s _ _ q
    | none =>
      refine g.k.t P hm C hC (t.of fun ps e => ?_)
      unfold un at e
      rw [q] at e
      exact e
  · cases q : F P with
    | none =>
      obtain ⟨ps1, e1⟩ := g.k.b P ps e
      exact ⟨ps1, by unfold un; rw [q]; exact e1⟩
    | some u =>
      have z := g.s P u q
      rw [e] at z
      exact ⟨ps, by unfold un; rw [q, z]⟩
  · exact .inr (by unfold un; rw [e])
theorem Gr.back (g : Gr F0 H0 F H) (b : Gr F (un F H0) F' H') : Gr F0 H0 F' H' := by
  refine ⟨g.f.trans b.f, ⟨fun p o e n => ?_, fun P hm C hC t => ?_, fun p e => (un_none.mp (b.k.free e)).2, fun P ps e => ?_⟩, b.s, fun p x y => ?_, fun p ps x => ?_, fun p ps x => g.v p ps (b.v p ps x)⟩
  · cases q : F p with
    | none => exact b.k.o p o (by unfold un; rw [q]; exact e) n
    | some u =>
      have e1 := g.k.o p o e n
      have e2 := g.s p u q
      rw [e1] at e2
      cases e2
      exact b.s p _ (b.f p _ q)
  · refine b.k.t P hm C hC (t.of fun ps e => ?_)
    cases q : F P with
    | none => unfold un; rw [q]; exact e
    | some u =>
      have u0 : ∃ ps, u = .tbl ps := by
        have t1 : TabC (fun _ => True) H0 P := by
          obtain ⟨ps, h1, h2, h3⟩ := t
          refine ⟨ps, h1, h2, fun pos cv hc => ?_⟩
          obtain ⟨c, e1, _⟩ := h3 pos cv hc
          exact ⟨c, e1, trivial⟩
        have t' := g.k.t P hm (fun _ => True) (fun _ _ => trivial) t1
        obtain ⟨ps', z, _⟩ := t'
        rw [g.s P u q] at z
        exact ⟨ps', Option.some.inj z⟩
      obtain ⟨ps', rfl⟩ := u0
      rcases g.w P ps' q with z | z
      · rw [e] at z; cases z
      · unfold un
        rw [q, ← z, e]
  · obtain ⟨ps1, e1⟩ := b.k.b P ps e
    unfold un at e1
    cases q : F P with
    | none => rw [q] at e1; exact ⟨ps1, e1⟩
    | some u =>
      rw [q] at e1
      cases e1
      exact g.k.b P _ (g.s P _ q)
  · cases q : F p with
    | none => exact (un_none.mp (b.n p x q)).2
    | some u => exact g.n p (by rw [q]; simp) y
  · cases q : F p with
    | none => exact .inl (un_none.mp (b.n p (by rw [x]; simp) q)).2
    | some u =>
      have z := b.f p u q
      rw [x] at z
      cases z
      exact g.w p ps q
theorem Hold.rebase (h : Hold K cl F0 H0 F H σ ρ) : Hold K cl F (un F H0) F H σ ρ := by
  obtain ⟨θ, hs, hd⟩ := h.sl
  refine ⟨h.g.rebase, h.tb, h.len, θ, fun i s e => ?_, hd⟩
  have q := hs i s e
  cases s with
  | no => trivial
  | v d => exact q
  | o d =>
    obtain ⟨e1, n0, nf, w⟩ := q
    exact ⟨e1, un_none.mpr ⟨nf, n0⟩, nf, w⟩
theorem Hold.back (g : Gr F0 H0 F H) (h : Hold K cl F (un F H0) F' H' σ ρ) : Hold K cl F0 H0 F' H' σ ρ := by
  obtain ⟨θ, hs, hd⟩ := h.sl
  refine ⟨g.back h.g, h.tb, h.len, θ, fun i s e => ?_, hd⟩
  have q := hs i s e
  cases s with
  | no => trivial
  | v d => exact q
  | o d =>
    obtain ⟨e1, n0, nf, w⟩ := q
    exact ⟨e1, (un_none.mp n0).2, nf, w⟩
theorem LinkE.rebase {E : EK} (g : Gr F0 H0 F H) (le : LinkE K cl F0 H0 W E) : LinkE K cl F (un F H0) W E := fun err ρ σ F' H' c dx h e r => le err ρ σ F' H' c dx (h.back g) e r
theorem LinkD.rebase {A : Ends} {B : DE} (g : Gr F0 H0 F H) (l : LinkD K cl F0 H0 A B) : LinkD K cl F (un F H0) A B :=
  ⟨fun F' H' σ ρ h q => l.nx F' H' σ ρ (h.back g) q, fun F' H' σ ρ h q => l.bk F' H' σ ρ (h.back g) q, fun F' H' σ ρ h q => l.ct F' H' σ ρ (h.back g) q, fun F' H' v d h r r2 q => l.rt F' H' v d (g.back h) r (fun z => by
    obtain ⟨p, e, n, f, o⟩ := r2 z
    exact ⟨p, e, (un_none.mp n).2, f, o⟩) q, fun F' H' σ ρ v d h r q => l.ro F' H' σ ρ v d (h.back g) r q⟩
theorem LeD.refl (A : DE) : LeD A A := ⟨fun _ h => h, fun _ h => h, fun _ h => h, fun _ h => h, fun _ _ h => h⟩

/-! ### slices -/
theorem sIx_eq (n d : Nat) (o : Option Int) : HT.sIx n d o = DL.sIx n d o := by cases o <;> rfl
theorem Reps.drop {F : Hp} : ∀ (n : Nat) {vs : List V} {ds : List D}, Reps K cl F vs ds → Reps K cl F (vs.drop n) (ds.drop n)
  | 0, _, _, r => r
  | _ + 1, _, _, .nil => .nil
  | n + 1, _, _, .cons _ r => Reps.drop n r
theorem Reps.take {F : Hp} : ∀ (n : Nat) {vs : List V} {ds : List D}, Reps K cl F vs ds → Reps K cl F (vs.take n) (ds.take n)
  | 0, _, _, _ => .nil
  | _ + 1, _, _, .nil => .nil
  | n + 1, _, _, .cons h r => .cons h (Reps.take n r)
theorem Reps.cut {F : Hp} {vs : List V} {ds : List D} (r : Reps K cl F vs ds) (lo hi : Option Int) : Reps K cl F (cutV vs lo hi) (cutL ds lo hi) := by
  unfold cutV cutL
  rw [sIx_eq, sIx_eq, r.length]
  exact (r.drop _).take _
theorem cut_all {ds : List D} {lo hi : Option Int} (h : HT.sIx ds.length 0 lo = 0 ∧ HT.sIx ds.length ds.length hi = ds.length) : cutL ds lo hi = ds := by
  unfold cutL
  rw [← sIx_eq, ← sIx_eq, h.1, h.2]
  simp
def rSlU (K : Fg) : V → Option Int → Option Int → Hp → VK → Prop := fun x lo hi H Q => rSlL K x lo hi H Q ∨ rSlA K x lo hi H Q ∨ rSlS x lo hi H Q
theorem sl_U {X : Cx} : SlR X (rSlU X.K) := sl_list.or (sl_tupA.or sl_str)
theorem rfo_N : RfO K cl W tNoPart oN where
  mono2 := fun E E' ρ P P' hE h q => h _ q
  ok := fun F0 H0 F H σ ρ E Q hh le q => q F H (Gr.refl hh.g.s)
theorem rfo_S {te : TE} {t : DT} (ha : RfE K cl W te t) : RfO K cl W (tPart te) (oS t) where
  mono2 := fun E E' ρ P P' hE h q => ha.mono2 E E' ρ _ _ hE (fun x q => by cases x <;> first | exact h _ q | exact q.elim) q
  ok := fun F0 H0 F H σ ρ E Q hh le q => by
    refine ha.ok F0 H0 F H σ ρ E _ hh le (ha.mono E ρ _ _ (fun x q v F1 H1 g1 r1 => ?_) q)
    cases r1 with
    | int i => exact ⟨i, rfl, q F1 H1 g1⟩
    | _ => exact q.elim
theorem rfe_slice {te : TE} {t : DT} {tl th : TO} {l u : DO} (ha : RfE K cl W te t) (hl : RfO K cl W tl l) (hu : RfO K cl W th u) : RfE K cl W (tSl (rSlU K) te tl th) (dSlice t l u) where
  mono2 := fun E E' ρ P P' hE h q => ha.mono2 E E' ρ _ _ hE (fun x q => hl.mono2 E E' ρ _ _ hE (fun lo q => hu.mono2 E E' ρ _ _ hE (fun hi q => by
    cases x <;> first | exact h _ q | exact ⟨q.1, h _ q.2⟩ | exact q.elim) q) q) q
  ok := fun F0 H0 F H σ ρ E Q hh le q => by
    refine ha.ok F0 H0 F H σ ρ E _ hh le (ha.mono E ρ _ _ (fun x q v F1 H1 g1 r1 => ?_) q)
    refine hl.ok F0 H0 F1 H1 σ ρ E _ (hh.grow g1) le (hl.mono E ρ _ _ (fun lo q F2 H2 g2 => ?_) q)
    refine hu.ok F0 H0 F2 H2 σ ρ E _ ((hh.grow g1).grow g2) le (hu.mono E ρ _ _ (fun hi q F3 H3 g3 => ?_) q)
    have g := (g1.trans g2).trans g3
    have r3 := (r1.mono g2.f).mono g3.f
    cases r3 with
    | @lst a vs ds e r =>
      refine .inl ⟨a, vs, rfl, SqL.of (g3.s _ _ e), fun p hp => ?_⟩
      exact q _ (upd F3 p (.lst _)) _ (g.trans (Gr.new g3.s hp)) (.lst upd_same ((r.cut lo hi).mono (same_upd (g3.s.free hp))))
    | @tup a vs ds e r =>
      refine .inr (.inl ⟨a, vs, rfl, same_t g3.s e, fun hw => ?_, fun _ p hp => ?_⟩)
      · rw [r.length] at hw
        have q : (fun d => ∀ v F' H', Gr F H F' H' → Rep K cl F' v d → Q v H') (.tup (cutL ds lo hi)) := q
        rw [cut_all hw] at q
        exact q _ F3 H3 g (.tup e r)
      · exact q _ (upd F3 p (.tup _)) _ (g.trans (Gr.new g3.s hp)) (.tup (SqT.of upd_same) ((r.cut lo hi).mono (same_upd (g3.s.free hp))))
    | str z =>
      refine .inr (.inr ⟨z, rfl, by rw [← line_eq]; exact q.1, ?_⟩)
      have e1 : cutS z lo hi = ⟨(cutL z.cps.toList lo hi).toArray⟩ := by
        unfold cutS cutL
        simp [sIx_eq, Str.length]
      rw [e1]
      exact q.2 _ F3 H3 g (.str _)
    | _ => exact q.elim
/-! ### targets -/
theorem Agree.refl (js : List Nat) (σ : L2.St) : Agree js σ σ := ⟨rfl, fun _ _ => rfl⟩
theorem Agree.trans {a b : List Nat} {σ1 σ2 σ3 : L2.St} (x : Agree a σ1 σ2) (y : Agree b σ2 σ3) : Agree (a ++ b) σ1 σ3 :=
  ⟨y.1.trans x.1, fun i hi => (y.2 i fun z => hi (List.mem_append_right _ z)).trans (x.2 i fun z => hi (List.mem_append_left _ z))⟩
theorem rfg_name {i : Nat} : RfG K cl [i] (L2.gName i) (DL.gName i) where
  mono := fun d ρ P P' h q => h _ q
  ok := fun F0 H0 F H σ ρ v d Q hh r q => q _ (hh.set r) ⟨by simp, fun j hj => by rw [List.getElem?_set_ne (fun z => hj (by simp [z]))]⟩
theorem rfgs_nil : RfGs K cl [] L2.gNil DL.gNil where
  mono := fun d ρ P P' h q => ⟨q.1, h _ q.2⟩
  ok := fun F0 H0 F H σ ρ v d Q hh r q => by
    obtain ⟨rfl, q⟩ := q
    cases r
    exact ⟨rfl, q σ hh (Agree.refl _ _)⟩
theorem rfgs_cons {js ks : List Nat} {g : TG} {t : DG} {gs : TGs} {ts : DGs} (h1 : RfG K cl js g t) (h2 : RfGs K cl ks gs ts) : RfGs K cl (js ++ ks) (L2.gCons g gs) (DL.gCons t ts) where
  mono := fun d ρ P P' h q => by
    cases d with
    | nil => exact q.elim
    | cons x r => exact h1.mono x ρ _ _ (fun ρ' q => h2.mono r ρ' _ _ h q) q
  ok := fun F0 H0 F H σ ρ v d Q hh r q => by
    cases r with
    | nil => exact q.elim
    | cons hx hr =>
      refine ⟨_, _, rfl, ?_⟩
      refine h1.ok F0 H0 F H σ ρ _ _ _ hh hx (h1.mono _ _ _ _ (fun ρ' q σ' h' a => ?_) q)
      exact h2.ok F0 H0 F H σ' ρ' _ _ Q h' hr (h2.mono _ _ _ _ (fun ρ2 q σ2 h2 a2 => q σ2 h2 (a.trans a2)) q)
theorem gCons_len {g : DG} {r : DGs} {n : Nat} (h : ∀ xs ρ Q, r xs ρ Q → xs.length = n) (hm : ∀ d ρ (P : DL.Env → Prop), g d ρ P → ∃ ρ', P ρ') : ∀ xs ρ Q, DL.gCons g r xs ρ Q → xs.length = n + 1 := fun xs ρ Q q => by
  cases xs with
  | nil => exact q.elim
  | cons x ys =>
    obtain ⟨ρ', q'⟩ := hm x ρ _ q
    simp [h ys ρ' Q q']
/-- a tuple or a list -/
def gTL (K : Fg) (n : Nat) (t : TGs) : TG := fun v σ H Q => L2.gTup K n t v σ H Q ∨ L2.gUnl K n t v σ H Q
theorem pg_tl {X : Cx} {pos : Pos} {es : List Expr} {k : Nat} {t : TGs} {n : Nat} (hc : X.calm = true) (h : PGs X es t)
    (hn : (assignEach es X.env).length = n := by rfl) (hst : (assignEach es X.env).findIdx? (·.1) = none := by rfl) : PG X (.Tuple es k pos) (gTL X.K n t) :=
  ⟨fun pins s σ H v u Q I r hw => hw.elim (fun q => (pg_tup hc h hn hst).run pins s σ H v u Q I r q) fun q => (pg_unl hc h hn hst).run pins s σ H v u Q I r q⟩
theorem rfg_tup {js : List Nat} {gs : TGs} {ts : DGs} {n : Nat} (h : RfGs K cl js gs ts) (hn : ∀ xs ρ Q, ts xs ρ Q → xs.length = n) : RfG K cl js (gTL K n gs) (DL.gTup ts) where
  mono := fun d ρ P P' f q => by
    cases d <;> first | exact h.mono _ ρ _ _ f q | exact q.elim
  ok := fun F0 H0 F H σ ρ v d Q hh r q => by
    cases r with
    | tup e r =>
      refine .inl ⟨_, _, rfl, same_t hh.g.s e, ?_, h.ok F0 H0 F H σ ρ _ _ Q hh r q⟩
      rw [r.length]
      exact hn _ _ _ q
    | lst e r =>
      refine .inr ⟨_, _, rfl, .inl (.inl (hh.g.s _ _ e)), ?_, h.ok F0 H0 F H σ ρ _ _ Q hh r q⟩
      rw [r.length]
      exact hn _ _ _ q
    | _ => exact q.elim
/-! ### statements -/
theorem rfs_next : RfS K cl W L2.tNext DL.sNext where
  mono2 := fun E E' A B ρ hE l q => l.nx _ q
  ok := fun F0 H0 F H σ ρ E B A hh le ld q => ld.nx _ _ _ _ hh q
theorem rfs_seq {t u : TS} {a b : DS} (ha : RfS K cl W t a) (hb : RfS K cl W u b) : RfS K cl W (tSeq t u) (sSeq a b) where
  mono2 := fun E E' A B ρ hE l q => ha.mono2 E E' { A with nx := b E A } { B with nx := b E' B } ρ hE ⟨fun ρ q => hb.mono2 E E' A B ρ hE l q, l.rt, l.bk, l.ct, l.ro⟩ q
  ok := fun F0 H0 F H σ ρ E B A hh le ld q => ha.ok F0 H0 F H σ ρ E { B with nx := b E B } { A with nx := u A } hh le ⟨fun F1 H1 σ1 ρ1 h1 q1 => hb.ok F0 H0 F1 H1 σ1 ρ1 E B A h1 le ld q1, ld.bk, ld.ct, ld.rt, ld.ro⟩ q
theorem rfs_break : RfS K cl W L2.tBreak DL.sBreak where
  mono2 := fun E E' A B ρ hE l q => l.bk _ q
  ok := fun F0 H0 F H σ ρ E B A hh le ld q => ld.bk _ _ _ _ hh q
theorem rfs_cont : RfS K cl W L2.tCont DL.sCont where
  mono2 := fun E E' A B ρ hE l q => l.ct _ q
  ok := fun F0 H0 F H σ ρ E B A hh le ld q => ld.ct _ _ _ _ hh q
theorem rfs_drop {te : TE} {t : DT} (ha : RfE K cl W te t) : RfS K cl W (tDrop te) (sDrop t) where
  mono2 := fun E E' A B ρ hE l q => ha.mono2 E E' ρ _ _ hE (fun _ q => l.nx _ q) q
  ok := fun F0 H0 F H σ ρ E B A hh le ld q => ha.ok F0 H0 F H σ ρ E _ hh le (ha.mono E ρ _ _ (fun x q v F1 H1 g1 r1 => ld.nx _ _ _ _ (hh.grow g1) q) q)
theorem rfs_ret {te : TE} {t : DT} (hf : cl.fr = false) (ha : RfE K cl W te t) : RfS K cl W (tRet te) (sRet t) where
  mono2 := fun E E' A B ρ hE l q => ha.mono2 E E' ρ _ _ hE (fun _ q => l.rt _ q) q
  ok := fun F0 H0 F H σ ρ E B A hh le ld q => ha.ok F0 H0 F H σ ρ E _ hh le (ha.mono E ρ _ _ (fun x q v F1 H1 g1 r1 => ld.rt _ _ _ _ (hh.g.trans g1) (fun _ => r1) (fun z => by rw [hf] at z; cases z) q) q)
theorem rfs_retN (hf : cl.fr = false) : RfS K cl W tRetN sRetN where
  mono2 := fun E E' A B ρ hE l q => l.rt _ q
  ok := fun F0 H0 F H σ ρ E B A hh le ld q => ld.rt _ _ _ _ hh.g (fun _ => .non) (fun z => by rw [hf] at z; cases z) q
theorem rfs_retNew {te : TE} {t : DT} (hf : cl.fr = true) (ha : RfN K cl W te t) : RfS K cl W (tRet te) (sRet t) where
  mono2 := fun E E' A B ρ hE l q => ha.mono2 E E' ρ _ _ hE (fun _ q => l.rt _ q) q
  ok := fun F0 H0 F H σ ρ E B A hh le ld q => ha.ok F0 H0 F H σ ρ E _ hh le (ha.mono E ρ _ _ (fun d q p F1 H1 g1 n1 f1 w => ld.rt _ _ _ _ (hh.g.trans g1) (fun z => by rw [hf] at z; cases z) (fun _ => ⟨p, rfl, hh.g.k.free n1, f1, w⟩) q) q)
theorem rfs_if {tc : TT} {t u : TS} {c : DB} {a b : DS} (hc : RfB K cl W tc c) (ha : RfS K cl W t a) (hb : RfS K cl W u b) : RfS K cl W (tIfS tc t u) (sIf c a b) where
  mono2 := fun E E' A B ρ hE l q => hc.mono2 E E' ρ _ _ hE (fun k q => by
    cases k with
    | true => exact ha.mono2 E E' A B ρ hE l q
    | false => exact hb.mono2 E E' A B ρ hE l q) q
  ok := fun F0 H0 F H σ ρ E B A hh le ld q => hc.ok F0 H0 F H σ ρ E _ hh le (hc.mono E ρ _ _ (fun k q F1 H1 g1 => by
    cases k with
    | true => exact ha.ok F0 H0 F1 H1 σ ρ E B A (hh.grow g1) le ld q
    | false => exact hb.ok F0 H0 F1 H1 σ ρ E B A (hh.grow g1) le ld q) q)
theorem rfs_asg {js : List Nat} {te : TE} {t : DT} {g : TG} {d : DG} (ha : RfE K cl W te t) (hg : RfG K cl js g d) : RfS K cl W (tAsg te g) (sAsg t d) where
  mono2 := fun E E' A B ρ hE l q => ha.mono2 E E' ρ _ _ hE (fun x q => hg.mono x ρ _ _ (fun _ q => l.nx _ q) q) q
  ok := fun F0 H0 F H σ ρ E B A hh le ld q => ha.ok F0 H0 F H σ ρ E _ hh le (ha.mono E ρ _ _ (fun x q v F1 H1 g1 r1 =>
    hg.ok F0 H0 F1 H1 σ ρ v x _ (hh.grow g1) r1 (hg.mono x ρ _ _ (fun ρ' q σ' h' _ => ld.nx _ _ _ _ h' q) q)) q)
theorem rfs_set {i : Nat} {te : TE} {t : DT} (ha : RfE K cl W te t) : RfS K cl W (tAsg te (L2.gName i)) (sSet i t) := rfs_asg ha rfg_name
theorem rfs_own {i : Nat} {te : TE} {t : DT} (hpi : cl.pin i = none) (ha : RfN K cl W te t) : RfS K cl W (tAsg te (L2.gName i)) (sOwn i t) where
  mono2 := fun E E' A B ρ hE l q => ha.mono2 E E' ρ _ _ hE (fun x q => l.nx _ q) q
  ok := fun F0 H0 F H σ ρ E B A hh le ld q => ha.ok F0 H0 F H σ ρ E _ hh le (ha.mono E ρ _ _ (fun x q p F1 H1 g1 hp hf w => ld.nx _ _ _ _ (hh.own hpi g1 hp hf w) q) q)
theorem rfs_frz {i : Nat} {ts : TS} {t : DS} (h : RfS K cl W ts t) : RfS K cl W ts (sFrz i t) where
  mono2 := fun E E' A B ρ hE l q => h.mono2 E E' A B _ hE l q
  ok := fun F0 H0 F H σ ρ E B A hh le ld q => by
    obtain ⟨F', h'⟩ := hh.frz i
    exact h.ok F0 H0 F' H σ _ E B A h' le ld q
theorem rfs_fgt {js : List Nat} {ts : TS} {t : DS} (h : RfS K cl W ts t) : RfS K cl W ts (sFgt js t) where
  mono2 := fun E E' A B ρ hE l q => h.mono2 E E' A B _ hE l q
  ok := fun F0 H0 F H σ ρ E B A hh le ld q => h.ok F0 H0 F H σ _ E B A (hh.fgt js) le ld q
theorem rfs_par {i j : Nat} {ta : TA} {t : DA} (ha : RfA K cl W ta t) : RfS K cl W (tPar i j ta) (sPar i j t) where
  mono2 := fun E E' A B ρ hE l q => ha.mono2 E E' ρ _ _ hE (fun xs q => by
    match xs, q with
    | [x, y], q => exact l.nx _ q) q
  ok := fun F0 H0 F H σ ρ E B A hh le ld q => ha.ok F0 H0 F H σ ρ E _ hh le (ha.mono E ρ _ _ (fun xs q vs F1 H1 g1 r1 => by
    match xs, q, r1 with
    | [x, y], q, .cons a (.cons b .nil) => exact ⟨_, _, rfl, ld.nx _ _ _ _ (((hh.grow g1).set a).set b) q⟩) q)
/-- x op= e by data -/
structure RfIp (K : Fg) (cl : Cl) (r : TIp) (f : D → D → DK → Prop) : Prop where
  mono : ∀ x y (P P' : DK), (∀ d, P d → P' d) → f x y P → f x y P'
  ok : ∀ F H v u x y (Q : VK), Same F H → Rep K cl F v x → Rep K cl F u y → f x y (fun d => ∀ v' F' H', Gr F H F' H' → Rep K cl F' v' d → Q v' H') → r v u H Q
theorem rfs_aug {i : Nat} {te : TE} {t : DT} {r : TIp} {f : D → D → DK → Prop} (o : RfIp K cl r f) (ha : RfE K cl W te t) : RfS K cl W (tAug i te r) (sAug i f t) where
  mono2 := fun E E' A B ρ hE l q => by
    unfold sAug at q ⊢
    cases e : ρ[i]? with
    | none => rw [e] at q; exact q.elim
    | some s =>
      rw [e] at q
      cases s with
      | v x => exact ha.mono2 E E' ρ _ _ hE (fun y q => o.mono x y _ _ (fun z q => l.nx _ q) q) q
      | no => exact q.elim
      | o x => exact q.elim
  ok := fun F0 H0 F H σ ρ E B A hh le ld q => by
    unfold sAug at q
    cases e : ρ[i]? with
    | none => rw [e] at q; exact q.elim
    | some s =>
      rw [e] at q
      cases s with
      | no => exact q.elim
      | o x => exact q.elim
      | v x =>
        obtain ⟨v, e1, rv⟩ := hh.var e
        refine ⟨v, e1, ha.ok F0 H0 F H σ ρ E _ hh le (ha.mono E ρ _ _ (fun y q u F1 H1 g1 r1 => ?_) q)⟩
        refine o.ok F1 H1 v u x y _ g1.s (rv.mono g1.f) r1 (o.mono x y _ _ (fun z q w F2 H2 g2 r2 => ?_) q)
        exact ld.nx _ _ _ _ (((hh.grow g1).grow g2).set r2) q
/-! ### loops -/
theorem rfs_for {js : List Nat} {wi : TI} {it : DI} {g : TG} {d : DG} {tb : TS} {b : DS} (hi : RfI K cl W wi it) (hg : RfG K cl js g d) (hb : RfS K cl W tb b) : RfS K cl W (tFor wi g tb) (sFor it d b) where
  mono2 := fun E E' A B ρ hE l q => hi.mono2 E E' ρ _ _ hE (fun xs q => by
    have go : ∀ (xs : List D) (ρ : DL.Env), forL d b E A xs ρ → forL d b E' B xs ρ := by
      intro xs
      induction xs with
      | nil => intro ρ q; exact l.nx _ q
      | cons x r ih => intro ρ q; exact hg.mono x ρ _ _ (fun ρ' q => hb.mono2 E E' { nx := forL d b E A r, ct := forL d b E A r, bk := A.nx, rt := A.rt, ro := A.ro } { nx := forL d b E' B r, ct := forL d b E' B r, bk := B.nx, rt := B.rt, ro := B.ro } ρ' hE ⟨ih, l.rt, l.nx, ih, l.ro⟩ q) q
    exact go xs ρ q) q
  ok := fun F0 H0 F H σ ρ E B A hh le ld q => by
    refine hi.ok F0 H0 F H σ ρ E _ hh le (hi.mono E ρ _ _ (fun xs q J F1 H1 g1 wk => ?_) q)
    have hh1 := hh.grow g1
    have hb1 := hh1.rebase
    have le1 := le.rebase hh1.g
    have ld1 := ld.rebase hh1.g
    refine ⟨fun i m σ H => m = xs.length - i ∧ i ≤ xs.length ∧ ∃ F ρ, Hold K cl F1 (un F1 H0) F H σ ρ ∧ forL d b E B (xs.drop i) ρ, ⟨xs.length, by simp, Nat.zero_le _, F1, ρ, hb1, q⟩, ?_⟩
    rintro i m σ2 H2 ⟨rfl, hi2, F2, ρ2, h2, q2⟩
    have w2 := wk F2 H2 h2.g.f h2.g.s
    by_cases hlt : i < xs.length
    · have ed : xs.drop i = xs[i] :: xs.drop (i + 1) := List.drop_eq_getElem_cons hlt
      rw [ed] at q2
      obtain ⟨wg, wy⟩ := w2.2 i xs[i] (List.getElem?_eq_getElem hlt)
      refine .inr ⟨wg, fun σ' H' => ∃ F ρ, Hold K cl F1 (un F1 H0) F H' σ' ρ ∧ forL d b E B (xs.drop (i + 1)) ρ, fun σ' H' ⟨F', ρ', h', q'⟩ => ⟨xs.length - (i + 1), by omega, rfl, hlt, F', ρ', h', q'⟩, fun x H3 hy => ?_⟩
      obtain ⟨F3, g3, r3⟩ := wy x H3 hy
      refine hg.ok F1 (un F1 H0) F3 H3 σ2 ρ2 x xs[i] _ (h2.grow g3) r3 (hg.mono _ _ _ _ (fun ρ4 q4 σ4 h4 _ => ?_) q2)
      refine hb.ok F1 (un F1 H0) F3 H3 σ4 ρ4 E { nx := forL d b E B (xs.drop (i + 1)), ct := forL d b E B (xs.drop (i + 1)), bk := B.nx, rt := B.rt, ro := B.ro } _ h4 le1 ⟨fun F5 H5 σ5 ρ5 h5 q5 => ⟨F5, ρ5, h5, q5⟩, ld1.nx, fun F5 H5 σ5 ρ5 h5 q5 => ⟨F5, ρ5, h5, q5⟩, ld1.rt, ld1.ro⟩ q4
    · have e : i = xs.length := by omega
      subst e
      rw [List.drop_length] at q2
      exact .inl ⟨w2.1, ld1.nx _ _ _ _ h2 q2⟩
theorem rfs_while {tc : TT} {c : DB} {tb : TS} {b : DS} (hc : RfB K cl W tc c) (hb : RfS K cl W tb b) : RfS K cl W (tWhile tc tb) (sWhile c b) where
  mono2 := fun E E' A B ρ hE l q => by
    obtain ⟨n, q⟩ := q
    refine ⟨n, ?_⟩
    have go : ∀ (n : Nat) (ρ : DL.Env), whileN c b E A n ρ → whileN c b E' B n ρ := by
      intro n
      induction n with
      | zero => intro ρ q; exact q.elim
      | succ n ih => intro ρ q; exact hc.mono2 E E' ρ _ _ hE (fun k q => by
          cases k with
          | true => exact hb.mono2 E E' { nx := whileN c b E A n, ct := whileN c b E A n, bk := A.nx, rt := A.rt, ro := A.ro } { nx := whileN c b E' B n, ct := whileN c b E' B n, bk := B.nx, rt := B.rt, ro := B.ro } ρ hE ⟨ih, l.rt, l.nx, ih, l.ro⟩ q
          | false => exact l.nx _ q) q
    exact go n ρ q
  ok := fun F0 H0 F H σ ρ E B A hh le ld q => by
    obtain ⟨n, q⟩ := q
    refine ⟨fun m σ H => ∃ F ρ, Hold K cl F0 H0 F H σ ρ ∧ whileN c b E B m ρ, ⟨n, F, ρ, hh, q⟩, ?_⟩
    rintro m σ2 H2 ⟨F2, ρ2, h2, q2⟩
    cases m with
    | zero => exact q2.elim
    | succ m =>
      refine hc.ok F0 H0 F2 H2 σ2 ρ2 E _ h2 le (hc.mono E ρ2 _ _ (fun k q F3 H3 g3 => ?_) q2)
      cases k with
      | false => exact ld.nx _ _ _ _ (h2.grow g3) q
      | true =>
        refine ⟨fun σ' H' => ∃ F ρ, Hold K cl F0 H0 F H' σ' ρ ∧ whileN c b E B m ρ, fun σ' H' ⟨F', ρ', h', q'⟩ => ⟨m, Nat.lt_succ_self m, F', ρ', h', q'⟩, ?_⟩
        exact hb.ok F0 H0 F3 H3 σ2 ρ2 E { nx := whileN c b E B m, ct := whileN c b E B m, bk := B.nx, rt := B.rt, ro := B.ro } _ (h2.grow g3) le ⟨fun F5 H5 σ5 ρ5 h5 q5 => ⟨F5, ρ5, h5, q5⟩, ld.nx, fun F5 H5 σ5 ρ5 h5 q5 => ⟨F5, ρ5, h5, q5⟩, ld.rt, ld.ro⟩ q
end
end DL

/-! DFun: iterables, list comprehensions, lists of the def's own, calls of the text's defs, defs. -/
namespace DL
open PySem L2 PyProof.Rows
variable [TN]
section
variable {K : Fg} {cl : Cl} {W : WX} {F0 H0 F H F' H' : Hp} {σ σ' : L2.St} {ρ ρ' : DL.Env}
/-! ### what is walked -/
def iU (K : Fg) (tl : TE) : TI := fun σ H R => tl σ H fun x H1 => (∃ a, x = .ref a ∧ (∃ xs, SqL K H1 a xs) ∧ R (Itl K a) H1) ∨ (∃ a, x = .ref a ∧ (∃ xs, SqT K H1 a xs) ∧ R (Itt K a) H1) ∨ ∃ z, x = .str z ∧ R (Its z) H1
theorem pi_U {X : Cx} {tg l : Expr} {tl : TE} (hl : PE X l tl) : PI X tg l (iU X.K tl) := by
  refine ⟨fun pins s σ H R I h => ?_⟩
  refine thn (hl.run pins s σ H _ I h) fun v s1 ⟨x, H1, I1, r1, q1⟩ => ?_
  rcases q1 with ⟨a, e, ⟨xs, hq⟩, q⟩ | ⟨a, e, ⟨xs, hq⟩, q⟩ | ⟨z, e, q⟩
  · subst e
    cases r1
    obtain ⟨its, rv, p, hz⟩ := I1.list hq
    refine wpAny_pyIter_list p.isList ?_
    refine ⟨s1.heap.objs.size, [s1.heap.objs.size], _, _, H1, rfl, I1.kept (t' := s1.toks) fun b o e => Heap.get?_push_of_some _ e, turn_list a _, ⟨_, Heap.get?_push_size _ rfl, rfl, rfl⟩, fun b hb => ?_, q⟩
    have e : b = s1.heap.objs.size := by simpa using hb
    subst e
    exact I1.fpOk (Nat.le_refl _) (I1.hok.fresh (Nat.le_refl _))
  · subst e
    cases r1
    obtain ⟨its, rv, p, hz⟩ := I1.tuple hq
    refine wpAny_pyIter_tuple (show s1.heap.IsTuple a its.toArray from p) ?_
    refine ⟨s1.heap.objs.size, [s1.heap.objs.size], _, _, H1, rfl, I1.kept (t' := s1.toks) fun b o e => Heap.get?_push_of_some _ e, turn_tuple a _, ⟨_, Heap.get?_push_size _ rfl, rfl, rfl⟩, fun b hb => ?_, q⟩
    have e : b = s1.heap.objs.size := by simpa using hb
    subst e
    exact I1.fpOk (Nat.le_refl _) (I1.hok.fresh (Nat.le_refl _))
  · subst e
    obtain ⟨t, rfl⟩ := r1
    cases ha : z.cps.all (· < 128)
    · exact wpAny_pyIter_wide ha (pi_one (tk := s1.toks) I1 _ (turn_str _ z t "str_iterator" (.inr rfl)) ⟨_, Heap.get?_push_size _ rfl, rfl, rfl⟩ q)
    · exact wpAny_pyIter_ascii ha (pi_one (tk := s1.toks) I1 _ (turn_str _ z t "str_ascii_iterator" (.inl rfl)) ⟨_, Heap.get?_push_size _ rfl, rfl, rfl⟩ q)
theorem walk_lst {a : Addr} {vs : List V} {ds : List D} (e : F a = some (.lst vs)) (r : Reps K cl F vs ds) : WalkD K cl (Itl K a) F ds := fun F2 H2 f2 s2 => by
  have hl : SqL K H2 a vs := SqL.of (s2 _ _ (f2 _ _ e))
  refine ⟨⟨vs, hl, by rw [r.length]; exact Nat.le_refl _⟩, fun i d hd => ?_⟩
  obtain ⟨v, e1, rv⟩ := r.get hd
  refine ⟨⟨vs, v, hl, e1⟩, fun x H3 ⟨q1, q2⟩ => ?_⟩
  subst q1
  have := q2 vs hl
  rw [e1] at this
  cases this
  exact ⟨F2, Gr.refl s2, rv.mono f2⟩
theorem walk_tup {a : Addr} {vs : List V} {ds : List D} (e : SqT K F a vs) (r : Reps K cl F vs ds) : WalkD K cl (Itt K a) F ds := fun F2 H2 f2 s2 => by
  have hl : SqT K H2 a vs := same_t s2 (same_t f2 e)
  refine ⟨⟨vs, hl, by rw [r.length]; exact Nat.le_refl _⟩, fun i d hd => ?_⟩
  obtain ⟨v, e1, rv⟩ := r.get hd
  refine ⟨⟨vs, v, hl, e1⟩, fun x H3 ⟨q1, q2⟩ => ?_⟩
  subst q1
  have := q2 vs hl
  rw [e1] at this
  cases this
  exact ⟨F2, Gr.refl s2, rv.mono f2⟩
theorem walk_str {z : Str} : WalkD K cl (Its z) F (z.cps.toList.map fun c => .str ⟨#[c]⟩) := fun F2 H2 f2 s2 => by
  refine ⟨show z.cps.size ≤ _ by simp, fun i d hd => ?_⟩
  rw [List.getElem?_map] at hd
  cases e : z.cps.toList[i]? with
  | none => rw [e] at hd; cases hd
  | some c =>
    rw [e] at hd
    cases hd
    have hi : i < z.cps.size := by
      have := (List.getElem?_eq_some_iff.mp e).1
      simpa using this
    refine ⟨hi, fun x H3 ⟨q1, c', q2, q3⟩ => ?_⟩
    subst q1
    have : z.cps.toList[i]? = some c' := by simpa using q2
    rw [e] at this
    cases this
    exact ⟨F2, Gr.refl s2, by rw [q3]; exact .str _⟩
theorem rng_get {lo : Int} {n i : Nat} {d : D} (h : (rng lo n)[i]? = some d) : i < n ∧ d = .int (lo + (i : Nat)) := by
  unfold rng at h
  rw [List.getElem?_map] at h
  cases e : (List.range n)[i]? with
  | none => rw [e] at h; cases h
  | some k =>
    rw [e] at h
    have hi := List.getElem?_eq_some_iff.mp e
    obtain ⟨hlt, hk⟩ := hi
    rw [List.length_range] at hlt
    rw [List.getElem_range] at hk
    subst hk
    exact ⟨hlt, (Option.some.inj h).symm⟩
theorem rng_len (lo : Int) (n : Nat) : (rng lo n).length = n := by unfold rng; simp
theorem walk_rng {lo : Int} {n : Nat} : WalkD K cl (Itr lo n) F (rng lo n) := fun F2 H2 f2 s2 => by
  refine ⟨show n ≤ _ by rw [rng_len]; exact Nat.le_refl _, fun i d hd => ?_⟩
  obtain ⟨hi, rfl⟩ := rng_get hd
  refine ⟨hi, fun x H3 ⟨q1, q2⟩ => ?_⟩
  subst q1
  exact ⟨F2, Gr.refl s2, by rw [q2]; exact .int _⟩
theorem rfi_seq {te : TE} {t : DT} (ha : RfE K cl W te t) : RfI K cl W (iU K te) (iSeq t) where
  mono2 := fun E E' ρ P P' hE h q => ha.mono2 E E' ρ _ _ hE (fun x q => by cases x <;> first | exact h _ q | exact q.elim) q
  ok := fun F0 H0 F H σ ρ E R hh le q => by
    refine ha.ok F0 H0 F H σ ρ E _ hh le (ha.mono E ρ _ _ (fun x q v F1 H1 g1 r1 => ?_) q)
    cases r1 with
    | lst e r => exact .inl ⟨_, rfl, ⟨_, SqL.of (g1.s _ _ e)⟩, q _ F1 H1 g1 (walk_lst e r)⟩
    | tup e r => exact .inr (.inl ⟨_, rfl, ⟨_, same_t g1.s e⟩, q _ F1 H1 g1 (walk_tup e r)⟩)
    | str z => exact .inr (.inr ⟨z, rfl, q _ F1 H1 g1 walk_str⟩)
    | _ => exact q.elim
theorem rfi_rng1 {ta : TA} {t : DA} (ha : RfA K cl W ta t) : RfI K cl W (L2.iRng1 ta) (DL.iRng1 t) where
  mono2 := fun E E' ρ P P' hE h q => ha.mono2 E E' ρ _ _ hE (fun xs q => by
    match xs, q with
    | [.int j], q => exact ⟨q.1, q.2.1, h _ q.2.2⟩) q
  ok := fun F0 H0 F H σ ρ E R hh le q => by
    refine ha.ok F0 H0 F H σ ρ E _ hh le (ha.mono E ρ _ _ (fun xs q v F1 H1 g1 r1 => ?_) q)
    match xs, q, r1 with
    | [.int j], q, .cons (.int _) .nil => exact ⟨j, rfl, q.1, q.2.1, q.2.2 _ F1 H1 g1 walk_rng⟩
theorem rfi_rng2 {ta : TA} {t : DA} (ha : RfA K cl W ta t) : RfI K cl W (L2.iRng2 ta) (DL.iRng2 t) where
  mono2 := fun E E' ρ P P' hE h q => ha.mono2 E E' ρ _ _ hE (fun xs q => by
    match xs, q with
    | [.int i, .int j], q => exact ⟨q.1, h _ q.2⟩) q
  ok := fun F0 H0 F H σ ρ E R hh le q => by
    refine ha.ok F0 H0 F H σ ρ E _ hh le (ha.mono E ρ _ _ (fun xs q v F1 H1 g1 r1 => ?_) q)
    match xs, q, r1 with
    | [.int i, .int j], q, .cons (.int _) (.cons (.int _) .nil) => exact ⟨i, j, rfl, q.1, q.2 _ F1 H1 g1 walk_rng⟩

/-! ### enumerate, zip, reversed -/
theorem enum_get {ds : List D} {i : Nat} {d : D} (h : (enumD ds)[i]? = some d) : ∃ x, ds[i]? = some x ∧ d = .tup [.int (i : Nat), x] := by
  unfold enumD at h
  rw [List.getElem?_map, List.getElem?_zipIdx] at h
  cases e : ds[i]? with
  | none => rw [e] at h; cases h
  | some x =>
    rw [e] at h
    refine ⟨x, rfl, ?_⟩
    have := Option.some.inj h
    rw [← this]
    simp
theorem enum_len (ds : List D) : (enumD ds).length = ds.length := by simp [enumD]
theorem zip_get {ds es : List D} {i : Nat} {d : D} (h : (zipD ds es)[i]? = some d) : ∃ x y, ds[i]? = some x ∧ es[i]? = some y ∧ d = .tup [x, y] := by
  unfold zipD at h
  rw [List.getElem?_map] at h
  cases e : (ds.zip es)[i]? with
  | none => rw [e] at h; cases h
  | some p =>
    rw [e] at h
    obtain ⟨h1, h2⟩ := List.getElem?_zip_eq_some.mp e
    exact ⟨p.1, p.2, h1, h2, (Option.some.inj h).symm⟩
theorem zip_len (ds es : List D) : (zipD ds es).length = min ds.length es.length := by simp [zipD]
theorem walk_enum {a : Addr} {vs : List V} {ds : List D} (e : F a = some (.lst vs)) (r : Reps K cl F vs ds) : WalkD K cl (Ite K a) F (enumD ds) := fun F2 H2 f2 s2 => by
  have hl : SqL K H2 a vs := SqL.of (s2 _ _ (f2 _ _ e))
  refine ⟨⟨vs, hl, by rw [enum_len, r.length]; exact Nat.le_refl _⟩, fun i d hd => ?_⟩
  obtain ⟨x, hx, rfl⟩ := enum_get hd
  obtain ⟨v, e1, rv⟩ := r.get hx
  refine ⟨⟨vs, v, hl, e1⟩, fun u H3 ⟨T, y, q0, q1, q2, q3⟩ => ?_⟩
  have := q3 vs hl
  rw [e1] at this
  cases this
  subst q2 q0
  exact ⟨upd F2 T (.tup [.int (i : Nat), v]), Gr.new s2 q1, .tup (.inl (.inl upd_same)) (.cons (.int _) (.cons ((rv.mono f2).mono (same_upd (s2.free q1))) .nil))⟩
theorem walk_zip {a b : Addr} {vs us : List V} {ds es : List D} (e : F a = some (.lst vs)) (r : Reps K cl F vs ds) (e' : F b = some (.lst us)) (r' : Reps K cl F us es) : WalkD K cl (Itz K a b) F (zipD ds es) := fun F2 H2 f2 s2 => by
  have hl : SqL K H2 a vs := SqL.of (s2 _ _ (f2 _ _ e))
  have hl' : SqL K H2 b us := SqL.of (s2 _ _ (f2 _ _ e'))
  refine ⟨⟨vs, us, hl, hl', by rw [zip_len, r.length, r'.length]; omega⟩, fun i d hd => ?_⟩
  obtain ⟨x, y, hx, hy, rfl⟩ := zip_get hd
  obtain ⟨v, e1, rv⟩ := r.get hx
  obtain ⟨u, e2, ru⟩ := r'.get hy
  refine ⟨⟨vs, us, v, u, hl, hl', e1, e2⟩, fun w H3 ⟨T, z1, z2, q0, q1, q2, q3, q4⟩ => ?_⟩
  have := q3 vs hl
  rw [e1] at this
  cases this
  have := q4 us hl'
  rw [e2] at this
  cases this
  subst q2 q0
  exact ⟨upd F2 T (.tup [v, u]), Gr.new s2 q1, .tup (.inl (.inl upd_same)) (.cons ((rv.mono f2).mono (same_upd (s2.free q1))) (.cons ((ru.mono f2).mono (same_upd (s2.free q1))) .nil))⟩
theorem walk_zipT {a b : Addr} {vs us : List V} {ds es : List D} (e : SqT K F a vs) (r : Reps K cl F vs ds) (e' : SqT K F b us) (r' : Reps K cl F us es) : WalkD K cl (RZ.ItzT K a b) F (zipD ds es) := fun F2 H2 f2 s2 => by
  have hl : SqT K H2 a vs := same_t s2 (same_t f2 e)
  have hl' : SqT K H2 b us := same_t s2 (same_t f2 e')
  refine ⟨⟨vs, us, hl, hl', by rw [zip_len, r.length, r'.length]; omega⟩, fun i d hd => ?_⟩
  obtain ⟨x, y, hx, hy, rfl⟩ := zip_get hd
  obtain ⟨v, e1, rv⟩ := r.get hx
  obtain ⟨u, e2, ru⟩ := r'.get hy
  refine ⟨⟨vs, us, v, u, hl, hl', e1, e2⟩, fun w H3 ⟨T, z1, z2, q0, q1, q2, q3, q4⟩ => ?_⟩
  have := q3 vs hl
  rw [e1] at this
  cases this
  have := q4 us hl'
  rw [e2] at this
  cases this
  subst q2 q0
  exact ⟨upd F2 T (.tup [v, u]), Gr.new s2 q1, .tup (.inl (.inl upd_same)) (.cons ((rv.mono f2).mono (same_upd (s2.free q1))) (.cons ((ru.mono f2).mono (same_upd (s2.free q1))) .nil))⟩
theorem rev_get {ds : List D} {i : Nat} {d : D} (h : ds.reverse[i]? = some d) : i < ds.length ∧ ds[ds.length - 1 - i]? = some d := by
  have hi := (List.getElem?_eq_some_iff.mp h).1
  rw [List.length_reverse] at hi
  rw [List.getElem?_reverse hi] at h
  exact ⟨hi, h⟩
theorem walk_rev {a : Addr} {vs : List V} {ds : List D} (e : F a = some (.lst vs)) (r : Reps K cl F vs ds) : WalkD K cl (Itv K a vs.length) F ds.reverse := fun F2 H2 f2 s2 => by
  have hl : SqL K H2 a vs := SqL.of (s2 _ _ (f2 _ _ e))
  refine ⟨show vs.length ≤ _ by rw [List.length_reverse, r.length]; exact Nat.le_refl _, fun i d hd => ?_⟩
  obtain ⟨hi, hd⟩ := rev_get hd
  obtain ⟨v, e1, rv⟩ := r.get hd
  rw [← r.length] at e1 hi
  refine ⟨⟨hi, vs, v, hl, e1⟩, fun x H3 ⟨q1, q2⟩ => ?_⟩
  subst q1
  have := q2 vs hl
  rw [e1] at this
  cases this
  exact ⟨F2, Gr.refl s2, rv.mono f2⟩
theorem walk_revT {a : Addr} {vs : List V} {ds : List D} (e : SqT K F a vs) (r : Reps K cl F vs ds) : WalkD K cl (RT.ItvT K a vs.length) F ds.reverse := fun F2 H2 f2 s2 => by
  have hl : SqT K H2 a vs := same_t s2 (same_t f2 e)
  refine ⟨show vs.length ≤ _ by rw [List.length_reverse, r.length]; exact Nat.le_refl _, fun i d hd => ?_⟩
  obtain ⟨hi, hd⟩ := rev_get hd
  obtain ⟨v, e1, rv⟩ := r.get hd
  rw [← r.length] at e1 hi
  refine ⟨⟨hi, vs, v, hl, e1⟩, fun x H3 ⟨q1, q2⟩ => ?_⟩
  subst q1
  have := q2 vs hl
  rw [e1] at this
  cases this
  exact ⟨F2, Gr.refl s2, rv.mono f2⟩
theorem rfi_enum {ta : TA} {t : DA} (ha : RfA K cl W ta t) : RfI K cl W (L2.iEnum K ta) (DL.iEnum t) where
  mono2 := fun E E' ρ P P' hE h q => ha.mono2 E E' ρ _ _ hE (fun xs q => by
    match xs, q with
    | [.lst l], q => exact h _ q) q
  ok := fun F0 H0 F H σ ρ E R hh le q => by
    refine ha.ok F0 H0 F H σ ρ E _ hh le (ha.mono E ρ _ _ (fun xs q v F1 H1 g1 r1 => ?_) q)
    match xs, q, r1 with
    | [.lst l], q, .cons (.lst e r) .nil => exact ⟨_, _, rfl, SqL.of (g1.s _ _ e), q _ F1 H1 g1 (walk_enum e r)⟩
theorem rfi_zip {ta : TA} {t : DA} (ha : RfA K cl W ta t) : RfI K cl W (RZ.iZipA K ta) (DL.iZip t) where
  mono2 := fun E E' ρ P P' hE h q => ha.mono2 E E' ρ _ _ hE (fun xs q => by
    match xs, q with
    | [.lst _, .lst _], q => exact h _ q
    | [.tup _, .tup _], q => exact h _ q) q
  ok := fun F0 H0 F H σ ρ E R hh le q => by
    refine ha.ok F0 H0 F H σ ρ E _ hh le (ha.mono E ρ _ _ (fun xs q v F1 H1 g1 r1 => ?_) q)
    match xs, q, r1 with
    | [.lst _, .lst _], q, .cons (.lst e r) (.cons (.lst e' r') .nil) => exact ⟨_, _, _, _, rfl, .inl ⟨SqL.of (g1.s _ _ e), SqL.of (g1.s _ _ e'), q _ F1 H1 g1 (walk_zip e r e' r')⟩⟩
    | [.tup _, .tup _], q, .cons (.tup e r) (.cons (.tup e' r') .nil) => exact ⟨_, _, _, _, rfl, .inr ⟨same_t g1.s e, same_t g1.s e', q _ F1 H1 g1 (walk_zipT e r e' r')⟩⟩
theorem rfi_rev {te : TE} {t : DT} (ha : RfE K cl W te t) : RfI K cl W (RT.iRevA K te) (DL.iRev t) where
  mono2 := fun E E' ρ P P' hE h q => ha.mono2 E E' ρ _ _ hE (fun x q => by cases x <;> first | exact h _ q | exact q.elim) q
  ok := fun F0 H0 F H σ ρ E R hh le q => by
    refine ha.ok F0 H0 F H σ ρ E _ hh le (ha.mono E ρ _ _ (fun x q v F1 H1 g1 r1 => ?_) q)
    cases r1 with
    | lst e r => exact ⟨_, _, rfl, .inl ⟨SqL.of (g1.s _ _ e), q _ F1 H1 g1 (walk_rev e r)⟩⟩
    | tup e r => exact ⟨_, _, rfl, .inr ⟨same_t g1.s e, q _ F1 H1 g1 (walk_revT e r)⟩⟩
    | _ => exact q.elim
/-! ### list comprehensions -/
theorem wipe_same {js : List Nat} : ∀ {vs : List Nat} {σ σ' : L2.St}, Agree js σ σ' → (∀ j ∈ js, j ∈ vs) → wipe σ' vs = wipe σ vs := by
  have key : ∀ (vs : List Nat) (σ : L2.St) (i : Nat), i ∈ vs → i < σ.length → (wipe σ vs)[i]? = some none := by
    intro vs σ i hi hl
    have hl' : i < (wipe σ vs).length := by rw [wipe_length]; exact hl
    rw [List.getElem?_eq_getElem hl']
    cases e : (wipe σ vs)[i] with
    | none => rfl
    | some x =>
      have q : (wipe σ vs)[i]? = some (some x) := by rw [List.getElem?_eq_getElem hl', e]
      exact absurd hi (wipe_some q).2
  intro vs σ σ' a h
  apply List.ext_getElem?
  intro i
  by_cases hi : i ∈ vs
  · by_cases hl : i < σ.length
    · rw [key vs σ i hi hl, key vs σ' i hi (by rw [a.1]; exact hl)]
    · have e1 : (wipe σ vs)[i]? = none := by
        rw [List.getElem?_eq_none_iff, wipe_length]
        omega
      have e2 : (wipe σ' vs)[i]? = none := by
        rw [List.getElem?_eq_none_iff, wipe_length, a.1]
        omega
      rw [e1, e2]
  · rw [wipe_out hi, wipe_out hi]
    exact a.2 i fun z => hi (h i z)
theorem wipe_at (σ : L2.St) : ∀ (vs : List Nat) (i : Nat), i ∉ vs → (wipe σ vs)[i]? = σ[i]? := fun vs i h => wipe_out h
theorem noOwn_o {ρ : DL.Env} (i : Nat) (d : D) : (noOwn ρ)[i]? ≠ some (.o d) := by
  unfold noOwn
  rw [List.getElem?_map]
  cases ρ[i]? with
  | none => simp
  | some u => cases u <;> simp
theorem Hold.wipe {vs : List Nat} (h : Hold K cl F0 H0 F H σ ρ) : Hold K cl F H F H (L2.wipe σ vs) (noOwn (wipeE ρ vs)) := by
  have hw : ∀ (vs : List Nat) (ρ : DL.Env) (i : Nat) d, (wipeE ρ vs)[i]? = some (.v d) → i ∉ vs ∧ ρ[i]? = some (.v d) := by
    intro vs
    induction vs with
    | nil => intro ρ i d q; exact ⟨by simp, q⟩
    | cons v r ih =>
      intro ρ i d q
      obtain ⟨h1, h2⟩ := ih (ρ.set v .no) i d q
      by_cases hv : v = i
      · subst hv
        have hl : v < ρ.length := by
          have := (List.getElem?_eq_some_iff.mp h2).1
          simpa using this
        rw [List.getElem?_set_self hl] at h2
        cases h2
      · rw [List.getElem?_set_ne hv] at h2
        exact ⟨by simp [h1, Ne.symm hv], h2⟩
  have hlen : ∀ (vs : List Nat) (ρ : DL.Env), (wipeE ρ vs).length = ρ.length := by
    intro vs
    induction vs with
    | nil => intro ρ; rfl
    | cons v r ih => intro ρ; exact (ih _).trans (by simp)
  obtain ⟨θ, hs, hd⟩ := h.sl
  refine ⟨Gr.refl h.g.s, h.tb, by rw [wipe_length, h.len]; simp [noOwn, hlen], θ, fun i s e => ?_, fun i j di dj e1 e2 => ?_, fun i a d _ e2 => absurd e2 (noOwn_o i d)⟩
  · unfold noOwn at e
    rw [List.getElem?_map] at e
    cases q : (wipeE ρ vs)[i]? with
    | none => rw [q] at e; cases e
    | some u =>
      rw [q] at e
      cases u with
      | no => cases e; trivial
      | o d => cases e; trivial
      | v d =>
        cases e
        obtain ⟨h1, h2⟩ := hw vs ρ i d q
        obtain ⟨v, e1, r⟩ := hs i _ h2
        exact ⟨v, by rw [wipe_out h1]; exact e1, r⟩
  · exfalso
    unfold noOwn at e1
    rw [List.getElem?_map] at e1
    cases q : (wipeE ρ vs)[i]? with
    | none => rw [q] at e1; cases e1
    | some u => rw [q] at e1; cases u <;> cases e1
/-- the new list grows -/
theorem Hold.list {D0 : Addr} {o : HO} (h : Hold K cl F0 H0 F H σ ρ) (hn : ∀ (i : Nat) (d : D), ρ[i]? ≠ some (Sl.o d)) (hD : F D0 = none) (hD0 : H0 D0 = none) (nt : NT H D0) (no : ∀ ps, o ≠ .tbl ps := by intro _ z; cases z) : Hold K cl F0 H0 F (upd H D0 o) σ ρ := by
  obtain ⟨θ, hs, hd⟩ := h.sl
  refine ⟨⟨h.g.f, h.g.k.put hD0 nt no, fun p u e => ?_, h.g.n, h.g.w, h.g.v⟩, h.tb.put nt no, h.len, θ, fun i s e => ?_, hd⟩
  · rw [upd_ne (ne_of_none e hD)]
    exact h.g.s p u e
  · have q := hs i s e
    cases s with
    | no => trivial
    | v d => exact q
    | o d => exact absurd e (hn i d)
theorem rfb_yes : RfB K cl W tYes bYes where
  mono2 := fun E E' ρ P P' hE h q => h _ q
  ok := fun F0 H0 F H σ ρ E Q hh le q => q F H (Gr.refl hh.g.s)
/-- a target keeps what it does not name: no own objects come up -/
structure NoO (g : DG) : Prop where
  k : ∀ (d : D) (ρ : DL.Env) (P : DL.Env → Prop), (∀ (i : Nat) (e : D), ρ[i]? ≠ some (Sl.o e)) → g d ρ P → g d ρ fun ρ' => (∀ (i : Nat) (e : D), ρ'[i]? ≠ some (Sl.o e)) ∧ P ρ'
theorem noO_name {i : Nat} : NoO (DL.gName i) := ⟨fun d ρ P h q => ⟨fun j e z => by
  by_cases hj : i = j
  · subst hj
    have hl : i < ρ.length := by
      have := (List.getElem?_eq_some_iff.mp z).1
      simpa using this
    rw [List.getElem?_set_self hl] at z
    cases z
  · rw [List.getElem?_set_ne hj] at z
    exact h j e z, q⟩⟩
structure NoOs (g : DGs) : Prop where
  k : ∀ (d : List D) (ρ : DL.Env) (P : DL.Env → Prop), (∀ (i : Nat) (e : D), ρ[i]? ≠ some (Sl.o e)) → g d ρ P → g d ρ fun ρ' => (∀ (i : Nat) (e : D), ρ'[i]? ≠ some (Sl.o e)) ∧ P ρ'
theorem noOs_nil : NoOs DL.gNil := ⟨fun d ρ P h q => ⟨q.1, h, q.2⟩⟩
theorem noOs_cons {g : DG} {r : DGs} (m : ∀ d ρ (P P' : DL.Env → Prop), (∀ ρ, P ρ → P' ρ) → g d ρ P → g d ρ P') (h1 : NoO g) (h2 : NoOs r) : NoOs (DL.gCons g r) := ⟨fun d ρ P h q => by
  cases d with
  | nil => exact q.elim
  | cons x ys => exact m _ _ _ _ (fun ρ' q => h2.k _ _ _ q.1 q.2) (h1.k _ _ _ h q)⟩
theorem noO_tup {r : DGs} (h : NoOs r) : NoO (DL.gTup r) := ⟨fun d ρ P hh q => by
  cases d <;> first | exact h.k _ _ _ hh q | exact q.elim⟩
theorem rfn_lc {js vs : List Nat} {wi : TI} {it : DI} {g : TG} {d : DG} {tt : TT} {t : DB} {te : TE} {e : DT} (hi : RfI K cl W wi it) (hg : RfG K cl js g d) (hn : NoO d) (hjs : ∀ j ∈ js, j ∈ vs)
    (ht : RfB K cl (fun _ _ _ _ => False) tt t) (he : RfE K cl (fun _ _ _ _ => False) te e) : RfN K cl W (tLc wi g tt te vs) (dLc it d t e vs) where
  mono2 := fun E E' ρ P P' hE h q => hi.mono2 E E' ρ _ _ hE (fun xs q => by
    have go : ∀ (xs : List D) (ρ : DL.Env) (acc : List D) (Q Q' : List D → Prop), (∀ r, Q r → Q' r) → lcL d t e ρ xs acc Q → lcL d t e ρ xs acc Q' := by
      intro xs
      induction xs with
      | nil => intro ρ acc Q Q' hQ q; exact hQ _ q
      | cons x r ih =>
        intro ρ acc Q Q' hQ q
        refine hg.mono x ρ _ _ (fun ρ' q => ht.mono noE ρ' _ _ (fun k q => ?_) q) q
        cases k with
        | true => exact he.mono noE ρ' _ _ (fun y q => ⟨q.1, ih ρ _ Q Q' hQ q.2⟩) q
        | false => exact ih ρ _ Q Q' hQ q
    exact go xs _ _ _ _ (fun r q => h _ q) q) q
  ok := fun F0 H0 F H σ ρ E Q hh le q => by
    refine hi.ok F0 H0 F H σ ρ E _ hh le (hi.mono E ρ _ _ (fun xs q J F1 H1 g1 wk D0 hD => ?_) q)
    have hh1 := hh.grow g1
    have hb := hh1.wipe (vs := vs)
    have hF1 : F1 D0 = none := g1.s.free hD
    have leN : ∀ {A B : Hp}, LinkE K cl A B (fun _ _ _ _ => False) noE := fun {A B} err ρ σ F H c dx _ z _ => z.elim
    refine ⟨fun i m H => m = xs.length - i ∧ i ≤ xs.length ∧ ∃ F acc accd, Hold K cl F1 H1 F H (wipe σ vs) (noOwn (wipeE ρ vs)) ∧ F D0 = none ∧ H D0 = some (.lst acc) ∧ Reps K cl F acc accd ∧
      lcL d t e (noOwn (wipeE ρ vs)) (xs.drop i) accd (fun r => ∀ p F' H', Gr F1 H1 F' H' → H1 p = none → F' p = none → Own K cl F' H' p (.lst r) → Q (.ref p) H'),
      ⟨xs.length, by simp, Nat.zero_le _, F1, [], [], hb.list (fun i d => noOwn_o i d) hF1 hD (.free hD), hF1, upd_same, .nil, ?_⟩, ?_⟩
    · have go : ∀ (xs : List D) (ρ : DL.Env) (acc : List D) (Q Q' : List D → Prop), (∀ r, Q r → Q' r) → lcL d t e ρ xs acc Q → lcL d t e ρ xs acc Q' := by
        intro xs
        induction xs with
        | nil => intro ρ acc Q Q' hQ q; exact hQ _ q
        | cons x r ih =>
          intro ρ acc Q Q' hQ q
          refine hg.mono x ρ _ _ (fun ρ' q => ht.mono noE ρ' _ _ (fun k q => ?_) q) q
          cases k with
          | true => exact he.mono noE ρ' _ _ (fun y q => ⟨q.1, ih ρ _ Q Q' hQ q.2⟩) q
          | false => exact ih ρ _ Q Q' hQ q
      exact go xs _ _ _ _ (fun r q p F' H' g2 h1 h2 h3 => q p F' H' (g1.trans g2) (g1.k.free h1) h2 h3) q
    · rintro i m H2 ⟨rfl, hi2, F2, acc, accd, h2, hF2, hD2, ra, q2⟩
      have w2 := wk F2 H2 h2.g.f h2.g.s
      by_cases hlt : i < xs.length
      · have ed : xs.drop i = xs[i] :: xs.drop (i + 1) := List.drop_eq_getElem_cons hlt
        rw [ed] at q2
        obtain ⟨wg, wy⟩ := w2.2 i xs[i] (List.getElem?_eq_getElem hlt)
        refine .inr ⟨wg, fun H' => ∃ F acc accd, Hold K cl F1 H1 F H' (wipe σ vs) (noOwn (wipeE ρ vs)) ∧ F D0 = none ∧ H' D0 = some (.lst acc) ∧ Reps K cl F acc accd ∧
          lcL d t e (noOwn (wipeE ρ vs)) (xs.drop (i + 1)) accd (fun r => ∀ p F' H', Gr F1 H1 F' H' → H1 p = none → F' p = none → Own K cl F' H' p (.lst r) → Q (.ref p) H'), fun H' ⟨F', a', ad', x1, x2, x3, x4, x5⟩ => ⟨xs.length - (i + 1), by omega, rfl, hlt, F', a', ad', x1, x2, x3, x4, x5⟩, fun x H3 hy => ?_⟩
        obtain ⟨F3, g3, r3⟩ := wy x H3 hy
        have h3 := h2.grow g3
        have n3 : F3 D0 = none := g3.keepNone hD2 hF2
        have q2' := hn.k _ _ _ (fun i d => noOwn_o i d) q2
        refine hg.ok F1 H1 F3 H3 _ _ x xs[i] _ h3 r3 (hg.mono _ _ _ _ (fun ρ4 q4 σ4 h4 ag => ?_) q2')
        obtain ⟨no4, q4⟩ := q4
        refine ⟨(wipe_same ag hjs).trans ?_, ?_⟩
        · have := wipe_same (vs := vs) (js := vs) (σ := σ) (σ' := wipe σ vs) ⟨wipe_length _ _, fun i hi => wipe_out hi⟩ (fun j hj => hj)
          exact this
        refine ht.ok F1 H1 F3 H3 σ4 ρ4 noE _ h4 leN (ht.mono noE ρ4 _ _ (fun k q F4 H4 g4 => ?_) q4)
        have h4' := h3.grow g4
        have n4 : F4 D0 = none := g4.keepNone (g3.k.get hD2) n3
        have e4 : H4 D0 = some (.lst acc) := g4.k.get (g3.k.get hD2)
        cases k with
        | false =>
          exact ⟨F4, acc, accd, h4', n4, e4, (ra.mono g3.f).mono g4.f, q⟩
        | true =>
          refine he.ok F1 H1 F4 H4 σ4 ρ4 noE _ (h4.grow g4) leN (he.mono noE ρ4 _ _ (fun y q v F5 H5 g5 r5 => ?_) q)
          have n5 : F5 D0 = none := g5.keepNone e4 n4
          have e5 : H5 D0 = some (.lst acc) := g5.k.get e4
          refine ⟨acc, e5, by rw [ra.length, ← line_eq]; exact q.1, F5, acc ++ [v], accd ++ [y], (h4'.grow g5).list (fun i d => noOwn_o i d) n5 hD (.at e5), n5, upd_same, (((ra.mono g3.f).mono g4.f).mono g5.f).append (.cons r5 .nil), q.2⟩
      · have e : i = xs.length := by omega
        subst e
        rw [List.drop_length] at q2
        exact .inl ⟨w2.1, q2 D0 F2 H2 h2.g hD hF2 ⟨acc, hD2, ra⟩⟩

/-! ### lists of the def's own -/
theorem Hold.mut {i : Nat} {a : Addr} {d d' : D} {o : HO} (h : Hold K cl F0 H0 F H σ ρ) (ha : σ[i]? = some (some (.ref a))) (e : ρ[i]? = some (.o d)) (w : Own K cl F (upd H a o) a d') : Hold K cl F0 H0 F (upd H a o) σ (ρ.set i (.o d')) := by
  obtain ⟨θ, hs, hd, hpn⟩ := h.sl
  obtain ⟨e1, n0, nf, w0⟩ := hs i _ e
  have ea : θ i = a := by
    rw [ha] at e1
    have : (some (V.ref a) : Option V) = some (V.ref (θ i)) := e1
    cases this
    rfl
  rw [ea] at n0 nf
  have w1 : NT H a := ea ▸ w0.nt
  have w2 : ∀ ps, o ≠ .tbl ps := fun ps z => w.nt.t ps (by rw [upd_same, z])
  refine ⟨⟨h.g.f, h.g.k.put n0 w1 w2, fun p u q => ?_, h.g.n, h.g.w, h.g.v⟩, h.tb.put w1 w2, by simp [h.len], θ, fun j s q => ?_, fun j k dj dk q1 q2 q => ?_, fun j b dj q1 q2 => ?_⟩
  · rw [upd_ne (ne_of_none q nf)]
    exact h.g.s p u q
  · by_cases hj : i = j
    · subst hj
      have hl : i < ρ.length := (List.getElem?_eq_some_iff.mp e).1
      rw [List.getElem?_set_self hl] at q
      cases q
      rw [← ea] at w n0 nf
      exact ⟨e1, n0, nf, by rw [ea] at w ⊢; exact w⟩
    · rw [List.getElem?_set_ne hj] at q
      have r := hs j s q
      cases s with
      | no => trivial
      | v d => exact r
      | o d2 =>
        obtain ⟨z1, z0, zf, zw⟩ := r
        have hne : θ j ≠ a := fun z => hj (hd i j _ _ e q (by rw [ea, z]))
        exact ⟨z1, z0, zf, zw.mono (Same.refl _) fun o e _ => by rw [upd_ne hne]; exact e⟩
  · have ne : ∀ {b db}, (ρ.set i (Sl.o d'))[b]? = some (Sl.o db) → ∃ dc, ρ[b]? = some (Sl.o dc) := fun {b db} q => by
      by_cases hb : i = b
      · subst hb
        exact ⟨d, e⟩
      · rw [List.getElem?_set_ne hb] at q
        exact ⟨db, q⟩
    obtain ⟨_, x1⟩ := ne q1
    obtain ⟨_, x2⟩ := ne q2
    exact hd j k _ _ x1 x2 q
  · by_cases hb : i = j
    · subst hb
      exact hpn i b _ q1 e
    · rw [List.getElem?_set_ne hb] at q2
      exact hpn j b _ q1 q2
theorem Hold.ownAt {i : Nat} {d : D} (h : Hold K cl F0 H0 F H σ ρ) (e : ρ[i]? = some (.o d)) : ∃ a, σ[i]? = some (some (.ref a)) ∧ H0 a = none ∧ F a = none ∧ Own K cl F H a d := by
  obtain ⟨θ, hs, hd⟩ := h.sl
  obtain ⟨e1, n0, nf, w0⟩ := hs i _ e
  exact ⟨θ i, join_some e1, n0, nf, w0⟩
theorem rfs_retO {i : Nat} (hf : cl.fr = true) : RfS K cl W (tRet (tVar i)) (sRetO i) where
  mono2 := fun E E' A B ρ hE l q => by
    unfold sRetO gO at q ⊢
    split at q
    · exact l.rt _ q
    · exact q.elim
  ok := fun F0 H0 F H σ ρ E B A hh le ld q => by
    unfold sRetO gO at q
    split at q
    · rename_i d e
      obtain ⟨a, ea, n0, nf, w⟩ := hh.ownAt e
      exact ⟨.ref a, ea, ld.rt _ _ _ _ hh.g (fun z => by rw [hf] at z; cases z) (fun _ => ⟨a, rfl, n0, nf, w⟩) q⟩
    · exact q.elim
/-- xs.append(e) as a statement -/
def tAppS (K : Fg) (i : Nat) (te : TE) : TS := tDrop (tBM K "list" rAppend (tVar i) (tCons te tNil))
theorem rfs_app {i : Nat} {te : TE} {t : DT} (ha : RfE K cl W te t) : RfS K cl W (tAppS K i te) (sApp i t) where
  mono2 := fun E E' A B ρ hE l q => by
    unfold sApp at q ⊢
    cases e : ρ[i]? with
    | none => rw [e] at q; exact q.elim
    | some s =>
      rw [e] at q
      cases s with
      | no => exact q.elim
      | v d => exact q.elim
      | o d => cases d <;> first | exact ha.mono2 E E' ρ _ _ hE (fun x q => ⟨q.1, l.nx _ q.2⟩) q | exact q.elim
  ok := fun F0 H0 F H σ ρ E B A hh le ld q => by
    unfold sApp at q
    cases e : ρ[i]? with
    | none => rw [e] at q; exact q.elim
    | some s =>
      rw [e] at q
      cases s with
      | no => exact q.elim
      | v d => exact q.elim
      | o d =>
        cases d with
        | lst xs =>
          obtain ⟨a, ea, n0, nf, vs, ho, rr⟩ := hh.ownAt e
          refine ⟨.ref a, ea, .inl ⟨rfl, vs, SqL.of ho⟩, ?_⟩
          refine ha.ok F0 H0 F H σ ρ E _ hh le (ha.mono E ρ _ _ (fun x q v F1 H1 g1 r1 => ?_) q)
          have e1 := g1.k.get ho
          refine ⟨a, vs, v, rfl, rfl, e1, by rw [rr.length, ← line_eq]; exact q.1, ?_⟩
          exact ld.nx _ _ _ _ ((hh.grow g1).mut (d' := .lst (xs ++ [x])) ea e ⟨vs ++ [v], upd_same, (rr.mono g1.f).append (.cons r1 .nil)⟩) q.2
        | _ => exact q.elim

/-! ### calls of the text's defs -/
/-- the promise that a def's transformer makes -/
def spD (K : Fg) (cl : Cl) (Wf : DF) : Sp := fun vs H Q E => ∃ F ds Q' E', Same F H ∧ Reps K cl F vs ds ∧ Wf ds Q' E' ∧ (∀ d, Q' d → ∀ v F' H', Gr F H F' H' → Rep K cl F' v d → Q v H') ∧ ∀ err, E' err → ∀ c dx F' H', Gr F H F' H' → RepErr K cl F' c dx err → E c dx H'
theorem rfe_call {Wf : DF} {dvs : List V} {dds : List D} (hd : ∀ F, Reps K cl F dvs dds) {ta : TA} {t : DA} (ha : RfA K cl W ta t) : RfE K cl W (tCallSD (spD K cl Wf) dvs (fun σ => WE W σ) ta) (dCall (fun ds => Wf (ds ++ dds)) t) where
  mono2 := fun E E' ρ P P' hE h q => ha.mono2 E E' ρ _ _ hE (fun xs q => q.mono h fun e z => hE e ρ z) q
  ok := fun F0 H0 F H σ ρ E Q hh le q => by
    refine ha.ok F0 H0 F H σ ρ E _ hh le (ha.mono E ρ _ _ (fun xs q vs F1 H1 g1 r1 => ?_) q)
    obtain ⟨Q', E', q, a, b⟩ := q
    exact ⟨F1, xs ++ dds, Q', E', g1.s, r1.append (hd F1), q, fun d z v F' H' g r => a d z v F' H' (g1.trans g) r, fun e z c dx F' H' g r => le e ρ σ F' H' c dx ((hh.grow g1).grow g) (b e z) r⟩
theorem rfe_call0 {Wf : DF} {ta : TA} {t : DA} (ha : RfA K cl W ta t) : RfE K cl W (tCallSD (spD K cl Wf) [] (fun σ => WE W σ) ta) (dCall Wf t) where
  mono2 := fun E E' ρ P P' hE h q => ha.mono2 E E' ρ _ _ hE (fun xs q => q.mono h fun e z => hE e ρ z) q
  ok := fun F0 H0 F H σ ρ E Q hh le q => by
    refine ha.ok F0 H0 F H σ ρ E _ hh le (ha.mono E ρ _ _ (fun xs q vs F1 H1 g1 r1 => ?_) q)
    obtain ⟨Q', E', q, a, b⟩ := q
    exact ⟨F1, xs, Q', E', g1.s, by rw [List.append_nil]; exact r1, q, fun d z v F' H' g r => a d z v F' H' (g1.trans g) r, fun e z c dx F' H' g r => le e ρ σ F' H' c dx ((hh.grow g1).grow g) (b e z) r⟩
end
section
variable {P : Program} {w : World} {K : Fg} {cl : Cl} {mg : Str → Option Value} {base : Heap}
theorem start_hold {F H : Hp} {n : Nat} (s : Same F H) (tb : TabF cl F H) : ∀ {vs : List V} {ds : List D}, Reps K cl F vs ds → vs.length ≤ n → Hold K cl F H F H (vs.map some ++ List.replicate (n - vs.length) none) (envOf n ds) := fun {vs ds} r hl => by
  have no : ∀ (i : Nat) (d : D), (envOf n ds)[i]? ≠ some (.o d) := fun i d e => by
    unfold envOf at e
    have := List.mem_of_getElem? e
    rw [List.mem_append] at this
    rcases this with z | z
    · obtain ⟨d, _, z⟩ := List.mem_map.mp z
      cases z
    · have := (List.mem_replicate.mp z).2
      cases this
  refine ⟨Gr.refl s, tb, by unfold envOf; simp [r.length], fun _ => 0, fun i sl e => ?_, fun i j di dj e _ => absurd e (no i di), fun i a d _ e => absurd e (no i d)⟩
  · unfold envOf at e
    by_cases hi : i < ds.length
    · rw [List.getElem?_append_left (by simpa using hi), List.getElem?_map, List.getElem?_eq_getElem hi] at e
      cases e
      obtain ⟨v, e1, rv⟩ := r.get (List.getElem?_eq_getElem hi)
      refine ⟨v, ?_, rv⟩
      rw [List.getElem?_append_left (by rw [List.length_map, r.length]; exact hi), List.getElem?_map, e1]
      rfl
    · rw [List.getElem?_append_right (by simpa using hi)] at e
      have := List.mem_of_getElem? e
      rw [List.mem_replicate] at this
      rw [this.2]
      trivial
/-- THE RULE for a def -/
theorem fn_okX {x qual : Str} {st : Stmt} {f : Addr} {fd : FuncData} {N ps : List Str} {k : Nat} {b : DS} (F : Fun K x qual st f fd) (S : FnScope N ps (defScope st)) (hp : ps.length ≤ N.length)
    (hb : ∀ (cdv : Value) (A : Around) (outer : List PySem.Env) (s : Shared) (H : Hp) (E : XK), Room k (A.deeper (envOfC qual (defScope st) s.heap.objs.size f cdv)) →
      ∃ t, VSs (cxOf (L2.CX P w) P w K mg base N qual (defScope st) f cdv A outer s H E) K cl (fun c d _ H' => E c d H') (defBody st) t b) (hf : cl.fr = false := by rfl) (ht : cl.tabs = [] := by rfl) :
    FnOk P w K mg base (L2.CX P w) (k + 1) f fd ps (spD K cl (defT ps.length N.length b)) := by
  refine F.okX S (fun vs H Q E h => ?_) (fun cdv A outer s H vs Q E hr h => ?_)
  · obtain ⟨F0, ds, Q', E', _, r, ⟨hl, _⟩, _⟩ := h
    rw [r.length]
    exact hl
  · obtain ⟨F0, ds, Q', E', s0, r, ⟨hl, q⟩, hQ, hE⟩ := h
    obtain ⟨t, h⟩ := hb cdv A outer s H E hr
    refine ⟨t, h.pe, ?_⟩
    have hn : vs.length ≤ N.length := by rw [r.length, hl]; exact hp
    exact h.rf.ok F0 H F0 H _ _ (fun e _ => E' e) { nx := fun _ => Q' .non, rt := Q' } { nx := fun _ H' => Q .non H', rt := Q } (start_hold s0 (.nil ht) r hn) (fun err ρ σ F' H' c dx h e re => hE err e c dx F' H' h.g re)
      ⟨fun F' H' σ ρ h q => hQ _ q .non F' H' h.g .non, fun _ _ _ _ _ z => z.elim, fun _ _ _ _ _ z => z.elim, fun F' H' v d g r _ q => hQ d q v F' H' g (r hf), fun _ _ _ _ _ _ _ _ z => z.elim⟩ q
/-- the promise of a def that gives a new object of its own -/
def spN (K : Fg) (cl : Cl) (Wf : DF) : Sp := fun vs H Q E => ∃ F ds Q' E', Same F H ∧ Reps K cl F vs ds ∧ Wf ds Q' E' ∧ (∀ d, Q' d → ∀ p F' H', Gr F H F' H' → H p = none → F' p = none → Own K cl F' H' p d → Q (.ref p) H') ∧ ∀ err, E' err → ∀ c dx F' H', Gr F H F' H' → RepErr K cl F' c dx err → E c dx H'
/-- THE RULE for such a def -/
theorem fn_okF {x qual : Str} {st : Stmt} {f : Addr} {fd : FuncData} {N ps : List Str} {k : Nat} {b : DS} (F : Fun K x qual st f fd) (S : FnScope N ps (defScope st)) (hp : ps.length ≤ N.length)
    (hb : ∀ (cdv : Value) (A : Around) (outer : List PySem.Env) (s : Shared) (H : Hp) (E : XK), Room k (A.deeper (envOfC qual (defScope st) s.heap.objs.size f cdv)) →
      ∃ t, VSs (cxOf (L2.CX P w) P w K mg base N qual (defScope st) f cdv A outer s H E) K cl (fun c d _ H' => E c d H') (defBody st) t b) (hf : cl.fr = true := by rfl) (ht : cl.tabs = [] := by rfl) :
    FnOk P w K mg base (L2.CX P w) (k + 1) f fd ps (spN K cl (defF ps.length N.length b)) := by
  refine F.okX S (fun vs H Q E h => ?_) (fun cdv A outer s H vs Q E hr h => ?_)
  · obtain ⟨F0, ds, Q', E', _, r, ⟨hl, _⟩, _⟩ := h
    rw [r.length]
    exact hl
  · obtain ⟨F0, ds, Q', E', s0, r, ⟨hl, q⟩, hQ, hE⟩ := h
    obtain ⟨t, h⟩ := hb cdv A outer s H E hr
    refine ⟨t, h.pe, ?_⟩
    have hn : vs.length ≤ N.length := by rw [r.length, hl]; exact hp
    exact h.rf.ok F0 H F0 H _ _ (fun e _ => E' e) { nx := fun _ => False, rt := Q' } { nx := fun _ H' => Q .non H', rt := Q } (start_hold s0 (.nil ht) r hn) (fun err ρ σ F' H' c dx h e re => hE err e c dx F' H' h.g re)
      ⟨fun _ _ _ _ _ z => z.elim, fun _ _ _ _ _ z => z.elim, fun _ _ _ _ _ z => z.elim, fun F' H' v d g _ r q => by
        obtain ⟨p, rfl, n, f, o⟩ := r hf
        exact hQ d q p F' H' g n f o, fun _ _ _ _ _ _ _ _ z => z.elim⟩ q
/-- what is new may be frozen at once -/
theorem own_frz {F H F' H' : Hp} {p : Addr} {d : D} (g : Gr F H F' H') (hp : H p = none) (hf : F' p = none) (w : Own K cl F' H' p d) : ∃ F2, Gr F H F2 H' ∧ Rep K cl F2 (.ref p) d := by
  obtain ⟨ob, ho⟩ := w.there
  have sf : Same F' (upd F' p ob) := same_upd hf
  have s2 : Same (upd F' p ob) H' := fun b u z => by
    by_cases hb : b = p
    · subst hb
      rw [upd_same] at z
      cases z
      exact ho
    · rw [upd_ne hb] at z
      exact g.s b u z
  refine ⟨upd F' p ob, ⟨g.f.trans sf, g.k, s2, fun c x y => ?_, fun c ps x => ?_, fun c ps x => ?_⟩, ?_⟩
  · by_cases hc : c = p
    · subst hc; exact hp
    · rw [upd_ne hc] at x
      exact g.n c x y
  · by_cases hc : c = p
    · subst hc; exact .inl hp
    · rw [upd_ne hc] at x
      exact g.w c ps x
  · by_cases hc : c = p
    · rw [hc, upd_same, ← ho] at x
      exact absurd x (w.nt.t ps)
    · rw [upd_ne hc] at x
      exact g.v c ps x
  · have eo : (upd F' p ob) p = some ob := upd_same
    cases d with
    | lst ds => obtain ⟨vs, z, r⟩ := w; rw [ho] at z; cases z; exact .lst eo (r.mono sf)
    | dk ds => obtain ⟨vs, z, r⟩ := w; rw [ho] at z; cases z; exact .dk eo (r.mono sf)
    | dt ds => obtain ⟨vs, z, r⟩ := w; rw [ho] at z; cases z; exact .dt eo (r.mono sf)
    | ins c ds => obtain ⟨vs, ⟨C, dx, n, z, o, _⟩, r⟩ := w; rw [ho] at z; cases z; exact .ins n eo (sf _ _ o) (r.mono sf)
    | _ => exact w.elim
theorem fn_frz {k : Nat} {f : Addr} {fd : FuncData} {ps : List Str} {Wf : DF} (F : FnOk P w K mg base (L2.CX P w) k f fd ps (spN K cl Wf)) : FnOk P w K mg base (L2.CX P w) k f fd ps (spD K cl Wf) :=
  F.imp fun vs H Q E ⟨F0, ds, Q', E', s, r, q, a, b⟩ => ⟨F0, ds, Q', E', s, r, q, fun d z p F' H' g n fp o => by
    obtain ⟨F2, g2, r2⟩ := own_frz g n fp o
    exact a d z _ F2 H' g2 r2, b⟩
theorem rfn_call0 {W : WX} {Wf : DF} {ta : TA} {t : DA} (ha : RfA K cl W ta t) : RfN K cl W (tCallSD (spN K cl Wf) [] (fun σ => WE W σ) ta) (dCall Wf t) where
  mono2 := fun E E' ρ P P' hE h q => ha.mono2 E E' ρ _ _ hE (fun xs q => q.mono h fun e z => hE e ρ z) q
  ok := fun F0 H0 F H σ ρ E Q hh le q => by
    refine ha.ok F0 H0 F H σ ρ E _ hh le (ha.mono E ρ _ _ (fun xs q vs F1 H1 g1 r1 => ?_) q)
    obtain ⟨Q', E', q, a, b⟩ := q
    exact ⟨F1, xs, Q', E', g1.s, by rw [List.append_nil]; exact r1, q, fun d z p F' H' g n fp o => a d z p F' H' (g1.trans g) (g1.k.free n) fp o, fun e z c dx F' H' g r => le e ρ σ F' H' c dx ((hh.grow g1).grow g) (b e z) r⟩
end
end DL

set_option maxHeartbeats 2000000
/-! DSort: sorted(..) of a list of pairs of whole numbers, wherever the pairs stand. -/
namespace DL
open PySem L2 PyProof.Rows
variable [TN]
/-- x is the pair p -/
def PairAt (K : Fg) (H : Hp) (x : V) (p : Int × Int) : Prop := ∃ t, x = .ref t ∧ SqT K H t [.int p.1, .int p.2]
inductive PairsAt (K : Fg) (H : Hp) : List V → List (Int × Int) → Prop
  | nil : PairsAt K H [] []
  | cons {x : V} {p : Int × Int} {xs : List V} {ps : List (Int × Int)} (h : PairAt K H x p) (r : PairsAt K H xs ps) : PairsAt K H (x :: xs) (p :: ps)
def rSortedPQ (K : Fg) : List V → Hp → VK → Prop := fun vs H Q => ∃ (F : Hp) (a : Addr) (xs : List V) (ps : List (Int × Int)), Same F H ∧ vs = [V.ref a] ∧ SqL K H a xs ∧ PairsAt K F xs ps ∧
  ∀ (ys : List V) (qs : List (Int × Int)) (p : Addr), PairsAt K F ys qs → qs.Perm ps → qs.Pairwise lexLe → H p = none → Q (.ref p) (upd H p (.lst ys))
theorem isPair_fun {h : Heap} {v : Value} {i j k l : Int} (a : Srt.IsPair h v i j) (b : Srt.IsPair h v k l) : i = k ∧ j = l := by
  obtain ⟨x, o, t, u, n, e, ho, _, hd⟩ := a
  obtain ⟨x', o', t', u', n', e', ho', _, hd'⟩ := b
  rw [e] at e'
  cases e'
  rw [ho] at ho'
  cases ho'
  rw [hd] at hd'
  cases hd'
  exact ⟨rfl, rfl⟩
/-- what pair stands at a value -/
noncomputable def pairOf (h : Heap) (v : Value) : Int × Int := open Classical in if e : ∃ p : Int × Int, Srt.IsPair h v p.1 p.2 then Classical.choose e else (0, 0)
theorem pairOf_eq {h : Heap} {v : Value} {p : Int × Int} (e : Srt.IsPair h v p.1 p.2) : pairOf h v = p := by
  unfold pairOf
  rw [dif_pos ⟨p, e⟩]
  obtain ⟨a, b⟩ := isPair_fun (Classical.choose_spec (⟨p, e⟩ : ∃ p : Int × Int, Srt.IsPair h v p.1 p.2)) e
  exact Prod.ext a b
section
variable {X : Cx} {K : Fg}
theorem Pairs.refs {K : Fg} {H : Hp} : ∀ {xs : List V} {ps : List (Int × Int)}, PairsAt K H xs ps → ∀ x ∈ xs, ∃ t, x = V.ref t
  | _, _, .nil, x, hx => by cases hx
  | _, _, .cons h r, x, hx => by
    rcases List.mem_cons.mp hx with rfl | z
    · obtain ⟨t, e, _⟩ := h
      exact ⟨t, e⟩
    · exact Pairs.refs r x z
theorem pair_ip {pins : List (Addr × Obj)} {σ : L2.St} {F H : Hp} {s : Shared} (I : Inv X pins σ H s) (sf : Same F H) {x : V} {v : Value} {p : Int × Int} (h : PairAt X.K F x p) (rv : RelV x v) : Srt.IsPair s.heap v p.1 p.2 := by
  obtain ⟨t, rfl, ht⟩ := h
  obtain rfl : v = Value.ref t := rv
  obtain ⟨its, r2, ⟨o, ho, hc, n, hd⟩, _⟩ := I.tuple (same_t sf ht)
  obtain ⟨u1, u2, rfl, ri, rj⟩ := vals2 r2
  obtain ⟨t1, rfl⟩ := ri
  obtain ⟨t2, rfl⟩ := rj
  exact ⟨t, o, t1, t2, n, rfl, ho, hc, hd⟩
theorem pairs_map {pins : List (Addr × Obj)} {σ : L2.St} {F H : Hp} {s : Shared} (I : Inv X pins σ H s) (sf : Same F H) : ∀ {xs : List V} {ps : List (Int × Int)} {its : List Value}, PairsAt X.K F xs ps → Vals xs its →
    ps = its.map (pairOf s.heap) ∧ ∀ v ∈ its, Srt.IsPair s.heap v (pairOf s.heap v).1 (pairOf s.heap v).2 ∧ PairAt X.K F (backV v) (pairOf s.heap v)
  | _, _, _, .nil, .nil => ⟨rfl, fun v hv => by cases hv⟩
  | _, _, _, .cons h r, .cons rv t => by
    obtain ⟨h1, h2⟩ := pairs_map I sf r t
    have ip := pair_ip I sf h rv
    have e := pairOf_eq ip
    refine ⟨by rw [List.map_cons, e, ← h1], fun v hv => ?_⟩
    rcases List.mem_cons.mp hv with rfl | z
    · rw [e]
      obtain ⟨t, rfl, ht⟩ := h
      obtain rfl : _ = Value.ref t := rv
      exact ⟨ip, t, rfl, ht⟩
    · exact h2 v z
theorem pairs_back {H : Hp} {h : Heap} : ∀ {out : List Value}, (∀ v ∈ out, PairAt K H (backV v) (pairOf h v)) → PairsAt K H (out.map backV) (out.map (pairOf h))
  | [], _ => .nil
  | v :: r, q => .cons (q v List.mem_cons_self) (pairs_back fun u hu => q u (List.mem_cons_of_mem _ hu))
theorem cr_sortedPQ : CallR X (.builtin "sorted") (rSortedPQ X.K) := by
  intro pins s σ H vs us Q I r h
  obtain ⟨F, a, xs, ps, sf, rfl, hs, hx, q⟩ := h
  obtain ⟨its, rv, hl, hz⟩ := I.list hs
  obtain ⟨u, rfl, ru⟩ := vals1 r
  obtain rfl : u = Value.ref a := ru
  obtain ⟨e1, e2⟩ := refs_back rv (Pairs.refs hx)
  obtain ⟨k1, k2⟩ := pairs_map I sf hx rv
  refine SrtO.sorted_pairsO (k := pairOf s.heap) hl.isList (by rw [← rv.length]; exact hz) (fun v hv => (k2 v hv).1) fun h' d out g1 g2 kp hd hn => ?_
  have g3 : ∀ u ∈ out, u ∈ its := fun u hu => g2.perm.mem_iff.mp hu
  obtain ⟨n, hn⟩ := hn
  have len : (out.map backV).length ≤ sizeLine := by
    rw [List.length_map, g2.perm.length_eq, ← rv.length]
    exact hz
  refine ⟨.ref d, upd H d (.lst (out.map backV)), I.laid (t' := s.toks) kp hd ⟨len, out, n, vals_back fun u hu => e2 u (g3 u hu), hn⟩, rfl, ?_⟩
  refine q (out.map backV) (out.map (pairOf s.heap)) d (pairs_back fun v hv => (k2 v (g3 v hv)).2) (by rw [k1]; exact g2.perm.map _) ?_ (I.hok.fresh hd)
  rw [List.pairwise_map]
  refine List.Pairwise.imp (fun {u w} hh => ?_) g1
  have := SrtO.lexB_no.mp hh
  unfold lexLe
  omega
end
end DL

/-! DBlt: built-ins by data. -/
namespace DL
open PySem L2 PyProof.Rows
variable [TN]
section
variable {X : Cx} {K : Fg} {cl : Cl} {W : WX} {F0 H0 F H F' H' : Hp} {σ σ' : L2.St} {ρ ρ' : DL.Env}
theorem ints_reps : ∀ {l : List D} {ns : List Int} {vs : List V}, intsOf l = some ns → Reps K cl F vs l → vs = ns.map V.int
  | [], ns, _, e, .nil => by cases e; rfl
  | .int i :: r, ns, _, e, .cons (.int _) t => by
    unfold intsOf at e
    cases q : intsOf r with
    | none => rw [q] at e; cases e
    | some ms =>
      rw [q] at e
      cases e
      rw [ints_reps q t]
      rfl
theorem reps_ints : ∀ (ns : List Int), Reps K cl F (ns.map V.int) (ns.map D.int)
  | [] => .nil
  | n :: r => .cons (.int n) (reps_ints r)
theorem bls_reps : ∀ {l : List D} {ns : List Bool} {vs : List V}, blsOf l = some ns → Reps K cl F vs l → vs = ns.map V.bl
  | [], ns, _, e, .nil => by cases e; rfl
  | .bl i :: r, ns, _, e, .cons (.bl _) t => by
    unfold blsOf at e
    cases q : blsOf r with
    | none => rw [q] at e; cases e
    | some ms =>
      rw [q] at e
      cases e
      rw [bls_reps q t]
      rfl
theorem reps1 {vs : List V} {d : D} (r : Reps K cl F vs [d]) : ∃ v, vs = [v] ∧ Rep K cl F v d := by
  cases r with
  | cons h t => cases t; exact ⟨_, rfl, h⟩
theorem reps2 {vs : List V} {d e : D} (r : Reps K cl F vs [d, e]) : ∃ v u, vs = [v, u] ∧ Rep K cl F v d ∧ Rep K cl F u e := by
  cases r with
  | cons h t => cases t with
    | cons h2 t => cases t; exact ⟨_, _, rfl, h, h2⟩
theorem same_l {K : Fg} {H H' : Hp} {a : Addr} {xs : List V} (e : Same H H') (h : SqL K H a xs) : SqL K H' a xs := by
  rcases h with (h | ⟨o, h⟩) | h
  · exact .inl (.inl (e _ _ h))
  · exact .inl (.inr ⟨o, e _ _ h⟩)
  · exact .inr h
theorem SqL.up {a : Addr} {vs : List V} (s : Same F H) (e : F a = some (.lst vs)) : SqL K H a vs := SqL.of (s _ _ e)
/-! len -/
def rLenU (K : Fg) : List V → Hp → VK → Prop := fun xs H Q => (∃ x n, xs = [x] ∧ LenV K x H n ∧ Q (.int n) H) ∨ ∃ d kvs, xs = [.ref d] ∧ H d = some (.dK kvs) ∧ Q (.int kvs.length) H
theorem KReps.length {ws : List (L2.Key × V)} {kvs : List (DL.Key × D)} (r : KReps K cl F ws kvs) : ws.length = kvs.length := by
  induction kvs generalizing ws with
  | nil => cases r; rfl
  | cons d ds ih => cases r with
    | cons h r => simp [ih r]
theorem cr_lenU : CallR X (.builtin "len") (rLenU X.K) := by
  intro pins s σ H vs us Q I r h
  rcases h with h | ⟨d, kvs, h1, h2, h3⟩
  · exact call_len pins s σ H vs us Q I r h
  · exact call_lenD pins s σ H vs us Q I r ⟨d, kvs, h1, h2, h3⟩
theorem rf_len : RfC K cl (rLenU K) fLen where
  mono := fun x P P' h q => by
    match x, q with
    | [.lst l], q => exact h _ q
    | [.tup l], q => exact h _ q
    | [.str z], q => exact ⟨q.1, h _ q.2⟩
    | [.dk l], q => exact h _ q
    | [.scr l], q => exact h _ q
  ok := fun F H v x Q s r q => by
    match x, q, r with
    | [.lst l], q, .cons (.lst e rr) .nil => exact .inl ⟨_, l.length, rfl, .inl ⟨_, SqL.of (s _ _ e), rr.length.symm⟩, q _ F H (Gr.refl s) (.int _)⟩
    | [.tup l], q, .cons (.tup e rr) .nil => exact .inl ⟨_, l.length, rfl, .inr ⟨_, same_t s e, rr.length.symm⟩, q _ F H (Gr.refl s) (.int _)⟩
    | [.str z], q, .cons (.str _) .nil => exact .inl ⟨_, z.length, rfl, ⟨by rw [← line_eq]; exact q.1, rfl⟩, q.2 _ F H (Gr.refl s) (.int _)⟩
    | [.dk l], q, .cons (.dk e rr) .nil => exact .inr ⟨_, _, rfl, s _ _ e, by rw [rr.length]; exact q _ F H (Gr.refl s) (.int _)⟩
    | [.scr l], q, .cons (.scr e) .nil => exact .inl ⟨_, l.length, rfl, .inl ⟨_, s.seq e, by simp⟩, q _ F H (Gr.refl s) (.int _)⟩
/-! abs, min, max -/
theorem rf_gcd : RfC K cl rGcd fGcd where
  mono := fun x P P' h q => by
    match x, q with
    | [.int i, .int j], q => exact h _ q
  ok := fun F H v x Q s r q => by
    match x, q, r with
    | [.int i, .int j], q, .cons (.int _) (.cons (.int _) .nil) => exact ⟨i, j, rfl, q _ F H (Gr.refl s) (.int _)⟩
theorem rf_abs : RfC K cl (fun xs H Q => ∃ i, xs = [.int i] ∧ Q (.int (if i < 0 then -i else i)) H) fAbs where
  mono := fun x P P' h q => by
    match x, q with
    | [.int i], q => exact h _ q
  ok := fun F H v x Q s r q => by
    match x, q, r with
    | [.int i], q, .cons (.int _) .nil => exact ⟨i, rfl, q _ F H (Gr.refl s) (.int _)⟩
def rMinU (K : Fg) : List V → Hp → VK → Prop := fun xs H Q => (∃ i j, xs = [.int i, .int j] ∧ Q (.int (if j < i then j else i)) H) ∨ rMin K xs H Q
theorem cr_minU (hc : X.calm = true) : CallR X (.builtin "min") (rMinU X.K) := (call_min2 hc).or (cr_min hc)
theorem rf_min : RfC K cl (rMinU K) fMin where
  mono := fun x P P' h q => by
    match x, q with
    | [.int i, .int j], q => exact h _ q
    | [.lst l], q =>
      simp only [fMin] at q ⊢
      cases e : intsOf l with
      | none => rw [e] at q; exact q.elim
      | some ns => rw [e] at q; exact ⟨q.1, fun m h1 h2 => h _ (q.2 m h1 h2)⟩
  ok := fun F H v x Q s r q => by
    match x, q, r with
    | [.int i, .int j], q, .cons (.int _) (.cons (.int _) .nil) => exact .inl ⟨i, j, rfl, q _ F H (Gr.refl s) (.int _)⟩
    | [.lst l], q, .cons (.lst e rr) .nil =>
      simp only [fMin] at q
      cases e1 : intsOf l with
      | none => rw [e1] at q; exact q.elim
      | some ns =>
        rw [e1] at q
        have ev := ints_reps e1 rr
        subst ev
        exact .inr ⟨_, ns, rfl, SqL.of (s _ _ e), List.length_pos_iff.mpr q.1, fun m h1 h2 => q.2 m h1 h2 _ F H (Gr.refl s) (.int _)⟩
def rMaxU (K : Fg) : List V → Hp → VK → Prop := fun xs H Q => (∃ i j, xs = [.int i, .int j] ∧ Q (.int (if j > i then j else i)) H) ∨ rMax K xs H Q
theorem cr_maxU (hc : X.calm = true) : CallR X (.builtin "max") (rMaxU X.K) := (call_max2 hc).or (cr_max hc)
theorem rf_max : RfC K cl (rMaxU K) fMax where
  mono := fun x P P' h q => by
    match x, q with
    | [.int i, .int j], q => exact h _ q
    | [.lst l], q =>
      simp only [fMax] at q ⊢
      cases e : intsOf l with
      | none => rw [e] at q; exact q.elim
      | some ns => rw [e] at q; exact ⟨q.1, fun m h1 h2 => h _ (q.2 m h1 h2)⟩
  ok := fun F H v x Q s r q => by
    match x, q, r with
    | [.int i, .int j], q, .cons (.int _) (.cons (.int _) .nil) => exact .inl ⟨i, j, rfl, q _ F H (Gr.refl s) (.int _)⟩
    | [.lst l], q, .cons (.lst e rr) .nil =>
      simp only [fMax] at q
      cases e1 : intsOf l with
      | none => rw [e1] at q; exact q.elim
      | some ns =>
        rw [e1] at q
        have ev := ints_reps e1 rr
        subst ev
        exact .inr ⟨_, ns, rfl, SqL.of (s _ _ e), List.length_pos_iff.mpr q.1, fun m h1 h2 => q.2 m h1 h2 _ F H (Gr.refl s) (.int _)⟩
/-- sum(xs) of a list or a tuple of ints -/
def rSumU (K : Fg) : List V → Hp → VK → Prop := fun vs H Q => rSum K vs H Q ∨ ∃ (a : Addr) (ns : List Int), vs = [V.ref a] ∧ SqT K H a (ns.map V.int) ∧ Q (.int ns.sum) H
theorem cr_sumU {X : Cx} (hc : X.calm = true) : CallR X (.builtin "sum") (rSumU X.K) := by
  intro pins s σ H vs us Q I r h
  rcases h with h | ⟨a, ns, rfl, hs, q⟩
  · exact cr_sum hc pins s σ H vs us Q I r h
  · obtain ⟨its, rv, hl, _⟩ := I.tuple hs
    rw [Vals.ref1 r]
    have hi := rv.ints
    obtain ⟨xs, hx⟩ := hi.allInts.items
    have hl : s.heap.IsTuple a its.toArray := hl
    have hn : numsOf its.toArray.toList = ns := by rw [show its.toArray.toList = its from rfl, hi.numsOf]
    rw [hx] at hl hn
    rw [nums_intItems] at hn
    refine PySem.W.ktm_sumG (I.ok.hd hc) hl fun h' tk t' hk => ?_
    rw [preSum_eq, List.take_of_length_le (by simp), hn]
    exact ⟨.int _, H, I.kept hk, ⟨_, rfl⟩, q⟩
theorem rf_sum : RfC K cl (rSumU K) fSum where
  mono := fun x P P' h q => by
    match x, q with
    | [.lst l], q =>
      simp only [fSum] at q ⊢
      cases e : intsOf l with
      | none => rw [e] at q; exact q.elim
      | some ns => rw [e] at q; exact h _ q
    | [.tup l], q =>
      simp only [fSum] at q ⊢
      cases e : intsOf l with
      | none => rw [e] at q; exact q.elim
      | some ns => rw [e] at q; exact h _ q
  ok := fun F H v x Q s r q => by
    match x, q, r with
    | [.lst l], q, .cons (.lst e rr) .nil =>
      simp only [fSum] at q
      cases e1 : intsOf l with
      | none => rw [e1] at q; exact q.elim
      | some ns =>
        rw [e1] at q
        have ev := ints_reps e1 rr
        subst ev
        exact .inl ⟨_, ns, rfl, SqL.of (s _ _ e), q _ F H (Gr.refl s) (.int _)⟩
    | [.tup l], q, .cons (.tup e rr) .nil =>
      simp only [fSum] at q
      cases e1 : intsOf l with
      | none => rw [e1] at q; exact q.elim
      | some ns =>
        rw [e1] at q
        have ev := ints_reps e1 rr
        subst ev
        exact .inr ⟨_, ns, rfl, same_t s e, q _ F H (Gr.refl s) (.int _)⟩
theorem rf_all : RfC K cl (rAll K) fAll where
  mono := fun x P P' h q => by
    match x, q with
    | [.lst l], q =>
      simp only [fAll] at q ⊢
      cases e : blsOf l with
      | none => rw [e] at q; exact q.elim
      | some ns => rw [e] at q; exact h _ q
  ok := fun F H v x Q s r q => by
    match x, q, r with
    | [.lst l], q, .cons (.lst e rr) .nil =>
      simp only [fAll] at q
      cases e1 : blsOf l with
      | none => rw [e1] at q; exact q.elim
      | some ns =>
        rw [e1] at q
        have ev := bls_reps e1 rr
        subst ev
        exact ⟨_, ns, rfl, SqL.of (s _ _ e), q _ F H (Gr.refl s) (.bl _)⟩
theorem rf_any : RfC K cl (rAny K) fAny where
  mono := fun x P P' h q => by
    match x, q with
    | [.lst l], q =>
      simp only [fAny] at q ⊢
      cases e : blsOf l with
      | none => rw [e] at q; exact q.elim
      | some ns => rw [e] at q; exact h _ q
  ok := fun F H v x Q s r q => by
    match x, q, r with
    | [.lst l], q, .cons (.lst e rr) .nil =>
      simp only [fAny] at q
      cases e1 : blsOf l with
      | none => rw [e1] at q; exact q.elim
      | some ns =>
        rw [e1] at q
        have ev := bls_reps e1 rr
        subst ev
        exact ⟨_, ns, rfl, SqL.of (s _ _ e), q _ F H (Gr.refl s) (.bl _)⟩
/-! int, str, divmod -/
theorem rf_int : RfC K cl (fun xs H Q => (∃ i, xs = [.int i] ∧ Q (.int i) H) ∨ ∃ k, xs = [.bl k] ∧ Q (.int (if k then 1 else 0)) H) fInt where
  mono := fun x P P' h q => by
    match x, q with
    | [.int i], q => exact h _ q
    | [.bl i], q => exact h _ q
  ok := fun F H v x Q s r q => by
    match x, q, r with
    | [.int i], q, .cons (.int _) .nil => exact .inl ⟨i, rfl, q _ F H (Gr.refl s) (.int _)⟩
    | [.bl i], q, .cons (.bl _) .nil => exact .inr ⟨i, rfl, q _ F H (Gr.refl s) (.int _)⟩
theorem rf_str : RfC K cl (fun xs H Q => ∃ i, xs = [.int i] ∧ i.natAbs.log2 < 1920 ∧ Q (.str (toString i)) H) fStr where
  mono := fun x P P' h q => by
    match x, q with
    | [.int i], q => exact ⟨q.1, h _ q.2⟩
  ok := fun F H v x Q s r q => by
    match x, q, r with
    | [.int i], q, .cons (.int _) .nil => exact ⟨i, rfl, q.1, q.2 _ F H (Gr.refl s) (.str _)⟩
theorem rf_divmod : RfC K cl (fun xs H Q => ∃ i j, xs = [.int i, .int j] ∧ CDiv i j ∧ ∀ p, H p = none → Q (.ref p) (upd H p (.tup [.int (i / j), .int (i % j)]))) fDivmod where
  mono := fun x P P' h q => by
    match x, q with
    | [.int i, .int j], q => exact ⟨q.1, h _ q.2⟩
  ok := fun F H v x Q s r q => by
    match x, q, r with
    | [.int i, .int j], q, .cons (.int _) (.cons (.int _) .nil) =>
      exact ⟨i, j, rfl, q.1, fun p hp => q.2 _ (upd F p _) _ (Gr.new s hp) (.tup (SqT.of upd_same) (.cons (.int _) (.cons (.int _) .nil)))⟩
/-! list, tuple, sorted: new objects -/
structure RfNC (K : Fg) (cl : Cl) (r : List V → Hp → VK → Prop) (f : List D → DK → Prop) : Prop where
  mono : ∀ x (P P' : DK), (∀ d, P d → P' d) → f x P → f x P'
  ok : ∀ F H v x (Q : VK), Same F H → Reps K cl F v x → f x (fun d => ∀ p F' H', Gr F H F' H' → H p = none → F' p = none → Own K cl F' H' p d → Q (.ref p) H') → r v H Q
theorem rfn_cb {tr : TA} {r : DA} {rr : List V → Hp → VK → Prop} {f : List D → DK → Prop} (o : RfNC K cl rr f) (hr : RfA K cl W tr r) : RfN K cl W (tCB rr tr) (dBlt f r) where
  mono2 := fun E E' ρ P P' hE h q => hr.mono2 E E' ρ _ _ hE (fun x q => o.mono x P P' h q) q
  ok := fun F0 H0 F H σ ρ E Q hh le q => by
    refine hr.ok F0 H0 F H σ ρ E _ hh le (hr.mono E ρ _ _ (fun x q v F1 H1 g1 r1 => ?_) q)
    exact o.ok F1 H1 v x Q g1.s r1 (o.mono x _ _ (fun d q p F' H' g3 hp hf w => q p F' H' (g1.trans g3) (g1.k.free hp) hf w) q)
def rListU (K : Fg) : List V → Hp → VK → Prop := fun xs H Q => (∃ p ys, xs = [.ref p] ∧ (SqL K H p ys ∨ SqT K H p ys) ∧ ∀ l, H l = none → Q (.ref l) (upd H l (.lst ys))) ∨
  ∃ (a : Addr) (kvs : List (L2.Key × V)), xs = [.ref a] ∧ Rd H a (.dK kvs) ∧ ∀ p, H p = none → Q (.ref p) (upd H p (.lst (kvs.map fun kv => kV kv.1)))
def rSortedU (K : Fg) : List V → Hp → VK → Prop := fun xs H Q => rSortedI K xs H Q ∨ rSortedPQ K xs H Q ∨
  ∃ (a : Addr) (kvs : List (L2.Key × V)) (ks : List Int), xs = [.ref a] ∧ Rd H a (.dK kvs) ∧ kvs.map (·.1) = ks.map Sum.inl ∧ ks.length < 64 ∧ ∀ (ys : List Int) (p : Addr), ys.Perm ks → ys.Pairwise (· ≤ ·) → H p = none → Q (.ref p) (upd H p (.lst (ys.map V.int)))
theorem cr_listU {X : Cx} (hc : X.calm = true) : CallR X (.type "list") (rListU X.K) := fun pins s σ H vs us Q I r h => by
  rcases h with h | h
  · exact call_list_of pins s σ H vs us Q I r h
  · exact call_listD hc pins s σ H vs us Q I r h
theorem cr_sortedU {X : Cx} (hc : X.calm = true) : CallR X (.builtin "sorted") (rSortedU X.K) := fun pins s σ H vs us Q I r h => by
  rcases h with h | h | h
  · exact cr_sortedI pins s σ H vs us Q I r h
  · exact cr_sortedPQ pins s σ H vs us Q I r h
  · exact call_sortedDI hc pins s σ H vs us Q I r h
theorem rep_kV {F : Hp} : ∀ (k : L2.Key), Rep K cl F (kV k) (keyD k)
  | .inl i => .int i
  | .inr x => .str x
theorem kreps_keys {F : Hp} : ∀ {ws : List (L2.Key × V)} {kvs : List (DL.Key × D)}, KReps K cl F ws kvs → Reps K cl F (ws.map fun kv => kV kv.1) (kvs.map fun kv => keyD kv.1) ∧ ws.map (·.1) = kvs.map (·.1)
  | _, _, .nil => ⟨.nil, rfl⟩
  | _, _, .cons (k := k) h r => ⟨.cons (rep_kV k) (kreps_keys r).1, by rw [List.map_cons, List.map_cons, (kreps_keys r).2]⟩
theorem ikeys_eq : ∀ {kvs : List (DL.Key × D)} {ns : List Int}, ikeys kvs = some ns → kvs.map (·.1) = ns.map Sum.inl
  | [], _, h => by cases h; rfl
  | (.inl i, _) :: r, ns, h => by
    unfold ikeys at h
    cases e : ikeys r with
    | none => rw [e] at h; cases h
    | some ms =>
      rw [e] at h
      cases h
      rw [List.map_cons, ikeys_eq e]
      rfl
  | (.inr _, _) :: _, _, h => by unfold ikeys at h; cases h
theorem rf_list : RfNC K cl (rListU K) fList where
  mono := fun x P P' h q => by
    match x, q with
    | [.lst l], q => exact h _ q
    | [.tup l], q => exact h _ q
    | [.dk l], q => exact h _ q
    | [.scr ns], q => exact h _ q
  ok := fun F H v x Q s r q => by
    match x, q, r with
    | [.lst l], q, .cons (.lst e rr) .nil => exact .inl ⟨_, _, rfl, .inl (SqL.of (s _ _ e)), fun p hp => q p F _ (Gr.h s (nx_upd hp)) hp (s.free hp) ⟨_, upd_same, rr⟩⟩
    | [.tup l], q, .cons (.tup e rr) .nil => exact .inl ⟨_, _, rfl, .inr (same_t s e), fun p hp => q p F _ (Gr.h s (nx_upd hp)) hp (s.free hp) ⟨_, upd_same, rr⟩⟩
    | [.dk l], q, .cons (.dk e rr) .nil => exact .inr ⟨_, _, rfl, .inl (s _ _ e), fun p hp => q p F _ (Gr.h s (nx_upd hp)) hp (s.free hp) ⟨_, upd_same, (kreps_keys rr).1⟩⟩
    | [.scr ns], q, .cons (.scr sq) .nil => exact .inl ⟨_, _, rfl, .inl (same_l s sq), fun p hp => q p F _ (Gr.h s (nx_upd hp)) hp (s.free hp) ⟨_, upd_same, reps_ints ns⟩⟩
theorem pairs_reps {F : Hp} : ∀ (l : List D) {ps : List (Int × Int)} {vs : List V}, pairsOf l = some ps → Reps K cl F vs l → PairsAt K F vs ps := by
  intro l
  induction l with
  | nil =>
    intro ps vs h r
    cases r
    cases h
    exact .nil
  | cons x l ih =>
    intro ps vs h r
    cases r with
    | cons hx rr =>
      have key : ∃ i j qs, x = .tup [.int i, .int j] ∧ pairsOf l = some qs ∧ ps = (i, j) :: qs := by
        have h : (pair1 x).bind (fun p => (pairsOf l).map (p :: ·)) = some ps := h
        cases e1 : pair1 x with
        | none => rw [e1] at h; cases h
        | some p =>
          cases z : pairsOf l with
          | none => rw [e1, z] at h; cases h
          | some qs =>
            rw [e1, z] at h
            exact ⟨p.1, p.2, qs, pair1_eq e1, rfl, (Option.some.inj h).symm⟩
      obtain ⟨i, j, qs, rfl, z, rfl⟩ := key
      cases hx with
      | tup e r2 =>
        cases r2 with
        | cons ha r3 =>
          cases r3 with
          | cons hb r4 =>
            cases r4
            cases ha
            cases hb
            exact .cons ⟨_, rfl, e⟩ (ih z rr)
theorem reps_pairs {F : Hp} : ∀ {vs : List V} {ps : List (Int × Int)}, PairsAt K F vs ps → Reps K cl F vs (ps.map pairD)
  | _, _, .nil => .nil
  | _, _, .cons h r => by
    obtain ⟨t, rfl, ht⟩ := h
    exact .cons (.tup ht (.cons (.int _) (.cons (.int _) .nil))) (reps_pairs r)
theorem rf_sorted : RfNC K cl (rSortedU K) fSorted where
  mono := fun x P P' h q => by
    match x, q with
    | [.lst l], q =>
      simp only [fSorted] at q ⊢
      cases e : intsOf l with
      | none =>
        rw [e] at q
        simp only at q ⊢
        cases e2 : pairsOf l with
        | none => rw [e2] at q; exact q.elim
        | some ps => rw [e2] at q; exact fun ps' h1 h2 => h _ (q ps' h1 h2)
      | some ns => rw [e] at q; exact fun ns' h1 h2 => h _ (q ns' h1 h2)
    | [.dk l], q =>
      simp only [fSorted] at q ⊢
      cases e : ikeys l with
      | none => rw [e] at q; exact q.elim
      | some ns => rw [e] at q; exact ⟨q.1, fun ns' h1 h2 => h _ (q.2 ns' h1 h2)⟩
  ok := fun F H v x Q s r q => by
    match x, q, r with
    | [.lst l], q, .cons (.lst e rr) .nil =>
      simp only [fSorted] at q
      cases e1 : intsOf l with
      | none =>
        rw [e1] at q
        simp only at q
        cases e2 : pairsOf l with
        | none => rw [e2] at q; exact q.elim
        | some ps =>
          rw [e2] at q
          exact .inr (.inl ⟨F, _, _, ps, s, rfl, SqL.of (s _ _ e), pairs_reps _ e2 rr, fun ys qs p hys h1 h2 hp => q qs h1 h2 p F _ (Gr.h s (nx_upd hp)) hp (s.free hp) ⟨_, upd_same, reps_pairs hys⟩⟩)
      | some ns =>
        rw [e1] at q
        have ev := ints_reps e1 rr
        subst ev
        exact .inl ⟨_, ns, rfl, SqL.of (s _ _ e), fun ns' p h1 h2 hp => q ns' h1 h2 p F _ (Gr.h s (nx_upd hp)) hp (s.free hp) ⟨_, upd_same, reps_ints ns'⟩⟩
    | [.dk l], q, .cons (.dk e rr) .nil =>
      simp only [fSorted] at q
      cases e1 : ikeys l with
      | none => rw [e1] at q; exact q.elim
      | some ns =>
        rw [e1] at q
        exact .inr (.inr ⟨_, _, ns, rfl, .inl (s _ _ e), (kreps_keys rr).2.trans (ikeys_eq e1), q.1, fun ns' p h1 h2 hp => q.2 ns' h1 h2 p F _ (Gr.h s (nx_upd hp)) hp (s.free hp) ⟨_, upd_same, reps_ints ns'⟩⟩)
theorem rf_tuple : RfC K cl (fun xs H Q => ∃ p ys, xs = [.ref p] ∧ ((SqL K H p ys ∧ ∀ l, H l = none → Q (.ref l) (upd H l (.tup ys))) ∨ (SqT K H p ys ∧ Q (.ref p) H))) fTuple where
  mono := fun x P P' h q => by
    match x, q with
    | [.lst l], q => exact h _ q
    | [.tup l], q => exact h _ q
  ok := fun F H v x Q s r q => by
    match x, q, r with
    | [.lst l], q, .cons (.lst e rr) .nil => exact ⟨_, _, rfl, .inl ⟨SqL.of (s _ _ e), fun p hp => q _ (upd F p _) _ (Gr.new s hp) (.tup (SqT.of upd_same) (rr.mono (same_upd (s.free hp))))⟩⟩
    | [.tup l], q, .cons (.tup e rr) .nil => exact ⟨_, _, rfl, .inr ⟨same_t s e, q _ F H (Gr.refl s) (.tup e rr)⟩⟩
/-! isinstance -/
theorem Rep.ty {v : V} {d : D} (s : Same F H) (r : Rep K cl F v d) (h : tyName d ≠ "") : TyX K H v (.type (tyName d)) := by
  cases r with
  | non => exact .base .non
  | bl b => exact .base (.bl b)
  | int b => exact .base (.int b)
  | str b => exact .base (.str b)
  | lst e _ => exact .base (.lst (s _ _ e))
  | dk e _ => exact .base (.dK (s _ _ e))
  | tup e _ =>
    rcases same_t s e with (e | ⟨o, e⟩) | ⟨o, its, n, e, c, _⟩
    · exact .base (.tup e)
    · exact .fTuple e
    · exact .kTuple e c
  | _ => exact absurd rfl h
def kitTab : List (String × String) := [("NoneType", "int"), ("bool", "int"), ("int", "int"), ("str", "int"), ("tuple", "int"), ("list", "int"), ("dict", "int"),
  ("NoneType", "bool"), ("bool", "bool"), ("int", "bool"), ("str", "bool"), ("tuple", "bool"), ("list", "bool"), ("dict", "bool"),
  ("NoneType", "str"), ("bool", "str"), ("int", "str"), ("str", "str"), ("tuple", "str"), ("list", "str"), ("dict", "str"),
  ("NoneType", "tuple"), ("bool", "tuple"), ("int", "tuple"), ("str", "tuple"), ("tuple", "tuple"), ("list", "tuple"), ("dict", "tuple"),
  ("NoneType", "list"), ("bool", "list"), ("int", "list"), ("str", "list"), ("tuple", "list"), ("list", "list"), ("dict", "list"),
  ("NoneType", "dict"), ("bool", "dict"), ("int", "dict"), ("str", "dict"), ("tuple", "dict"), ("list", "dict"), ("dict", "dict")]
theorem kit_tab : (kitTab.all fun p => decide (kitB p.1 p.2 = some (p.1 == p.2 || (p.1 == "bool" && p.2 == "int")))) = true := by decide +kernel
theorem kit_at {a c : String} (h : (a, c) ∈ kitTab) : kitB a c = some (a == c || (a == "bool" && c == "int")) := by
  have := List.all_eq_true.mp kit_tab _ h
  exact of_decide_eq_true this
theorem kit_in (d : D) (h : tyName d ≠ "") {c : String} (hc : c ∈ ["int", "bool", "str", "tuple", "list", "dict"]) : (tyName d, c) ∈ kitTab := by
  simp only [List.mem_cons, List.not_mem_nil, or_false] at hc
  rcases hc with rfl | rfl | rfl | rfl | rfl | rfl <;> cases d <;> first | (exact absurd rfl h) | (simp [tyName, kitTab])
theorem rfe_isi {c : String} (hc : c ∈ ["int", "bool", "str", "tuple", "list", "dict"]) {te : TE} {t : DT} (ha : RfE K cl W te t) : RfE K cl W (tCB (rIsi K) (tCons te (tCons (tC (.ty c)) tNil))) (dIsi c t) where
  mono2 := fun E E' ρ P P' hE h q => ha.mono2 E E' ρ _ _ hE (fun x q => ⟨q.1, h _ q.2⟩) q
  ok := fun F0 H0 F H σ ρ E Q hh le q => by
    refine ha.ok F0 H0 F H σ ρ E _ hh le (ha.mono E ρ _ _ (fun x q v F1 H1 g1 r1 => ?_) q)
    exact ⟨v, .ty c, .type (tyName x), .type c, _, rfl, (by constructor), r1.ty g1.s q.1, kit_ty (kit_at (kit_in x q.1 hc)), q.2 _ F1 H1 g1 (.bl _)⟩
/-! ### looking at own objects -/
theorem bor_o {ρ : DL.Env} (i : Nat) (d : D) : (DL.bor ρ)[i]? ≠ some (.o d) := by
  unfold DL.bor
  rw [List.getElem?_map]
  cases ρ[i]? with
  | none => simp
  | some u => cases u <;> simp
/-- all but the tables -/
def unB (F H : Hp) : Hp := fun p => match F p with
  | some o => some o
  | none => match H p with
    | some (.tbl _) => none
    | x => x
theorem unB_at {F H : Hp} {p : Addr} {o : HO} (h : H p = some o) (nf : F p = none) (n : ∀ ps, o ≠ .tbl ps := by intro _ z; cases z) : unB F H p = some o := by
  unfold unB
  rw [nf, h]
  cases o <;> first | rfl | exact absurd rfl (n _)
theorem Hold.bor (h : Hold K cl F0 H0 F H σ ρ) : ∃ F', Same F F' ∧ Hold K cl F' H F' H σ (DL.bor ρ) := by
  obtain ⟨θ, hs, hd⟩ := h.sl
  have sf : Same F (unB F H) := fun p o e => by
    unfold unB
    rw [e]
  refine ⟨unB F H, sf, Gr.refl fun p o e => ?_, fun p hp => ?_, by simp [DL.bor, h.len], θ, fun i s e => ?_, fun i j di dj e _ => absurd e (bor_o i di), fun i a d _ e => absurd e (bor_o i d)⟩
  · unfold unB at e
    cases q : F p with
    | some u => rw [q] at e; cases e; exact h.g.s p _ q
    | none =>
      rw [q] at e
      cases q2 : H p with
      | none => rw [q2] at e; cases e
      | some u => rw [q2] at e; cases u <;> cases e <;> rfl
  · obtain ⟨a, b, m⟩ := h.tb p hp
    refine ⟨a, ?_, m⟩
    obtain ⟨ps, e, _⟩ := a
    unfold unB
    rw [b, e]
  · unfold DL.bor at e
    rw [List.getElem?_map] at e
    cases q : ρ[i]? with
    | none => rw [q] at e; cases e
    | some u =>
      rw [q] at e
      cases u with
      | no => cases e; trivial
      | v d => cases e; obtain ⟨v, e1, r⟩ := hs i _ q; exact ⟨v, e1, r.mono sf⟩
      | o d =>
        cases e
        obtain ⟨e1, n0, nf, w⟩ := hs i _ q
        refine ⟨_, e1, ?_⟩
        cases d with
        | lst ds => obtain ⟨vs, z, r⟩ := w; exact .lst (unB_at z nf) (r.mono sf)
        | dk ds => obtain ⟨vs, z, r⟩ := w; exact .dk (unB_at z nf) (r.mono sf)
        | dt ds => obtain ⟨vs, z, r⟩ := w; exact .dt (unB_at z nf) (r.mono sf)
        | ins c ds => obtain ⟨vs, ⟨C, dx, n, z, o, _⟩, r⟩ := w; exact .ins n (unB_at z nf) (sf _ _ o) (r.mono sf)
        | _ => exact w.elim
theorem Rep.flatF {v : V} {d : D} (r : Rep K cl F v d) (h : isFlat d = true) : Rep K cl F' v d := by
  cases r with
  | non => exact .non
  | bl b => exact .bl b
  | int b => exact .int b
  | str b => exact .str b
  | _ => cases h
theorem rfe_bor {te : TE} {t : DT} (ha : RfE K cl W te t) : RfE K cl W te (dBor t) where
  mono2 := fun E E' ρ P P' hE h q => ha.mono noE _ _ _ (fun x q => ⟨q.1, h _ q.2⟩) q
  ok := fun F0 H0 F H σ ρ E Q hh le q => by
    obtain ⟨F', sf, hb⟩ := hh.bor
    refine ha.ok F' H F' H σ _ noE _ hb (fun err ρ σ F H c dx _ z _ => z.elim) (ha.mono noE _ _ _ (fun x q v F1 H1 g1 r1 => ?_) q)
    exact q.2 v F H1 (Gr.hk hh.g.s g1.k ((sf.trans g1.f).trans g1.s)) (r1.flatF q.1)
theorem rfe_ixO {i : Nat} {te : TE} {t : DT} (ha : RfE K cl W te t) : RfE K cl W (tOp (rIxU K) (tVar i) te) (dIxO i t) where
  mono2 := fun E E' ρ P P' hE h q => by
    unfold dIxO at q ⊢
    cases e : ρ[i]? with
    | none => rw [e] at q; exact q.elim
    | some s =>
      rw [e] at q
      cases s with
      | no => exact q.elim
      | v d => exact q.elim
      | o d =>
        cases d with
        | lst xs =>
          refine ha.mono2 E E' ρ _ _ hE (fun y q => ?_) q
          cases y with
          | int k =>
            have q : oGet (DL.atI xs k) P := q
            show oGet (DL.atI xs k) P'
            cases z : DL.atI xs k with
            | none => rw [z] at q; exact q.elim
            | some d => rw [z] at q; exact h _ q
          | _ => exact q.elim
        | _ => exact q.elim
  ok := fun F0 H0 F H σ ρ E Q hh le q => by
    unfold dIxO at q
    cases e : ρ[i]? with
    | none => rw [e] at q; exact q.elim
    | some s =>
      rw [e] at q
      cases s with
      | no => exact q.elim
      | v d => exact q.elim
      | o d =>
        cases d with
        | lst xs =>
          obtain ⟨a, ea, n0, nf, vs, ho, rr⟩ := hh.ownAt e
          refine ⟨.ref a, ea, ha.ok F0 H0 F H σ ρ E _ hh le (ha.mono E ρ _ _ (fun y q u F1 H1 g1 r1 => ?_) q)⟩
          cases r1 with
          | int k =>
            obtain ⟨d, e1, q⟩ := oGet_some q
            obtain ⟨w, e2, r2⟩ := rr.atI e1
            exact .inl (.inl ⟨a, vs, k, w, rfl, rfl, SqL.of (g1.k.get ho), e2, q w F1 H1 g1 (r2.mono g1.f)⟩)
          | _ => exact q.elim
        | _ => exact q.elim
end
end DL

/-! DV: the rules over syntax, as a printed term uses them. -/
namespace DL
open PySem L2 PyProof.Rows
variable [TN]
section
variable {X : Cx} {K : Fg} {cl : Cl} {W : WX} {pos : Pos}
/-! ### expressions -/
theorem ve_var {i : Nat} {x : Str} (hN : X.N[i]? = some x := by rfl) (hv : Vis X.env.scope x := by first | exact Or.inl rfl | exact Or.inr (Or.inl rfl) | exact Or.inr (Or.inr rfl)) (hd : (x == ("__debug__" : Str)) = false := by decide)
    (hcd : (x == ("__classdict__" : Str)) = false := by decide) (hK : X.K = K := by rfl) : VE X K cl W (.Name x pos) (tVar i) (dVar i) := by
  obtain rfl := hK
  exact ⟨pe_var hN hv hd hcd, rfe_var, rfl⟩
theorem ve_int {i j} (hK : X.K = K := by rfl) : VE X K cl W (.Constant (.int i) j pos) (tC (.int i)) (dC (.int i)) := by
  obtain rfl := hK
  exact ⟨pe_int, rfe_c fun _ => .int _, rfl⟩
theorem ve_bl {b j} (hK : X.K = K := by rfl) : VE X K cl W (.Constant (.bool b) j pos) (tC (.bl b)) (dC (.bl b)) := by
  obtain rfl := hK
  exact ⟨pe_bl, rfe_c fun _ => .bl _, rfl⟩
theorem ve_non {j} (hK : X.K = K := by rfl) : VE X K cl W (.Constant .none j pos) (tC .non) (dC .non) := by
  obtain rfl := hK
  exact ⟨pe_non, rfe_c fun _ => .non, rfl⟩
theorem ve_str {x j} (hK : X.K = K := by rfl) : VE X K cl W (.Constant (.str x) j pos) (tC (.str x)) (dC (.str x)) := by
  obtain rfl := hK
  exact ⟨pe_str, rfe_c fun _ => .str _, rfl⟩
theorem ve_glob {x : Str} {v : V} {u : Value} {d : D} (hg : Gl X x) (hm : X.mg x = some u) (r : RelV v u) (rp : ∀ F, Rep K cl F v d) (hd : (x == ("__debug__" : Str)) = false := by decide) (hK : X.K = K := by rfl) : VE X K cl W (.Name x pos) (tC v) (dC d) := by
  obtain rfl := hK
  exact ⟨pe_glob hg hm r hd, rfe_c rp, rfl⟩
theorem ve_globI {x : Str} {n : Int} {tk : Tok} (hg : Gl X x) (hm : X.mg x = some (.int n tk)) (hd : (x == ("__debug__" : Str)) = false := by decide) (hK : X.K = K := by rfl) : VE X K cl W (.Name x pos) (tC (.int n)) (dC (.int n)) := by
  obtain rfl := hK
  exact ⟨pe_glob hg hm ⟨_, rfl⟩ hd, rfe_c fun _ => .int _, rfl⟩
theorem ve_globS {x : Str} {n : Str} {tk : Tok} (hg : Gl X x) (hm : X.mg x = some (.str n tk)) (hd : (x == ("__debug__" : Str)) = false := by decide) (hK : X.K = K := by rfl) : VE X K cl W (.Name x pos) (tC (.str n)) (dC (.str n)) := by
  obtain rfl := hK
  exact ⟨pe_glob hg hm ⟨_, rfl⟩ hd, rfe_c fun _ => .str _, rfl⟩
theorem reps_strs {F : Hp} : ∀ {ns : List Str}, Reps K cl F (ns.map V.str) (ns.map D.str)
  | [] => .nil
  | _ :: _ => .cons (.str _) reps_strs
theorem ve_globTI {x : Str} {a : Addr} {ns : List Int} (hg : Gl X x) (hm : X.mg x = some (.ref a)) (hq : ∀ H, SqT K H a (ns.map V.int)) (hd : (x == ("__debug__" : Str)) = false := by decide) (hK : X.K = K := by rfl) : VE X K cl W (.Name x pos) (tC (.ref a)) (dC (.tup (ns.map .int))) := by
  obtain rfl := hK
  exact ⟨pe_glob hg hm rfl hd, rfe_c fun F => .tup (hq F) (reps_ints _), rfl⟩
theorem ve_globTS {x : Str} {a : Addr} {ns : List Str} (hg : Gl X x) (hm : X.mg x = some (.ref a)) (hq : ∀ H, SqT K H a (ns.map V.str)) (hd : (x == ("__debug__" : Str)) = false := by decide) (hK : X.K = K := by rfl) : VE X K cl W (.Name x pos) (tC (.ref a)) (dC (.tup (ns.map .str))) := by
  obtain rfl := hK
  exact ⟨pe_glob hg hm rfl hd, rfe_c fun F => .tup (hq F) reps_strs, rfl⟩
theorem ve_bin {a b : Expr} {ta tb : TE} {p q : DT} {op : Operator} {r : R2} {f : D → D → DK → Prop} (ho : OpR X (binaryOp op) r) (o : RfOp K cl r f) (ha : VE X K cl W a ta p) (hb : VE X K cl W b tb q) : VE X K cl W (.BinOp a op b pos) (tOp r ta tb) (dOp f p q) := by
  obtain rfl := ha.hK
  exact ⟨pe_op ho ha.pe hb.pe, rfe_op o ha.rf hb.rf, rfl⟩
theorem ve_add {a b : Expr} {ta tb : TE} {p q : DT} (ha : VE X K cl W a ta p) (hb : VE X K cl W b tb q) : VE X K cl W (.BinOp a .Add b pos) (tOp (rAddU K) ta tb) (dOp oAdd p q) := by
  obtain rfl := ha.hK
  exact ve_bin op_addU rf_add ha hb
theorem ve_sub {a b : Expr} {ta tb : TE} {p q : DT} (ha : VE X K cl W a ta p) (hb : VE X K cl W b tb q) : VE X K cl W (.BinOp a .Sub b pos) (tOp (rI0 fun i j => .int (i - j)) ta tb) (dOp oSub p q) := by
  obtain rfl := ha.hK
  exact ve_bin op_sub rf_sub ha hb
theorem ve_mul {a b : Expr} {ta tb : TE} {p q : DT} (ha : VE X K cl W a ta p) (hb : VE X K cl W b tb q) : VE X K cl W (.BinOp a .Mult b pos) (tOp (rMulU K) ta tb) (dOp oMul p q) := by
  obtain rfl := ha.hK
  exact ve_bin op_mulU rf_mul ha hb
theorem ve_div {a b : Expr} {ta tb : TE} {p q : DT} (ha : VE X K cl W a ta p) (hb : VE X K cl W b tb q) : VE X K cl W (.BinOp a .FloorDiv b pos) (tOp (rI CDivW fun i j => .int (i / j)) ta tb) (dOp oDiv p q) := by
  obtain rfl := ha.hK
  exact ve_bin op_fdivW rf_div ha hb
theorem ve_mod {a b : Expr} {ta tb : TE} {p q : DT} (ha : VE X K cl W a ta p) (hb : VE X K cl W b tb q) : VE X K cl W (.BinOp a .Mod b pos) (tOp (rI (fun _ j => 0 < j) fun i j => .int (i % j)) ta tb) (dOp oMod p q) := by
  obtain rfl := ha.hK
  exact ve_bin op_mod rf_mod ha hb
theorem ve_pow {a b : Expr} {ta tb : TE} {p q : DT} (ha : VE X K cl W a ta p) (hb : VE X K cl W b tb q) : VE X K cl W (.BinOp a .Pow b pos) (tOp (rI CPow fun i j => .int (i ^ j.toNat)) ta tb) (dOp oPow p q) := by
  obtain rfl := ha.hK
  exact ve_bin op_pow rf_pow ha hb
theorem ve_neg {a : Expr} {ta : TE} {p : DT} (ha : VE X K cl W a ta p) : VE X K cl W (.UnaryOp .USub a pos) (tUn (rU fun i => .int (-i)) ta) (dUn oNeg p) := by
  obtain rfl := ha.hK
  exact ⟨pe_un un_neg ha.pe, rfe_un rf_neg ha.rf, rfl⟩
/-- an operator of comparison and its two readings -/
structure Cm (X : Cx) (K : Fg) (cl : Cl) (op : CmpOp) (r : R2) (f : D → D → DK → Prop) : Prop where
  o : OpR X (compareOp op) r
  f : RfOp K cl r f
  hK : X.K = K
theorem cm_eq (hu : X.A.units + 65 < cLine) (hK : X.K = K := by rfl) : Cm X K cl .Eq (rEqD K) oEq := by
  obtain rfl := hK
  exact ⟨op_eqD (by omega), rf_eq, rfl⟩
theorem cm_ne (hu : X.A.units + 65 < cLine) (hK : X.K = K := by rfl) : Cm X K cl .NotEq (rNeD K) oNe := by
  obtain rfl := hK
  exact ⟨op_neD (by omega), rf_ne, rfl⟩
theorem cm_lt (hu : X.A.units + 65 < cLine) (hK : X.K = K := by rfl) : Cm X K cl .Lt (rCmpU (fun i j => decide (i < j)) fun i j => decide (i.cps.toList < j.cps.toList)) oLt := by
  obtain rfl := hK
  exact ⟨op_ltU, rf_lt, rfl⟩
theorem cm_le (hu : X.A.units + 65 < cLine) (hK : X.K = K := by rfl) : Cm X K cl .LtE (rCmpU (fun i j => decide (i ≤ j)) fun i j => !decide (j.cps.toList < i.cps.toList)) oLe := by
  obtain rfl := hK
  exact ⟨op_leU, rf_le, rfl⟩
theorem cm_gt (hu : X.A.units + 65 < cLine) (hK : X.K = K := by rfl) : Cm X K cl .Gt (rCmpU (fun i j => decide (j < i)) fun i j => decide (j.cps.toList < i.cps.toList)) oGt := by
  obtain rfl := hK
  exact ⟨op_gtU, rf_gt, rfl⟩
theorem cm_ge (hu : X.A.units + 65 < cLine) (hK : X.K = K := by rfl) : Cm X K cl .GtE (rCmpU (fun i j => decide (j ≤ i)) fun i j => !decide (i.cps.toList < j.cps.toList)) oGe := by
  obtain rfl := hK
  exact ⟨op_geU, rf_ge, rfl⟩
theorem cm_in (hu : X.A.units + 65 < cLine) (hK : X.K = K := by rfl) : Cm X K cl .In (rInU K) oIn := by
  obtain rfl := hK
  exact ⟨op_inU hu, rf_in, rfl⟩
theorem cm_notIn (hu : X.A.units + 65 < cLine) (hK : X.K = K := by rfl) : Cm X K cl .NotIn (rNotInU K) oNotIn := by
  obtain rfl := hK
  exact ⟨op_notInU hu, rf_notIn, rfl⟩
theorem cm_is (hu : X.A.units + 65 < cLine) (hK : X.K = K := by rfl) : Cm X K cl .Is (fun x y H Q => y = .non ∧ Q (.bl (decide (x = .non))) H) oIs := by
  obtain rfl := hK
  exact ⟨op_isN, rf_isN, rfl⟩
theorem cm_isNot (hu : X.A.units + 65 < cLine) (hK : X.K = K := by rfl) : Cm X K cl .IsNot (fun x y H Q => y = .non ∧ Q (.bl (!decide (x = .non))) H) oIsNot := by
  obtain rfl := hK
  exact ⟨op_notN, rf_notN, rfl⟩
theorem ve_cmp {a b : Expr} {ta tb : TE} {p q : DT} {op : CmpOp} {r : R2} {f : D → D → DK → Prop} (c : Cm X K cl op r f) (ha : VE X K cl W a ta p) (hb : VE X K cl W b tb q) (hm : behindInMarks op b = false := by rfl) : VE X K cl W (.Compare a [op] [b] pos) (tOp r ta tb) (dOp f p q) := by
  obtain rfl := c.hK
  exact ⟨pe_cmpR c.o ha.pe hb.pe hm, rfe_op c.f ha.rf hb.rf, rfl⟩
theorem vb_cmp {a b : Expr} {ta tb : TE} {p q : DT} {op : CmpOp} {r : R2} {f : D → D → DK → Prop} (c : Cm X K cl op r f) (ha : VE X K cl W a ta p) (hb : VE X K cl W b tb q) (hm : behindInMarks op b = false := by rfl) : VB X K cl W (.Compare a [op] [b] pos) (tTest (tOp r ta tb)) (bT (dOp f p q)) := by
  obtain rfl := c.hK
  exact ⟨pt_cmpR c.o ha.pe hb.pe hm, rfb_T (rfe_op c.f ha.rf hb.rf), rfl⟩
theorem ve_chain {a b c : Expr} {ta tb tc : TE} {p q s : DT} {op op' : CmpOp} {r r' : R2} {f f' : D → D → DK → Prop} (m : Cm X K cl op r f) (m' : Cm X K cl op' r' f') (ha : VE X K cl W a ta p) (hb : VE X K cl W b tb q) (hc : VE X K cl W c tc s)
    (hm : lastMarks [op, op'] [b, c] = false := by with_unfolding_all rfl) : VE X K cl W (.Compare a [op, op'] [b, c] pos) (tChain r r' ta tb tc) (dChain f f' p q s) := by
  obtain rfl := m.hK
  exact ⟨pe_chain m.o m'.o ha.pe hb.pe hc.pe hm, rfe_chain m.f m'.f ha.rf hb.rf hc.rf, rfl⟩
theorem vb_chain {a b c : Expr} {ta tb tc : TE} {p q s : DT} {op op' : CmpOp} {r r' : R2} {f f' : D → D → DK → Prop} (m : Cm X K cl op r f) (m' : Cm X K cl op' r' f') (ha : VE X K cl W a ta p) (hb : VE X K cl W b tb q) (hc : VE X K cl W c tc s)
    (hm : lastMarks [op, op'] [b, c] = false := by with_unfolding_all rfl) : VB X K cl W (.Compare a [op, op'] [b, c] pos) (tTest (tChain r r' ta tb tc)) (bT (dChain f f' p q s)) := by
  obtain rfl := m.hK
  exact ⟨pt_chain m.o m'.o ha.pe hb.pe hc.pe hm, rfb_T (rfe_chain m.f m'.f ha.rf hb.rf hc.rf), rfl⟩
theorem ve_one {a : Expr} {ta : TE} {p : DT} {op} (ha : VE X K cl W a ta p) : VE X K cl W (.BoolOp op [a] pos) ta p := by
  obtain rfl := ha.hK
  exact ⟨pe_one ha.pe, ha.rf, rfl⟩
theorem ve_and {a b : Expr} {rest : List Expr} {ta tb : TE} {p q : DT} (ha : VE X K cl W a ta p) (hb : VE X K cl W (.BoolOp .And (b :: rest) pos) tb q) : VE X K cl W (.BoolOp .And (a :: b :: rest) pos) (tAndV ta tb) (dAndV p q) := by
  obtain rfl := ha.hK
  exact ⟨pe_and ha.pe hb.pe, rfe_andV ha.rf hb.rf, rfl⟩
theorem ve_or {a b : Expr} {rest : List Expr} {ta tb : TE} {p q : DT} (ha : VE X K cl W a ta p) (hb : VE X K cl W (.BoolOp .Or (b :: rest) pos) tb q) : VE X K cl W (.BoolOp .Or (a :: b :: rest) pos) (tOrV ta tb) (dOrV p q) := by
  obtain rfl := ha.hK
  exact ⟨pe_or ha.pe hb.pe, rfe_orV ha.rf hb.rf, rfl⟩
theorem ve_not {a : Expr} {ta : TE} {p : DT} (ha : VE X K cl W a ta p) : VE X K cl W (.UnaryOp .Not a pos) (tNotV ta) (dNotV p) := by
  obtain rfl := ha.hK
  exact ⟨pe_not ha.pe, rfe_notV ha.rf, rfl⟩
theorem ve_if {c a b : Expr} {tc : TT} {ta tb : TE} {r : DB} {p q : DT} (hc : VB X K cl W c tc r) (ha : VE X K cl W a ta p) (hb : VE X K cl W b tb q) : VE X K cl W (.IfExp c a b pos) (tIf tc ta tb) (dIf r p q) := by
  obtain rfl := hc.hK
  exact ⟨pe_ifExp hc.pe ha.pe hb.pe, rfe_if hc.rf ha.rf hb.rf, rfl⟩
theorem va_nil (hK : X.K = K := by rfl) : VA X K cl W [] tNil aNil := by
  obtain rfl := hK
  exact ⟨pa_nil, rfa_nil, rfl⟩
theorem va_cons {e : Expr} {es : List Expr} {te : TE} {t : TA} {p : DT} {q : DA} (ha : VE X K cl W e te p) (hr : VA X K cl W es t q) (hs : starEach (e :: es) X.env = (false, eval e X.env) :: starEach es X.env := by rfl) : VA X K cl W (e :: es) (tCons te t) (aCons p q) := by
  obtain rfl := ha.hK
  exact ⟨pa_cons ha.pe hr.pe hs, rfa_cons ha.rf hr.rf, rfl⟩
theorem ve_tup {es : List Expr} {x1} {t : TA} {q : DA} (h : VA X K cl W es t q) : VE X K cl W (.Tuple es x1 pos) (tTup t) (dTup q) := by
  obtain rfl := h.hK
  exact ⟨pe_tup h.pe, rfe_tup h.rf, rfl⟩
structure VN (X : Cx) (K : Fg) (cl : Cl) (W : WX) (e : Expr) (te : TE) (t : DT) : Prop where
  pe : PE X e te
  rf : RfN K cl W te t
  hK : X.K = K
theorem VN.e {e : Expr} {te : TE} {t : DT} (h : VN X K cl W e te t) : VE X K cl W e te t := by
  obtain rfl := h.hK
  exact ⟨h.pe, h.rf.e, rfl⟩
theorem vn_lst {es : List Expr} {t : TA} {q : DA} (h : VA X K cl W es t q) : VN X K cl W (.List es pos) (tLst t) (dLst q) := by
  obtain rfl := h.hK
  exact ⟨pe_lst h.pe, rfn_lst h.rf, rfl⟩
theorem ve_lst {es : List Expr} {t : TA} {q : DA} (h : VA X K cl W es t q) : VE X K cl W (.List es pos) (tLst t) (dLst q) := by
  obtain rfl := h.hK
  exact (vn_lst h).e
theorem ve_ix {a b : Expr} {ta tb : TE} {p q : DT} (hu : X.A.units + 65 < cLine) (ha : VE X K cl W a ta p) (hb : VE X K cl W b tb q) (hs : PlainIx b := by exact fun _ _ => rfl) : VE X K cl W (.Subscript a b pos) (tOp (rIxU K) ta tb) (dOp oIx p q) := by
  obtain rfl := ha.hK
  exact ⟨pe_ix (ix_U (by omega)) ha.pe hb.pe hs, rfe_op rf_ix ha.rf hb.rf, rfl⟩
theorem ve_ixO {i : Nat} {x : Str} {p1 : Pos} {b : Expr} {tb : TE} {q : DT} (hu : X.A.units + 65 < cLine) (hb : VE X K cl W b tb q) (hs : PlainIx b := by exact fun _ _ => rfl) (hN : X.N[i]? = some x := by rfl) (hv : Vis X.env.scope x := by first | exact Or.inl rfl | exact Or.inr (Or.inl rfl) | exact Or.inr (Or.inr rfl)) (hd : (x == ("__debug__" : Str)) = false := by decide)
    (hcd : (x == ("__classdict__" : Str)) = false := by decide) : VE X K cl W (.Subscript (.Name x p1) b pos) (tOp (rIxU K) (tVar i) tb) (dIxO i q) := by
  obtain rfl := hb.hK
  exact ⟨pe_ix (ix_U (by omega)) (pe_var hN hv hd hcd) hb.pe hs, rfe_ixO hb.rf, rfl⟩
theorem ve_bor {e : Expr} {te : TE} {p : DT} (h : VE X K cl W e te p) : VE X K cl W e te (dBor p) := by
  obtain rfl := h.hK
  exact ⟨h.pe, rfe_bor h.rf, rfl⟩
theorem vo_N (hK : X.K = K := by rfl) : VO X K cl W none tNoPart oN := by
  obtain rfl := hK
  exact ⟨po_none, rfo_N, rfl⟩
theorem vo_S {e : Expr} {te : TE} {p : DT} (h : VE X K cl W e te p) : VO X K cl W (some e) (tPart te) (oS p) := by
  obtain rfl := h.hK
  exact ⟨po_some h.pe, rfo_S h.rf, rfl⟩
theorem ve_slice {e : Expr} {lo hi : Option Expr} {te : TE} {tl th : TO} {p : DT} {l u : DO} {p2 : Pos} (he : VE X K cl W e te p) (hl : VO X K cl W lo tl l) (hu : VO X K cl W hi th u) : VE X K cl W (.Subscript e (.Slice lo hi none p2) pos) (tSl (rSlU K) te tl th) (dSlice p l u) := by
  obtain rfl := he.hK
  exact ⟨pe_slice sl_U he.pe hl.pe hu.pe, rfe_slice he.rf hl.rf hu.rf, rfl⟩
/-! calls -/
theorem ve_call {Wf : DF} {k : Nat} {f : Addr} {fd : FuncData} {ps : List Str} {x : Str} {p : Pos} {e : Expr} {es : List Expr} {t : TA} {q : DA} (F : FnOk X.prog X.w K X.mg X.base (L2.CX X.prog X.w) k f fd ps (spD K cl Wf)) (hr : Room k X.A) (hg : Gl X x) (mg : X.mg x = some (.ref f)) (hk : PySem.W.keepIn K (.ref f) = true)
    (hb : Binds K fd ps []) (tk : Takes X W) (ha : VA X K cl W (e :: es) t q) (hdb : (x == ("__debug__" : Str)) = false := by decide) (he : starEach (e :: es) X.env = (false, eval e X.env) :: starEach es X.env := by rfl) (hpl : (backTo pos (starEach es X.env)).any (·.1) = false := by rfl) :
    VE X K cl W (.Call (.Name x p) (e :: es) [] pos) (tCallSD (spD K cl Wf) [] (fun σ => WE W σ) t) (dCall Wf q) := by
  obtain rfl := ha.hK
  exact ⟨pe_callSD F hr hg mg hk hb .nil (passAt tk) ha.pe hdb he hpl, rfe_call0 ha.rf, rfl⟩
theorem vn_call {Wf : DF} {k : Nat} {f : Addr} {fd : FuncData} {ps : List Str} {x : Str} {p : Pos} {e : Expr} {es : List Expr} {t : TA} {q : DA} (F : FnOk X.prog X.w K X.mg X.base (L2.CX X.prog X.w) k f fd ps (spN K cl Wf)) (hr : Room k X.A) (hg : Gl X x) (mg : X.mg x = some (.ref f)) (hk : PySem.W.keepIn K (.ref f) = true)
    (hb : Binds K fd ps []) (tk : Takes X W) (ha : VA X K cl W (e :: es) t q) (hdb : (x == ("__debug__" : Str)) = false := by decide) (he : starEach (e :: es) X.env = (false, eval e X.env) :: starEach es X.env := by rfl) (hpl : (backTo pos (starEach es X.env)).any (·.1) = false := by rfl) :
    VN X K cl W (.Call (.Name x p) (e :: es) [] pos) (tCallSD (spN K cl Wf) [] (fun σ => WE W σ) t) (dCall Wf q) := by
  obtain rfl := ha.hK
  exact ⟨pe_callSD F hr hg mg hk hb .nil (passAt tk) ha.pe hdb he hpl, rfn_call0 ha.rf, rfl⟩
theorem ve_callD {Wf : DF} {k : Nat} {f : Addr} {fd : FuncData} {ps : List Str} {x : Str} {p : Pos} {e : Expr} {es : List Expr} {t : TA} {q : DA} {ds : List Value} {dvs : List V} {dds : List D} (F : FnOk X.prog X.w K X.mg X.base (L2.CX X.prog X.w) k f fd ps (spD K cl Wf)) (hr : Room k X.A) (hg : Gl X x) (mg : X.mg x = some (.ref f)) (hk : PySem.W.keepIn K (.ref f) = true)
    (hb : Binds K fd ps ds) (hd : Vals dvs ds) (hr2 : ∀ F, Reps K cl F dvs dds) (tk : Takes X W) (ha : VA X K cl W (e :: es) t q) (hdb : (x == ("__debug__" : Str)) = false := by decide) (he : starEach (e :: es) X.env = (false, eval e X.env) :: starEach es X.env := by rfl) (hpl : (backTo pos (starEach es X.env)).any (·.1) = false := by rfl) :
    VE X K cl W (.Call (.Name x p) (e :: es) [] pos) (tCallSD (spD K cl Wf) dvs (fun σ => WE W σ) t) (dCall (fun xs => Wf (xs ++ dds)) q) := by
  obtain rfl := ha.hK
  exact ⟨pe_callSD F hr hg mg hk hb hd (passAt tk) ha.pe hdb he hpl, rfe_call hr2 ha.rf, rfl⟩
/-- a built-in function, a built-in class, by values -/
structure Bi (X : Cx) (K : Fg) (cl : Cl) (v : Value) (r : List V → Hp → VK → Prop) (f : List D → DK → Prop) : Prop where
  o : CallR X v r
  f : RfC K cl r f
  hK : X.K = K
structure BiN (X : Cx) (K : Fg) (cl : Cl) (v : Value) (r : List V → Hp → VK → Prop) (f : List D → DK → Prop) : Prop where
  o : CallR X v r
  f : RfNC K cl r f
  hK : X.K = K
theorem ve_bfun {id : String} {r : List V → Hp → VK → Prop} {f : List D → DK → Prop} {x : Str} {p : Pos} {e : Expr} {es : List Expr} {t : TA} {q : DA} (b : Bi X K cl (.builtin id) r f) (hg : Gl X x) (hm : X.mg x = some (.builtin id)) (ha : VA X K cl W (e :: es) t q) (hdb : (x == ("__debug__" : Str)) = false := by decide)
    (he : starEach (e :: es) X.env = (false, eval e X.env) :: starEach es X.env := by rfl) (hpl : (backTo pos (starEach es X.env)).any (·.1) = false := by rfl) : VE X K cl W (.Call (.Name x p) (e :: es) [] pos) (tCB r t) (dBlt f q) := by
  obtain rfl := b.hK
  exact ⟨pe_callBfun b.o hg hm ha.pe hdb he hpl, rfe_cb b.f ha.rf, rfl⟩
theorem ve_blt {id : String} {r : List V → Hp → VK → Prop} {f : List D → DK → Prop} {x : Str} {p : Pos} {e : Expr} {es : List Expr} {t : TA} {q : DA} (b : Bi X K cl (.builtin id) r f) (hg : Gl X x) (hm : X.mg x = none) (hv : bootBuiltins x = some (.builtin id)) (ha : VA X K cl W (e :: es) t q) (hn : x ≠ "__name__" := by decide) (hdb : (x == ("__debug__" : Str)) = false := by decide)
    (he : starEach (e :: es) X.env = (false, eval e X.env) :: starEach es X.env := by rfl) (hpl : (backTo pos (starEach es X.env)).any (·.1) = false := by rfl) : VE X K cl W (.Call (.Name x p) (e :: es) [] pos) (tCB r t) (dBlt f q) := by
  obtain rfl := b.hK
  exact ⟨pe_callB b.o hg hm hv ha.pe hn hdb he hpl, rfe_cb b.f ha.rf, rfl⟩
theorem ve_cls {T : String} {r : List V → Hp → VK → Prop} {f : List D → DK → Prop} {x : Str} {p : Pos} {e : Expr} {es : List Expr} {t : TA} {q : DA} (b : Bi X K cl (.type T) r f) (hg : Gl X x) (hm : X.mg x = none) (hv : bootBuiltins x = some (.type T)) (ha : VA X K cl W (e :: es) t q) (hn : x ≠ "__name__" := by decide) (hdb : (x == ("__debug__" : Str)) = false := by decide)
    (he : starEach (e :: es) X.env = (false, eval e X.env) :: starEach es X.env := by rfl) (hpl : (backTo pos (starEach es X.env)).any (·.1) = false := by rfl) : VE X K cl W (.Call (.Name x p) (e :: es) [] pos) (tCB r t) (dBlt f q) := by
  obtain rfl := b.hK
  exact ⟨pe_callTy b.o hg hm hv ha.pe hn hdb he hpl, rfe_cb b.f ha.rf, rfl⟩
theorem vn_blt {id : String} {r : List V → Hp → VK → Prop} {f : List D → DK → Prop} {x : Str} {p : Pos} {e : Expr} {es : List Expr} {t : TA} {q : DA} (b : BiN X K cl (.builtin id) r f) (hg : Gl X x) (hm : X.mg x = none) (hv : bootBuiltins x = some (.builtin id)) (ha : VA X K cl W (e :: es) t q) (hn : x ≠ "__name__" := by decide) (hdb : (x == ("__debug__" : Str)) = false := by decide)
    (he : starEach (e :: es) X.env = (false, eval e X.env) :: starEach es X.env := by rfl) (hpl : (backTo pos (starEach es X.env)).any (·.1) = false := by rfl) : VN X K cl W (.Call (.Name x p) (e :: es) [] pos) (tCB r t) (dBlt f q) := by
  obtain rfl := b.hK
  exact ⟨pe_callB b.o hg hm hv ha.pe hn hdb he hpl, rfn_cb b.f ha.rf, rfl⟩
theorem vn_cls {T : String} {r : List V → Hp → VK → Prop} {f : List D → DK → Prop} {x : Str} {p : Pos} {e : Expr} {es : List Expr} {t : TA} {q : DA} (b : BiN X K cl (.type T) r f) (hg : Gl X x) (hm : X.mg x = none) (hv : bootBuiltins x = some (.type T)) (ha : VA X K cl W (e :: es) t q) (hn : x ≠ "__name__" := by decide) (hdb : (x == ("__debug__" : Str)) = false := by decide)
    (he : starEach (e :: es) X.env = (false, eval e X.env) :: starEach es X.env := by rfl) (hpl : (backTo pos (starEach es X.env)).any (·.1) = false := by rfl) : VN X K cl W (.Call (.Name x p) (e :: es) [] pos) (tCB r t) (dBlt f q) := by
  obtain rfl := b.hK
  exact ⟨pe_callTy b.o hg hm hv ha.pe hn hdb he hpl, rfn_cb b.f ha.rf, rfl⟩
theorem bi_len (hK : X.K = K := by rfl) : Bi X K cl (.builtin "len") (rLenU K) fLen := by
  obtain rfl := hK
  exact ⟨cr_lenU, rf_len, rfl⟩
theorem bi_gcd (hK : X.K = K := by rfl) : Bi X K cl (.builtin "math.gcd") rGcd fGcd := by
  obtain rfl := hK
  exact ⟨cr_gcd, rf_gcd, rfl⟩
theorem bi_abs (hK : X.K = K := by rfl) : Bi X K cl (.builtin "abs") (fun xs H Q => ∃ i, xs = [.int i] ∧ Q (.int (if i < 0 then -i else i)) H) fAbs := by
  obtain rfl := hK
  exact ⟨call_abs, rf_abs, rfl⟩
theorem bi_min (hc : X.calm = true) (hK : X.K = K := by rfl) : Bi X K cl (.builtin "min") (rMinU K) fMin := by
  obtain rfl := hK
  exact ⟨cr_minU hc, rf_min, rfl⟩
theorem bi_max (hc : X.calm = true) (hK : X.K = K := by rfl) : Bi X K cl (.builtin "max") (rMaxU K) fMax := by
  obtain rfl := hK
  exact ⟨cr_maxU hc, rf_max, rfl⟩
theorem bi_sum (hc : X.calm = true) (hK : X.K = K := by rfl) : Bi X K cl (.builtin "sum") (rSumU K) fSum := by
  obtain rfl := hK
  exact ⟨cr_sumU hc, rf_sum, rfl⟩
theorem bi_all (hc : X.calm = true) (hK : X.K = K := by rfl) : Bi X K cl (.builtin "all") (rAll K) fAll := by
  obtain rfl := hK
  exact ⟨cr_all hc, rf_all, rfl⟩
theorem bi_any (hc : X.calm = true) (hK : X.K = K := by rfl) : Bi X K cl (.builtin "any") (rAny K) fAny := by
  obtain rfl := hK
  exact ⟨cr_any hc, rf_any, rfl⟩
theorem bi_int (hK : X.K = K := by rfl) : Bi X K cl (.type "int") (fun xs H Q => (∃ i, xs = [.int i] ∧ Q (.int i) H) ∨ ∃ k, xs = [.bl k] ∧ Q (.int (if k then 1 else 0)) H) fInt := by
  obtain rfl := hK
  exact ⟨call_int1, rf_int, rfl⟩
theorem bi_str (hK : X.K = K := by rfl) : Bi X K cl (.type "str") (fun xs H Q => ∃ i, xs = [.int i] ∧ i.natAbs.log2 < 1920 ∧ Q (.str (toString i)) H) fStr := by
  obtain rfl := hK
  exact ⟨call_str_int, rf_str, rfl⟩
theorem bi_divmod (hK : X.K = K := by rfl) : Bi X K cl (.builtin "divmod") (fun xs H Q => ∃ i j, xs = [.int i, .int j] ∧ CDiv i j ∧ ∀ p, H p = none → Q (.ref p) (upd H p (.tup [.int (i / j), .int (i % j)]))) fDivmod := by
  obtain rfl := hK
  exact ⟨call_divmod, rf_divmod, rfl⟩
theorem bi_tuple (hK : X.K = K := by rfl) : Bi X K cl (.type "tuple") (fun xs H Q => ∃ p ys, xs = [.ref p] ∧ ((SqL K H p ys ∧ ∀ l, H l = none → Q (.ref l) (upd H l (.tup ys))) ∨ (SqT K H p ys ∧ Q (.ref p) H))) fTuple := by
  obtain rfl := hK
  exact ⟨call_tuple_of, rf_tuple, rfl⟩
theorem bn_list (hc : X.calm = true := by rfl) (hK : X.K = K := by rfl) : BiN X K cl (.type "list") (rListU K) fList := by
  obtain rfl := hK
  exact ⟨cr_listU hc, rf_list, rfl⟩
theorem bn_sorted (hc : X.calm = true := by rfl) (hK : X.K = K := by rfl) : BiN X K cl (.builtin "sorted") (rSortedU K) fSorted := by
  obtain rfl := hK
  exact ⟨cr_sortedU hc, rf_sorted, rfl⟩
theorem ve_isi {x c : Str} {cs : String} {p p' : Pos} {e : Expr} {te : TE} {t : DT} (hg : Gl X x) (hm : X.mg x = none) (hv : bootBuiltins x = some (.builtin "isinstance")) (hg2 : Gl X c) (hm2 : X.mg c = none) (hv2 : bootBuiltins c = some (.type cs)) (hc : cs ∈ ["int", "bool", "str", "tuple", "list", "dict"]) (ha : VE X K cl W e te t)
    (hn : x ≠ "__name__" := by decide) (hdb : (x == ("__debug__" : Str)) = false := by decide) (hn2 : c ≠ "__name__" := by decide) (hdb2 : (c == ("__debug__" : Str)) = false := by decide)
    (he : starEach [e, .Name c p'] X.env = (false, eval e X.env) :: starEach [.Name c p'] X.env := by rfl) (he2 : starEach [.Name c p'] X.env = (false, eval (.Name c p') X.env) :: starEach [] X.env := by rfl) (hpl : (backTo pos (starEach [.Name c p'] X.env)).any (·.1) = false := by rfl) :
    VE X K cl W (.Call (.Name x p) [e, .Name c p'] [] pos) (tCB (rIsi K) (tCons te (tCons (tC (.ty cs)) tNil))) (dIsi cs t) := by
  obtain rfl := ha.hK
  exact ⟨pe_callB call_isi hg hm hv (pa_cons ha.pe (pa_cons (pe_bltn hg2 hm2 hv2 rfl hn2 hdb2) pa_nil he2) he) hn hdb he hpl, rfe_isi hc ha.rf, rfl⟩
/-! tests -/
theorem vb_val {e : Expr} {te : TE} {t : DT} (h : VE X K cl W e te t) (he : ∀ whole, isTrue e X.env whole = (do let v ← whole; standAt e.pos; holding [v] (truthy v)) := by intro _; rfl) : VB X K cl W e (tB te) (bT t) := by
  obtain rfl := h.hK
  exact ⟨pt_val h.pe he, rfb_T h.rf, rfl⟩
def tTruA (K : Fg) (ta : TE) : TT := fun σ H Q => ta σ H fun x H' => ∃ k, TruV K x H' k ∧ Q k H'
theorem rfb_truth {te : TE} {t : DT} (ha : RfE K cl W te t) : RfB K cl W (tTruA K te) (bTruth t) where
  mono2 := fun E E' ρ P P' hE h q => ha.mono2 E E' ρ _ _ hE (fun x q => by
    cases x with
    | str z => exact ⟨q.1, h _ q.2⟩
    | non => exact h _ q
    | bl b => exact h _ q
    | int i => exact h _ q
    | lst l => exact h _ q
    | tup l => exact h _ q
    | dk l => exact h _ q
    | _ => exact q.elim) q
  ok := fun F0 H0 F H σ ρ E Q hh le q => by
    have em : ∀ {vs : List V} {ds : List D}, vs.length = ds.length → vs.isEmpty = ds.isEmpty := fun {vs ds} h => by
      cases vs <;> cases ds <;> simp at h ⊢
    refine ha.ok F0 H0 F H σ ρ E _ hh le (ha.mono E ρ _ _ (fun x q v F1 H1 g1 r1 => ?_) q)
    cases r1 with
    | non => exact ⟨false, rfl, q F1 H1 g1⟩
    | bl b => exact ⟨b, rfl, q F1 H1 g1⟩
    | int i => exact ⟨_, rfl, q F1 H1 g1⟩
    | str z => exact ⟨_, ⟨by rw [← line_eq]; exact q.1, by
        rw [Bool.eq_iff_iff]
        simp⟩, q.2 F1 H1 g1⟩
    | lst e r => exact ⟨_, .inl ⟨_, SqL.of (g1.s _ _ e), by rw [em r.length]⟩, q F1 H1 g1⟩
    | tup e r => exact ⟨_, .inr (.inl ⟨_, same_t g1.s e, by rw [em r.length]⟩), q F1 H1 g1⟩
    | dk e r => exact ⟨_, .inr (.inr ⟨_, g1.s _ _ e, by cases r <;> rfl⟩), q F1 H1 g1⟩
    | _ => exact q.elim
theorem vb_truth {e : Expr} {te : TE} {t : DT} (h : VE X K cl W e te t) (he : ∀ whole, isTrue e X.env whole = (do let v ← whole; standAt e.pos; holding [v] (truthy v)) := by intro _; rfl) : VB X K cl W e (tTruA K te) (bTruth t) := by
  obtain rfl := h.hK
  exact ⟨pt_truth h.pe he, rfb_truth h.rf, rfl⟩
theorem VW.b {e : Expr} {te : TT} {t : DB} (h : VW X K cl W e te t) : VB X K cl W e te t := by
  obtain rfl := h.hK
  exact ⟨h.pe.pt, h.rf, rfl⟩
theorem vw_and1 {a : Expr} {tA : TT} {p : DB} (ha : VB X K cl W a tA p) : VW X K cl W (.BoolOp .And [a] pos) tA p := by
  obtain rfl := ha.hK
  exact ⟨pw_and1 ha.pe, ha.rf, rfl⟩
theorem vw_or1 {a : Expr} {tA : TT} {p : DB} (ha : VB X K cl W a tA p) : VW X K cl W (.BoolOp .Or [a] pos) tA p := by
  obtain rfl := ha.hK
  exact ⟨pw_or1 ha.pe, ha.rf, rfl⟩
theorem vw_and {a b : Expr} {rest : List Expr} {tA tB' : TT} {p q : DB} (ha : VB X K cl W a tA p) (hb : VW X K cl W (.BoolOp .And (b :: rest) pos) tB' q) : VW X K cl W (.BoolOp .And (a :: b :: rest) pos) (tAnd tA tB') (bAnd p q) := by
  obtain rfl := ha.hK
  exact ⟨pw_and ha.pe hb.pe, rfb_and ha.rf hb.rf, rfl⟩
theorem vw_or {a b : Expr} {rest : List Expr} {tA tB' : TT} {p q : DB} (ha : VB X K cl W a tA p) (hb : VW X K cl W (.BoolOp .Or (b :: rest) pos) tB' q) : VW X K cl W (.BoolOp .Or (a :: b :: rest) pos) (tOr tA tB') (bOr p q) := by
  obtain rfl := ha.hK
  exact ⟨pw_or ha.pe hb.pe, rfb_or ha.rf hb.rf, rfl⟩
theorem vb_not {a : Expr} {tA : TT} {p : DB} (ha : VB X K cl W a tA p) : VB X K cl W (.UnaryOp .Not a pos) (tNot tA) (bNot p) := by
  obtain rfl := ha.hK
  exact ⟨pt_not ha.pe, rfb_not ha.rf, rfl⟩
theorem rfb_bor {te : TT} {t : DB} {K : Fg} (ha : RfB K cl W te t) : RfB K cl W te (bBor t) where
  mono2 := fun E E' ρ P P' hE h q => ha.mono noE _ _ _ (fun x q => h _ q) q
  ok := fun F0 H0 F H σ ρ E Q hh le q => by
    obtain ⟨F', sf, hb⟩ := hh.bor
    exact ha.ok F' H F' H σ _ noE _ hb (fun err ρ σ F H c dx _ z _ => z.elim) (ha.mono noE _ _ _ (fun x q F1 H1 g1 => q F H1 (Gr.hk hh.g.s g1.k ((sf.trans g1.f).trans g1.s))) q)
theorem vb_bor {e : Expr} {te : TT} {t : DB} (h : VB X K cl W e te t) : VB X K cl W e te (bBor t) := by
  obtain rfl := h.hK
  exact ⟨h.pe, rfb_bor h.rf, rfl⟩
/-! what is walked -/
theorem vi_seq {tg e : Expr} {te : TE} {t : DT} (h : VE X K cl W e te t) : VI X K cl W tg e (iU K te) (iSeq t) := by
  obtain rfl := h.hK
  exact ⟨pi_U h.pe, rfi_seq h.rf, rfl⟩
theorem vi_rng1 {tg a : Expr} {ta : TA} {t : DA} {p : Pos} (hg : Gl X "range") (hm : X.mg "range" = none) (ha : VA X K cl W [a] ta t) (hs : starEach [a] X.env = [(false, eval a X.env)] := by rfl) : VI X K cl W tg (.Call (.Name "range" p) [a] [] pos) (L2.iRng1 ta) (DL.iRng1 t) := by
  obtain rfl := ha.hK
  exact ⟨pi_range1 hg hm ha.pe hs, rfi_rng1 ha.rf, rfl⟩
theorem vi_rng2 {tg a b : Expr} {ta : TA} {t : DA} {p : Pos} (hg : Gl X "range") (hm : X.mg "range" = none) (ha : VA X K cl W [a, b] ta t) (hs : starEach [a, b] X.env = [(false, eval a X.env), (false, eval b X.env)] := by rfl) (hs2 : starEach [b] X.env = [(false, eval b X.env)] := by rfl) : VI X K cl W tg (.Call (.Name "range" p) [a, b] [] pos) (L2.iRng2 ta) (DL.iRng2 t) := by
  obtain rfl := ha.hK
  exact ⟨pi_range2 hg hm ha.pe hs hs2, rfi_rng2 ha.rf, rfl⟩
theorem vi_enum {e : Expr} {ta : TA} {t : DA} {p tpos : Pos} {elts : List Expr} {kk : Nat} (hg : Gl X "enumerate") (hm : X.mg "enumerate" = none) (ha : VA X K cl W [e] ta t) (hs : starEach [e] X.env = [(false, eval e X.env)] := by rfl) : VI X K cl W (.Tuple elts kk tpos) (.Call (.Name "enumerate" p) [e] [] pos) (L2.iEnum K ta) (DL.iEnum t) := by
  obtain rfl := ha.hK
  exact ⟨pi_enum hg hm ha.pe hs, rfi_enum ha.rf, rfl⟩
theorem vi_zip {e e2 : Expr} {ta : TA} {t : DA} {p tpos : Pos} {elts : List Expr} {kk : Nat} (hg : Gl X "zip") (hm : X.mg "zip" = none) (ha : VA X K cl W [e, e2] ta t) (hs : starEach [e, e2] X.env = (false, eval e X.env) :: starEach [e2] X.env := by rfl) (hpl : (backTo pos (starEach [e2] X.env)).any (·.1) = false := by rfl) : VI X K cl W (.Tuple elts kk tpos) (.Call (.Name "zip" p) [e, e2] [] pos) (RZ.iZipA K ta) (DL.iZip t) := by
  obtain rfl := ha.hK
  exact ⟨RZ.pi_zipA hg hm ha.pe hs hpl, rfi_zip ha.rf, rfl⟩
theorem vi_rev {tg e : Expr} {te : TE} {t : DT} {p : Pos} (hg : Gl X "reversed") (hm : X.mg "reversed" = none) (he : VE X K cl W e te t) (hs : starEach [e] X.env = (false, eval e X.env) :: starEach [] X.env := by rfl) : VI X K cl W tg (.Call (.Name "reversed" p) [e] [] pos) (RT.iRevA K te) (DL.iRev t) := by
  obtain rfl := he.hK
  exact ⟨RT.pi_revA hg hm he.pe hs, rfi_rev he.rf, rfl⟩
/-! targets -/
structure VT (X : Cx) (K : Fg) (cl : Cl) (js : List Nat) (e : Expr) (te : TG) (t : DG) : Prop where
  pe : PG X e te
  rf : RfG K cl js te t
  no : NoO t
  go : ∀ d ρ (P : DL.Env → Prop), t d ρ P → ∃ ρ', P ρ'
  hK : X.K = K
structure VTs (X : Cx) (K : Fg) (cl : Cl) (js : List Nat) (n : Nat) (e : List Expr) (te : TGs) (t : DGs) : Prop where
  pe : PGs X e te
  rf : RfGs K cl js te t
  no : NoOs t
  go : ∀ d ρ (P : DL.Env → Prop), t d ρ P → ∃ ρ', P ρ'
  len : ∀ xs ρ Q, t xs ρ Q → xs.length = n
  hK : X.K = K
theorem vt_name {i : Nat} {x : Str} (hN : X.N.Nodup) (hi : X.N[i]? = some x := by rfl) (hx : Loc X.env.scope x := by first | exact Or.inl rfl | exact Or.inr rfl) (hf : X.fn x = true ∨ X.env.scope.names.lookup x = some .local := by first | exact .inl rfl | exact .inr rfl | assumption) (hK : X.K = K := by rfl) : VT X K cl [i] (.Name x pos) (L2.gName i) (DL.gName i) := by
  obtain rfl := hK
  exact ⟨pg_name hN hi hx hf, rfg_name, noO_name, fun _ _ _ q => ⟨_, q⟩, rfl⟩
theorem vts_nil (hK : X.K = K := by rfl) : VTs X K cl [] 0 [] L2.gNil DL.gNil := by
  obtain rfl := hK
  exact ⟨pgs_nil, rfgs_nil, noOs_nil, fun _ _ _ q => ⟨_, q.2⟩, fun xs ρ Q q => by rw [q.1]; rfl, rfl⟩
theorem vts_cons {js ks : List Nat} {n : Nat} {e : Expr} {es : List Expr} {g : TG} {gs : TGs} {t : DG} {ts : DGs} (h1 : VT X K cl js e g t) (h2 : VTs X K cl ks n es gs ts) (hs : (assignEach (e :: es) X.env).map (·.2) = assign e X.env :: (assignEach es X.env).map (·.2) := by rfl) : VTs X K cl (js ++ ks) (n + 1) (e :: es) (L2.gCons g gs) (DL.gCons t ts) := by
  obtain rfl := h1.hK
  exact ⟨pgs_cons h1.pe h2.pe hs, rfgs_cons h1.rf h2.rf, noOs_cons h1.rf.mono h1.no h2.no, fun d ρ P q => by
    cases d with
    | nil => exact q.elim
    | cons x r =>
      obtain ⟨ρ', q⟩ := h1.go _ _ _ q
      exact h2.go _ _ _ q, gCons_len h2.len h1.go, rfl⟩
theorem vt_tup {js : List Nat} {n : Nat} {es : List Expr} {k : Nat} {gs : TGs} {ts : DGs} (hc : X.calm = true) (h : VTs X K cl js n es gs ts) (hn : (assignEach es X.env).length = n := by rfl) (hst : (assignEach es X.env).findIdx? (·.1) = none := by rfl) : VT X K cl js (.Tuple es k pos) (gTL K n gs) (DL.gTup ts) := by
  obtain rfl := h.hK
  exact ⟨pg_tl hc h.pe hn hst, rfg_tup h.rf h.len, noO_tup h.no, fun d ρ P q => by
    cases d <;> first | exact h.go _ _ _ q | exact q.elim, rfl⟩
/-! ### statements -/
theorem vss_nil (hK : X.K = K := by rfl) : VSs X K cl W [] L2.tNext sNext := by
  obtain rfl := hK
  exact ⟨pss_nil, rfs_next, rfl⟩
theorem vss_cons {st : Stmt} {rest : List Stmt} {t u : TS} {a b : DS} (h1 : VS X K cl W st t a) (h2 : VSs X K cl W rest u b) : VSs X K cl W (st :: rest) (tSeq t u) (sSeq a b) := by
  obtain rfl := h1.hK
  exact ⟨pss_cons h1.pe h2.pe, rfs_seq h1.rf h2.rf, rfl⟩
theorem vss_one {st : Stmt} {t : TS} {a : DS} (h1 : VS X K cl W st t a) : VSs X K cl W [st] t a := by
  obtain rfl := h1.hK
  exact ⟨pss_one h1.pe, h1.rf, rfl⟩
theorem vs_pass (hK : X.K = K := by rfl) : VS X K cl W (.Pass pos) L2.tNext sNext := by
  obtain rfl := hK
  exact ⟨ps_pass, rfs_next, rfl⟩
theorem vs_break (hK : X.K = K := by rfl) : VS X K cl W (.Break pos) L2.tBreak sBreak := by
  obtain rfl := hK
  exact ⟨ps_break, rfs_break, rfl⟩
theorem vs_cont (hK : X.K = K := by rfl) : VS X K cl W (.Continue pos) L2.tCont sCont := by
  obtain rfl := hK
  exact ⟨ps_continue, rfs_cont, rfl⟩
theorem vs_expr {e : Expr} {te : TE} {t : DT} (h : VE X K cl W e te t) (hs : swapsWith e none pos.line X.env = pure false := by rfl) : VS X K cl W (.Expr e pos) (tDrop te) (sDrop t) := by
  obtain rfl := h.hK
  exact ⟨ps_expr h.pe hs, rfs_drop h.rf, rfl⟩
theorem vs_ret {e : Expr} {te : TE} {t : DT} (h : VE X K cl W e te t) (hf : cl.fr = false := by rfl) : VS X K cl W (.Return (some e) pos) (tRet te) (sRet t) := by
  obtain rfl := h.hK
  exact ⟨ps_ret h.pe, rfs_ret hf h.rf, rfl⟩
theorem vs_retNew {e : Expr} {te : TE} {t : DT} (h : VN X K cl W e te t) (hf : cl.fr = true := by rfl) : VS X K cl W (.Return (some e) pos) (tRet te) (sRet t) := by
  obtain rfl := h.hK
  exact ⟨ps_ret h.pe, rfs_retNew hf h.rf, rfl⟩
theorem vs_retO {i : Nat} {x : Str} {p1 : Pos} (hN : X.N[i]? = some x := by rfl) (hv : Vis X.env.scope x := by first | exact Or.inl rfl | exact Or.inr (Or.inl rfl) | exact Or.inr (Or.inr rfl)) (hd : (x == ("__debug__" : Str)) = false := by decide)
    (hcd : (x == ("__classdict__" : Str)) = false := by decide) (hK : X.K = K := by rfl) (hf : cl.fr = true := by rfl) : VS X K cl W (.Return (some (.Name x p1)) pos) (tRet (tVar i)) (sRetO i) := by
  obtain rfl := hK
  exact ⟨ps_ret (pe_var hN hv hd hcd), rfs_retO hf, rfl⟩
theorem vs_retN (hK : X.K = K := by rfl) (hf : cl.fr = false := by rfl) : VS X K cl W (.Return none pos) tRetN sRetN := by
  obtain rfl := hK
  exact ⟨ps_retN, rfs_retN hf, rfl⟩
theorem vs_if {c : Expr} {a b : List Stmt} {tc : TT} {t u : TS} {p : DB} {q r : DS} (hc : VB X K cl W c tc p) (ha : VSs X K cl W a t q) (hb : VSs X K cl W b u r) : VS X K cl W (.If c a b pos) (tIfS tc t u) (sIf p q r) := by
  obtain rfl := hc.hK
  exact ⟨ps_if hc.pe ha.pe hb.pe, rfs_if hc.rf ha.rf hb.rf, rfl⟩
theorem vs_set {i : Nat} {x : Str} {e : Expr} {te : TE} {t : DT} {pos' : Pos} (hN : X.N.Nodup) (he : VE X K cl W e te t) (hi : X.N[i]? = some x := by rfl) (hx : Loc X.env.scope x := by first | exact Or.inl rfl | exact Or.inr rfl) (hs : swapsWith e (some (.Name x pos')) pos.line X.env = pure false := by rfl) (hf : X.fn x = true ∨ X.env.scope.names.lookup x = some .local := by first | exact .inl rfl | exact .inr rfl | assumption) :
    VS X K cl W (.Assign [.Name x pos'] e pos) (tAsg te (L2.gName i)) (sSet i t) := by
  obtain rfl := he.hK
  exact ⟨ps_set hN hi hx he.pe hs hf, rfs_set he.rf, rfl⟩
theorem vs_own {i : Nat} {x : Str} {e : Expr} {te : TE} {t : DT} {pos' : Pos} (hN : X.N.Nodup) (he : VN X K cl W e te t) (hi : X.N[i]? = some x := by rfl) (hx : Loc X.env.scope x := by first | exact Or.inl rfl | exact Or.inr rfl) (hs : swapsWith e (some (.Name x pos')) pos.line X.env = pure false := by rfl) (hf : X.fn x = true ∨ X.env.scope.names.lookup x = some .local := by first | exact .inl rfl | exact .inr rfl | assumption) (hpi : cl.pin i = none := by rfl) :
    VS X K cl W (.Assign [.Name x pos'] e pos) (tAsg te (L2.gName i)) (sOwn i t) := by
  obtain rfl := he.hK
  exact ⟨ps_set hN hi hx he.pe hs hf, rfs_own hpi he.rf, rfl⟩
theorem vs_asg {js : List Nat} {tg e : Expr} {te : TE} {t : DT} {g : TG} {d : DG} (he : VE X K cl W e te t) (hg : VT X K cl js tg g d) (hs : swapsWithSole [tg] e pos.line X.env = pure false := by rfl) (hw : swappedStores [tg] e X.env = pure none := by rfl) (h1 : (assignEach [tg] X.env).map (·.2) = [assign tg X.env] := by rfl) :
    VS X K cl W (.Assign [tg] e pos) (tAsg te g) (sAsg t d) := by
  obtain rfl := he.hK
  exact ⟨ps_asg he.pe hg.pe hs hw h1, rfs_asg he.rf hg.rf, rfl⟩
theorem vs_par {i j : Nat} {x y : Str} {a b : Expr} {ta : TA} {q : DA} {px py pt : Pos} {kt k2 pt2} (hc : X.calm = true) (hN : X.N.Nodup) (ha : VA X K cl W [a, b] ta q) (hi : X.N[i]? = some x := by rfl) (hj : X.N[j]? = some y := by rfl) (hij : i ≠ j := by decide)
    (hx : X.env.scope.names.lookup x = some .local := by rfl) (hy : X.env.scope.names.lookup y = some .local := by rfl) (hw : swappedStores [.Tuple [.Name x px, .Name y py] kt pt] (.Tuple [a, b] k2 pt2) X.env = pure (some [x, y]) := by rfl)
    (hs : swapsWithSole [.Tuple [.Name x px, .Name y py] kt pt] (.Tuple [a, b] k2 pt2) pos.line X.env = pure false := by rfl) :
    VS X K cl W (.Assign [.Tuple [.Name x px, .Name y py] kt pt] (.Tuple [a, b] k2 pt2) pos) (tPar i j ta) (sPar i j q) := by
  obtain rfl := ha.hK
  exact ⟨ps_par hc hN hi hj hij hx hy ha.pe hw hs, rfs_par ha.rf, rfl⟩
theorem rf_ipI {g : Int → Int → Int} {f : D → D → DK → Prop} {K : Fg} (hf : ∀ i j Q, f (.int i) (.int j) Q = Q (.int (g i j))) (hn : ∀ x y Q, f x y Q → ∃ i j, x = .int i ∧ y = .int j) : RfIp K cl (ipI g) f where
  mono := fun x y P P' h q => by
    obtain ⟨i, j, rfl, rfl⟩ := hn x y P q
    rw [hf] at q ⊢
    exact h _ q
  ok := fun F H v u x y Q s rx ry q => by
    obtain ⟨i, j, rfl, rfl⟩ := hn x y _ q
    rw [hf] at q
    cases rx
    cases ry
    exact ⟨i, j, rfl, rfl, q _ F H (Gr.refl s) (.int _)⟩
theorem vs_augAdd {i : Nat} {x : Str} {e : Expr} {te : TE} {t : DT} {pos' : Pos} (hN : X.N.Nodup) (he : VE X K cl W e te t) (hi : X.N[i]? = some x := by rfl) (hx : Loc X.env.scope x := by first | exact Or.inl rfl | exact Or.inr rfl) (hf : X.fn x = true ∨ X.env.scope.names.lookup x = some .local := by first | exact .inl rfl | exact .inr rfl | assumption) :
    VS X K cl W (.AugAssign (.Name x pos') .Add e pos) (tAug i te (ipI fun i j => i + j)) (sAug i oAddI t) := by
  obtain rfl := he.hK
  exact ⟨ps_aug hN hi hx he.pe ip_add hf, rfs_aug (rf_ipI (fun _ _ _ => rfl) fun x y Q q => by cases x <;> cases y <;> first | exact ⟨_, _, rfl, rfl⟩ | exact q.elim) he.rf, rfl⟩
theorem vs_augSub {i : Nat} {x : Str} {e : Expr} {te : TE} {t : DT} {pos' : Pos} (hN : X.N.Nodup) (he : VE X K cl W e te t) (hi : X.N[i]? = some x := by rfl) (hx : Loc X.env.scope x := by first | exact Or.inl rfl | exact Or.inr rfl) (hf : X.fn x = true ∨ X.env.scope.names.lookup x = some .local := by first | exact .inl rfl | exact .inr rfl | assumption) :
    VS X K cl W (.AugAssign (.Name x pos') .Sub e pos) (tAug i te (ipI fun i j => i - j)) (sAug i oSub t) := by
  obtain rfl := he.hK
  exact ⟨ps_aug hN hi hx he.pe ip_sub hf, rfs_aug (rf_ipI (fun _ _ _ => rfl) fun x y Q q => by cases x <;> cases y <;> first | exact ⟨_, _, rfl, rfl⟩ | exact q.elim) he.rf, rfl⟩
theorem vs_app {i : Nat} {x : Str} {e : Expr} {te : TE} {t : DT} {p1 apos cpos : Pos} (he : VE X K cl W e te t) (hN : X.N[i]? = some x := by rfl) (hv : Vis X.env.scope x := by first | exact Or.inl rfl | exact Or.inr (Or.inl rfl) | exact Or.inr (Or.inr rfl)) (hd : (x == ("__debug__" : Str)) = false := by decide)
    (hcd : (x == ("__classdict__" : Str)) = false := by decide) (hs1 : starEach [e] X.env = (false, eval e X.env) :: starEach [] X.env := by rfl)
    (hbase : attributeBase (.Name x p1) "append" X.env (eval (.Name x p1) X.env) = eval (.Name x p1) X.env := by rfl)
    (hfew : ((backTo cpos (starEach [e] X.env)).all (fun x => !x.1) && (backToKw cpos (keywordEach [] X.env)).all (fun x => x.1.isSome)
      && decide ([e].length + ([] : List Keyword).length + (if ([] : List Keyword).isEmpty then 0 else 1) < 30)) = true := by rfl)
    (hline : (apos.endLine == cpos.line) = true := by rfl) (hplain : (backTo cpos (starEach [] X.env)).any (·.1) = false := by rfl)
    (hs : swapsWith (.Call (.Attribute (.Name x p1) "append" apos) [e] [] cpos) none pos.line X.env = pure false := by rfl) :
    VS X K cl W (.Expr (.Call (.Attribute (.Name x p1) "append" apos) [e] [] cpos) pos) (tAppS K i te) (sApp i t) := by
  obtain rfl := he.hK
  exact ⟨ps_expr (pe_bm PySem.F.plainAttrs_list PySem.F.slot_list_append PySem.F.type_list_append mt_append (pe_var hN hv hd hcd) (pa_cons he.pe pa_nil hs1) hbase hfew hline hs1 hplain) hs, rfs_app he.rf, rfl⟩
theorem vs_frz {i : Nat} {st : Stmt} {ts : TS} {t : DS} (h : VS X K cl W st ts t) : VS X K cl W st ts (sFrz i t) := by
  obtain rfl := h.hK
  exact ⟨h.pe, rfs_frz h.rf, rfl⟩
theorem vs_fgt {js : List Nat} {st : Stmt} {ts : TS} {t : DS} (h : VS X K cl W st ts t) : VS X K cl W st ts (sFgt js t) := by
  obtain rfl := h.hK
  exact ⟨h.pe, rfs_fgt h.rf, rfl⟩
theorem vss_frz {i : Nat} {st : List Stmt} {ts : TS} {t : DS} (h : VSs X K cl W st ts t) : VSs X K cl W st ts (sFrz i t) := ⟨h.pe, rfs_frz h.rf, h.hK⟩
theorem vss_fgt {js : List Nat} {st : List Stmt} {ts : TS} {t : DS} (h : VSs X K cl W st ts t) : VSs X K cl W st ts (sFgt js t) := by
  obtain rfl := h.hK
  exact ⟨h.pe, rfs_fgt h.rf, rfl⟩
theorem vs_for {js : List Nat} {tg iter : Expr} {body : List Stmt} {wi : TI} {it : DI} {g : TG} {d : DG} {tb : TS} {b : DS} (hp : PassesOwn (model X.prog X.w) X.A X.env X.xe) (hc : X.calm = true) (hi : VI X K cl W tg iter wi it) (hg : VT X K cl js tg g d) (hb : VSs X K cl W body tb b)
    (hs : ∀ x, foldedSetIterable iter X.env x = pure x := by intro _; rfl) : VS X K cl W (.For tg iter body [] pos) (tFor wi g tb) (sFor it d b) := by
  obtain rfl := hi.hK
  exact ⟨ps_for hp hc hi.pe hg.pe hb.pe hs, rfs_for hi.rf hg.rf hb.rf, rfl⟩
theorem vs_while {c : Expr} {body : List Stmt} {tc : TT} {p : DB} {tb : TS} {b : DS} (hp : PassesOwn (model X.prog X.w) X.A X.env X.xe) (hc : VB X K cl W c tc p) (hb : VSs X K cl W body tb b) : VS X K cl W (.While c body [] pos) (tWhile tc tb) (sWhile p b) := by
  obtain rfl := hc.hK
  exact ⟨ps_while hp hc.pe hb.pe, rfs_while hc.rf hb.rf, rfl⟩
/-! ### list comprehensions -/
structure VP (X : Cx) (K : Fg) (cl : Cl) (W : WX) (ifs : List Expr) (tt : TT) (t : DB) : Prop where
  pe : PTs X ifs tt
  rf : RfB K cl W tt t
  hK : X.K = K
theorem vp_nil (hK : X.K = K := by rfl) : VP X K cl W [] tYes bYes := by
  obtain rfl := hK
  exact ⟨pts_nil, rfb_yes, rfl⟩
theorem vp_one {c : Expr} {tt : TT} {t : DB} (h : VB X K cl W c tt t) : VP X K cl W [c] tt t := by
  obtain rfl := h.hK
  exact ⟨pts_one h.pe, h.rf, rfl⟩
abbrev WF : WX := fun _ _ _ _ => False
theorem takes_no {X : Cx} : Takes X WF := fun _ _ ⟨_, _, _, _, _, _, _, _, _, _, _, _, _, _, _, _, w⟩ => w.elim
theorem vn_lc {js : List Nat} {elt tg iter : Expr} {ifs : List Expr} {scope : Scope} {own : List (Str × Nat)} {vs : List Nat} {wi : TI} {it : DI} {g : TG} {d : DG} {tt : TT} {t : DB} {te : TE} {e : DT} (hc : X.calm = true) (hN : X.N.Nodup) (hi : VI X K cl W tg iter wi it) (ok : BlkOk X.N X.env.scope scope own)
    (hg : ∀ (s : Shared) (H : Hp) (C : Addr) (l : List (Str × Addr)) (fp : List Addr), VT (X.blk s H scope (compEnvC scope l C X.env) fp) K cl js tg g d) (ht : ∀ (s : Shared) (H : Hp) (C : Addr) (l : List (Str × Addr)) (fp : List Addr), VP (X.blk s H scope (compEnvC scope l C X.env) fp) K cl WF ifs tt t)
    (he : ∀ (s : Shared) (H : Hp) (C : Addr) (l : List (Str × Addr)) (fp : List Addr), VE (X.blk s H scope (compEnvC scope l C X.env) fp) K cl WF elt te e) (hvs : own.map (·.2) = vs := by rfl) (hjs : ∀ j ∈ js, j ∈ own.map (·.2) := by decide) (hs : ∀ x, foldedSetIterable iter X.env x = pure x := by intro _; rfl) :
    VN X K cl W (.ListComp elt [⟨tg, iter, ifs, 0⟩] scope pos) (tLc wi g tt te vs) (dLc it d t e vs) := by
  obtain rfl := hi.hK
  exact hvs ▸ ⟨pe_lc hc hN hi.pe ok (fun s H C l fp => (hg s H C l fp).pe) (fun s H C l fp => (ht s H C l fp).pe) (fun s H C l fp => (he s H C l fp).pe) hs,
    rfn_lc hi.rf (hg X.s_0 X.H_0 0 [] []).rf (hg X.s_0 X.H_0 0 [] []).no hjs (ht X.s_0 X.H_0 0 [] []).rf (he X.s_0 X.H_0 0 [] []).rf, rfl⟩
theorem vs_lc {i : Nat} {js : List Nat} {y : Str} {py spos : Pos} {elt tg iter : Expr} {ifs : List Expr} {scope : Scope} {own : List (Str × Nat)} {vs : List Nat} {wi : TI} {it : DI} {g : TG} {d : DG} {tt : TT} {t : DB} {te : TE} {e : DT} (hc : X.calm = true) (hN : X.N.Nodup) (hi : VI X K cl W tg iter wi it) (ok : BlkOk X.N X.env.scope scope own)
    (hg : ∀ (s : Shared) (H : Hp) (C : Addr) (l : List (Str × Addr)) (fp : List Addr), VT (X.blk s H scope (compEnvC scope l C X.env) fp) K cl js tg g d) (ht : ∀ (s : Shared) (H : Hp) (C : Addr) (l : List (Str × Addr)) (fp : List Addr), VP (X.blk s H scope (compEnvC scope l C X.env) fp) K cl WF ifs tt t)
    (he : ∀ (s : Shared) (H : Hp) (C : Addr) (l : List (Str × Addr)) (fp : List Addr), VE (X.blk s H scope (compEnvC scope l C X.env) fp) K cl WF elt te e) (hsw : swapsWith (.ListComp elt [⟨tg, iter, ifs, 0⟩] scope pos) (some (.Name y py)) spos.line X.env = pure true) (hy : X.N[i]? = some y := by rfl) (hyl : X.env.scope.names.lookup y = some .local := by rfl) (hvs : own.map (·.2) = vs := by rfl) (hjs : ∀ j ∈ js, j ∈ own.map (·.2) := by decide) (hs : ∀ x, foldedSetIterable iter X.env x = pure x := by intro _; rfl) :
    VS X K cl W (.Assign [.Name y py] (.ListComp elt [⟨tg, iter, ifs, 0⟩] scope pos) spos) (tAsg (tLc wi g tt te vs) (L2.gName i)) (sSet i (dLc it d t e vs)) := by
  obtain rfl := hi.hK
  exact hvs ▸ ⟨ps_setLc hc hN hy hyl hsw hi.pe ok (fun s H C l fp => (hg s H C l fp).pe) (fun s H C l fp => (ht s H C l fp).pe) (fun s H C l fp => (he s H C l fp).pe) hs,
    rfs_set (rfn_lc hi.rf (hg X.s_0 X.H_0 0 [] []).rf (hg X.s_0 X.H_0 0 [] []).no hjs (ht X.s_0 X.H_0 0 [] []).rf (he X.s_0 X.H_0 0 [] []).rf).e, rfl⟩
theorem vs_lcO {i : Nat} {js : List Nat} {y : Str} {py spos : Pos} {elt tg iter : Expr} {ifs : List Expr} {scope : Scope} {own : List (Str × Nat)} {vs : List Nat} {wi : TI} {it : DI} {g : TG} {d : DG} {tt : TT} {t : DB} {te : TE} {e : DT} (hc : X.calm = true) (hN : X.N.Nodup) (hi : VI X K cl W tg iter wi it) (ok : BlkOk X.N X.env.scope scope own)
    (hg : ∀ (s : Shared) (H : Hp) (C : Addr) (l : List (Str × Addr)) (fp : List Addr), VT (X.blk s H scope (compEnvC scope l C X.env) fp) K cl js tg g d) (ht : ∀ (s : Shared) (H : Hp) (C : Addr) (l : List (Str × Addr)) (fp : List Addr), VP (X.blk s H scope (compEnvC scope l C X.env) fp) K cl WF ifs tt t)
    (he : ∀ (s : Shared) (H : Hp) (C : Addr) (l : List (Str × Addr)) (fp : List Addr), VE (X.blk s H scope (compEnvC scope l C X.env) fp) K cl WF elt te e) (hsw : swapsWith (.ListComp elt [⟨tg, iter, ifs, 0⟩] scope pos) (some (.Name y py)) spos.line X.env = pure true) (hy : X.N[i]? = some y := by rfl) (hyl : X.env.scope.names.lookup y = some .local := by rfl) (hvs : own.map (·.2) = vs := by rfl) (hjs : ∀ j ∈ js, j ∈ own.map (·.2) := by decide) (hs : ∀ x, foldedSetIterable iter X.env x = pure x := by intro _; rfl) (hpi : cl.pin i = none := by rfl) :
    VS X K cl W (.Assign [.Name y py] (.ListComp elt [⟨tg, iter, ifs, 0⟩] scope pos) spos) (tAsg (tLc wi g tt te vs) (L2.gName i)) (sOwn i (dLc it d t e vs)) := by
  obtain rfl := hi.hK
  exact hvs ▸ ⟨ps_setLc hc hN hy hyl hsw hi.pe ok (fun s H C l fp => (hg s H C l fp).pe) (fun s H C l fp => (ht s H C l fp).pe) (fun s H C l fp => (he s H C l fp).pe) hs,
    rfs_own hpi (rfn_lc hi.rf (hg X.s_0 X.H_0 0 [] []).rf (hg X.s_0 X.H_0 0 [] []).no hjs (ht X.s_0 X.H_0 0 [] []).rf (he X.s_0 X.H_0 0 [] []).rf), rfl⟩
end
end DL

/-! DCls: classes whose instances are made once and read. -/
namespace DL
open PySem L2 PyProof.Rows
variable [TN]
section
variable {K : Fg} {cl : Cl} {W : WX}
theorem FReps.look {F : Hp} (f : Str) : ∀ {ws : List (Str × V)} {fs : List (Str × D)}, FReps K cl F ws fs → (fs.lookup f = none ∧ ws.lookup f = none) ∨ ∃ v d, fs.lookup f = some d ∧ ws.lookup f = some v ∧ Rep K cl F v d
  | _, _, .nil => .inl ⟨rfl, rfl⟩
  | _, _, .cons (k := k) h r => by
    rw [List.lookup_cons, List.lookup_cons]
    cases e : f == k with
    | true => exact .inr ⟨_, _, rfl, rfl, h⟩
    | false => exact FReps.look f r
theorem FReps.put {F : Hp} {v : V} {d : D} (f : Str) (h : Rep K cl F v d) : ∀ {ws : List (Str × V)} {fs : List (Str × D)}, FReps K cl F ws fs → FReps K cl F (putF f v ws) (putFD f d fs)
  | _, _, .nil => .cons h .nil
  | _, _, .cons (k := k) h2 r => by
    unfold putF putFD
    by_cases e : k = f
    · rw [if_pos e, if_pos e]
      exact .cons h r
    · rw [if_neg e, if_neg e]
      exact .cons h2 (FReps.put f h r)
theorem FReps.length {F : Hp} : ∀ {ws : List (Str × V)} {fs : List (Str × D)}, FReps K cl F ws fs → ws.length = fs.length
  | _, _, .nil => rfl
  | _, _, .cons _ r => by rw [List.length_cons, List.length_cons, FReps.length r]
theorem rfe_fld {c : String} {f : Str} {ta : TE} {t : DT} (hC : ∀ C, cl.nm c = some C → L2.Cls K C ∧ NoAttr K C f) (ha : RfE K cl W ta t) : RfE K cl W (tFld K ta f) (dFld c f t) where
  mono2 := fun E E' ρ P P' hE h q => ha.mono2 E E' ρ _ _ hE (fun x q => by
    cases x with
    | ins c' fs =>
      refine ⟨q.1, ?_⟩
      have q := q.2
      cases e : fs.lookup f with
      | none => rw [e] at q; exact q.elim
      | some d => rw [e] at q; exact h _ q
    | _ => exact q.elim) q
  ok := fun F0 H0 F H σ ρ E Q hh le q => by
    refine ha.ok F0 H0 F H σ ρ E _ hh le (ha.mono E ρ _ _ (fun x q v F1 H1 g1 r1 => ?_) q)
    cases r1 with
    | ins n e1 e2 rr =>
      obtain ⟨rfl, qq⟩ := q
      obtain ⟨h1, h2⟩ := hC _ n
      rcases rr.look f with ⟨z, _⟩ | ⟨v, d, z1, z2, z3⟩
      · rw [z] at qq; exact qq.elim
      · rw [z1] at qq
        exact ⟨_, _, _, _, v, rfl, g1.s _ _ e1, h1, h2, z2, qq v F1 H1 g1 z3⟩
    | _ => exact q.elim
theorem rfs_fldO {c : String} {i : Nat} {f : Str} {ta : TE} {t : DT} (hC : ∀ C, cl.nm c = some C → L2.Cls K C ∧ NoAttr K C f) (ha : RfE K cl W ta t) : RfS K cl W (sFld K (tVar i) ta f) (sFldO c i f t) where
  mono2 := fun E E' A B ρ hE l q => by
    unfold sFldO at q ⊢
    cases e : ρ[i]? with
    | none => rw [e] at q; exact q.elim
    | some s =>
      rw [e] at q
      cases s with
      | no => exact q.elim
      | v d => exact q.elim
      | o d => cases d <;> first | exact ⟨q.1, ha.mono2 E E' ρ _ _ hE (fun x q => ⟨q.1, l.nx _ q.2⟩) q.2⟩ | exact q.elim
  ok := fun F0 H0 F H σ ρ E B A hh le ld q => by
    unfold sFldO at q
    cases e : ρ[i]? with
    | none => rw [e] at q; exact q.elim
    | some s =>
      rw [e] at q
      cases s with
      | no => exact q.elim
      | v d => exact q.elim
      | o d =>
        cases d with
        | ins c' fs =>
          obtain ⟨rfl, q⟩ := q
          obtain ⟨a, ea, n0, nf, ws, ⟨C, dx, n, ho, hd, hm⟩, rr⟩ := hh.ownAt e
          refine ha.ok F0 H0 F H σ ρ E _ hh le (ha.mono E ρ _ _ (fun x q v F1 H1 g1 r1 => ?_) q)
          obtain ⟨h1, h2⟩ := hC _ n
          have e1 := g1.k.get ho
          refine ⟨.ref a, ea, a, C, dx, ws, rfl, e1, h1, h2, by rw [rr.length]; exact q.1, ?_⟩
          exact ld.nx _ _ _ _ ((hh.grow g1).mut (d' := .ins c' (putFD f x fs)) ea e ⟨_, ⟨C, dx, n, upd_same, g1.f _ _ hd, hm⟩, (rr.mono g1.f).put f r1⟩) q.2
        | _ => exact q.elim
theorem rfe_meth {c : String} {C : Addr} {m : Str} {Wf : DF} {ta : TE} {tr : TA} {t : DT} {r : DA} (hC : cl.nm c = some C) (ha : RfE K cl W ta t) (hr : RfA K cl W tr r) : RfE K cl W (tMeth C m (spD K cl Wf) [] (fun _ _ _ => False) ta tr) (dMeth c m Wf t r) where
  mono2 := fun E E' ρ P P' hE h q => ha.mono2 E E' ρ _ _ hE (fun x q => by
    cases x with
    | ins c' fs => exact ⟨q.1, q.2.1, hr.mono2 E E' ρ _ _ hE (fun xs q => q.mono h fun e z => z) q.2.2⟩
    | _ => exact q.elim) q
  ok := fun F0 H0 F H σ ρ E Q hh le q => by
    refine ha.ok F0 H0 F H σ ρ E _ hh le (ha.mono E ρ _ _ (fun x q v F1 H1 g1 r1 => ?_) q)
    cases r1 with
    | ins n e1 e2 rr =>
      obtain ⟨rfl, hm, q⟩ := q
      rw [hC] at n
      cases n
      rcases rr.look m with ⟨_, hm2⟩ | ⟨v, d, z1, _⟩
      rotate_left
      · rw [z1] at hm; cases hm
      refine ⟨_, _, _, rfl, g1.s _ _ e1, hm2, ?_⟩
      have h1 := hh.grow g1
      refine hr.ok F0 H0 F1 H1 σ ρ E _ h1 le (hr.mono E ρ _ _ (fun xs q vs F2 H2 g2 r2 => ?_) q)
      obtain ⟨Q', E', q, a, b⟩ := q
      exact ⟨F2, _ :: xs, Q', E', g2.s, .cons ((Rep.ins hC e1 e2 rr).mono g2.f) (by rw [List.append_nil]; exact r2), q, fun d z v F' H' g r => a d z v F' H' ((g1.trans g2).trans g) r, fun e z c dx F' H' g r => (b e z).elim⟩
    | _ => exact q.elim
/-- the promise of an __init__ -/
def spM (K : Fg) (cl : Cl) (c : String) (Wf : DF) : Sp := fun vs H Q E => ∃ x dx C us Hb F ds Q' E', vs = .ref x :: us ∧ cl.nm c = some C ∧ H = upd (upd Hb dx (.own x)) x (.ins C dx []) ∧ Hb x = none ∧ Hb dx = none ∧ dx ≠ x ∧ Same F Hb ∧ Reps K cl F us ds ∧ Wf ds Q' E' ∧
  (∀ d, Q' d → ∀ F' H', Gr F Hb F' H' → Rep K cl F' (.ref x) d → Q .non H') ∧ ∀ err, E' err → False
theorem rfe_make {c : String} {C : Addr} {Wf : DF} {tr : TA} {r : DA} (hC : cl.nm c = some C) (hr : RfA K cl W tr r) : RfE K cl W (tMake C (spM K cl c Wf) [] (fun _ _ _ => False) tr) (dMake Wf r) where
  mono2 := fun E E' ρ P P' hE h q => hr.mono2 E E' ρ _ _ hE (fun xs q => q.mono h fun e z => z) q
  ok := fun F0 H0 F H σ ρ E Q hh le q => by
    refine hr.ok F0 H0 F H σ ρ E _ hh le (hr.mono E ρ _ _ (fun xs q vs F1 H1 g1 r1 => ?_) q)
    obtain ⟨Q', E', q, a, b⟩ := q
    intro x dx hx hdx ne
    exact ⟨x, dx, C, vs ++ [], H1, F1, xs, Q', E', rfl, hC, rfl, hx, hdx, ne, g1.s, by rw [List.append_nil]; exact r1, q, fun d z F' H' g r => ⟨rfl, a d z _ F' H' (g1.trans g) r⟩, b⟩
end
section
variable {K : Fg} {cl cl' : Cl} {F : Hp}
mutual
theorem Rep.toCl (n : cl'.nm = cl.nm) (o : cl'.so = cl.so) : ∀ {v : V} {d : D}, Rep K cl F v d → Rep K cl' F v d
  | _, _, .non => .non
  | _, _, .bl b => .bl b
  | _, _, .int b => .int b
  | _, _, .str b => .str b
  | _, _, .tup h r => .tup h (Reps.toCl n o r)
  | _, _, .lst h r => .lst h (Reps.toCl n o r)
  | _, _, .dk h r => .dk h (KReps.toCl n o r)
  | _, _, .dt h r => .dt h (TReps.toCl n o r)
  | _, _, .ins c h g r => .ins (by rw [n]; exact c) h g (FReps.toCl n o r)
  | _, _, .st h g z => .st (by rw [o]; exact h) (by rw [o]; exact g) z
  | _, _, .scr h => .scr h
  | _, _, .fn h => .fn (by rw [n]; exact h)
theorem Reps.toCl (n : cl'.nm = cl.nm) (o : cl'.so = cl.so) : ∀ {vs : List V} {ds : List D}, Reps K cl F vs ds → Reps K cl' F vs ds
  | _, _, .nil => .nil
  | _, _, .cons h r => .cons (Rep.toCl n o h) (Reps.toCl n o r)
theorem KReps.toCl (n : cl'.nm = cl.nm) (o : cl'.so = cl.so) : ∀ {vs : List (L2.Key × V)} {ds : List (DL.Key × D)}, KReps K cl F vs ds → KReps K cl' F vs ds
  | _, _, .nil => .nil
  | _, _, .cons h r => .cons (Rep.toCl n o h) (KReps.toCl n o r)
theorem TReps.toCl (n : cl'.nm = cl.nm) (o : cl'.so = cl.so) : ∀ {vs : List (List L2.Key × V)} {ds : List (List DL.Key × D)}, TReps K cl F vs ds → TReps K cl' F vs ds
  | _, _, .nil => .nil
  | _, _, .cons h r => .cons (Rep.toCl n o h) (TReps.toCl n o r)
theorem FReps.toCl (n : cl'.nm = cl.nm) (o : cl'.so = cl.so) : ∀ {vs : List (Str × V)} {ds : List (Str × D)}, FReps K cl F vs ds → FReps K cl' F vs ds
  | _, _, .nil => .nil
  | _, _, .cons h r => .cons (Rep.toCl n o h) (FReps.toCl n o r)
end
theorem repErr_toCl {c : Value} {dx : Option Addr} {e : Err} (n : cl'.nm = cl.nm) (o : cl'.so = cl.so) (h : RepErr K cl F c dx e) : RepErr K cl' F c dx e := by
  obtain ⟨C, h1, h2, h3⟩ := h
  refine ⟨C, by rw [n]; exact h1, h2, ?_⟩
  cases dx with
  | none => exact h3
  | some d =>
    obtain ⟨ws, h4, h5⟩ := h3
    exact ⟨ws, h4, h5.toCl n o⟩
end
section
variable {P : Program} {w : World} {K : Fg} {cl cl' : Cl} {mg : Str → Option Value} {base : Heap}
/-- a def's promise while an instance is made -/
theorem fn_cl {k : Nat} {f : Addr} {fd : FuncData} {ps : List Str} {Wf : DF} (F : FnOk P w K mg base (L2.CX P w) k f fd ps (spD K cl Wf)) (n : cl'.nm = cl.nm) (o : cl'.so = cl.so) : FnOk P w K mg base (L2.CX P w) k f fd ps (spD K cl' Wf) :=
  F.imp fun vs H Q E ⟨F0, ds, Q', E', s, r, q, a, b⟩ => ⟨F0, ds, Q', E', s, r.toCl n.symm o.symm, q, fun d z v F' H' g r => a d z v F' H' g (r.toCl n o), fun e z c dx F' H' g r => b e z c dx F' H' g (repErr_toCl n o r)⟩
theorem Own.toCl {H : Hp} {F : Hp} {a : Addr} {d : D} (n : cl'.nm = cl.nm) (o : cl'.so = cl.so) (m : cl'.me = cl.me) (h : Own K cl F H a d) : Own K cl' F H a d := by
  cases d with
  | lst ds => obtain ⟨vs, e, r⟩ := h; exact ⟨vs, e, r.toCl n o⟩
  | dk ds => obtain ⟨vs, e, r⟩ := h; exact ⟨vs, e, r.toCl n o⟩
  | dt ds => obtain ⟨vs, e, r⟩ := h; exact ⟨vs, e, r.toCl n o⟩
  | ins c ds => obtain ⟨vs, ⟨C, dx, n1, e, ow, m1⟩, r⟩ := h; exact ⟨vs, ⟨C, dx, by rw [n]; exact n1, e, ow, by rw [m]; exact m1⟩, r.toCl n o⟩
  | _ => exact h.elim
theorem fn_clN {k : Nat} {f : Addr} {fd : FuncData} {ps : List Str} {Wf : DF} (F : FnOk P w K mg base (L2.CX P w) k f fd ps (spN K cl Wf)) (n : cl'.nm = cl.nm) (o : cl'.so = cl.so) (m : cl'.me = cl.me) : FnOk P w K mg base (L2.CX P w) k f fd ps (spN K cl' Wf) :=
  F.imp fun vs H Q E ⟨F0, ds, Q', E', s, r, q, a, b⟩ => ⟨F0, ds, Q', E', s, r.toCl n.symm o.symm, q, fun d z p F' H' g x y w => a d z p F' H' g x y (w.toCl n o m), fun e z c dx F' H' g r => b e z c dx F' H' g (repErr_toCl n o r)⟩
theorem fn_clM {k : Nat} {f : Addr} {fd : FuncData} {ps : List Str} {Wf : DF} {c : String} (F : FnOk P w K mg base (L2.CX P w) k f fd ps (spM K cl c Wf)) (n : cl'.nm = cl.nm) (o : cl'.so = cl.so) : FnOk P w K mg base (L2.CX P w) k f fd ps (spM K cl' c Wf) :=
  F.imp fun vs H Q E ⟨x, dx, C, us, Hb, F0, ds, Q', E', e1, e2, e3, e4, e5, e6, e7, r, q, a, b⟩ => ⟨x, dx, C, us, Hb, F0, ds, Q', E', e1, by rw [← n]; exact e2, e3, e4, e5, e6, e7, r.toCl n.symm o.symm, q, fun d z F' H' g r => a d z F' H' g (r.toCl n o), b⟩
/-- THE RULE for an __init__ -/
theorem fn_okM {x qual : Str} {st : Stmt} {f : Addr} {fd : FuncData} {N ps : List Str} {k : Nat} {b : DS} {c : String} (F : Fun K x qual st f fd) (S : FnScope N ps (defScope st)) (hp : ps.length ≤ N.length)
    (hb : ∀ (me : Addr) (cdv : Value) (A : Around) (outer : List PySem.Env) (s : Shared) (H : Hp) (E : XK), Room k (A.deeper (envOfC qual (defScope st) s.heap.objs.size f cdv)) →
      ∃ t, VSs (cxOf (L2.CX P w) P w K mg base N qual (defScope st) f cdv A outer s H E) K { cl with me := some me } (fun c d _ H' => E c d H') (defBody st) t b) (hpn : cl.pin 0 = none := by rfl) (ht : cl.tabs = [] := by rfl) :
    FnOk P w K mg base (L2.CX P w) (k + 1) f fd ps (spM K cl c (mkT c ps.length N.length b)) := by
  refine F.okX S (fun vs H Q E h => ?_) (fun cdv A outer s H vs Q E hr h => ?_)
  · obtain ⟨x, dx, C, us, Hb, F0, ds, Q', E', rfl, _, _, _, _, _, _, r, ⟨hl, _⟩, _⟩ := h
    rw [List.length_cons, r.length]
    exact hl
  · obtain ⟨x, dx, C, us, Hb, F0, ds, Q', E', rfl, hC, rfl, hx, hdx, ne, s0, r, ⟨hl, q⟩, hQ, hE⟩ := h
    obtain ⟨t, h⟩ := hb x cdv A outer s _ E hr
    refine ⟨t, h.pe, ?_⟩
    have hn : (V.non :: us).length ≤ N.length := by rw [List.length_cons, r.length, hl]; exact hp
    have r1 : Reps K { cl with me := some x } F0 (V.non :: us) (D.non :: ds) := .cons .non (Reps.toCl (cl := cl) (cl' := { cl with me := some x }) rfl rfl r)
    have h0 := start_hold s0 (.nil (cl := { cl with me := some x }) ht) r1 hn
    have nx : x ≠ dx := fun z => ne z.symm
    have fdx : F0 dx = none := s0.free hdx
    have fx : F0 x = none := s0.free hx
    have g : Gr F0 Hb (upd F0 dx (.own x)) (upd (upd Hb dx (.own x)) x (.ins C dx [])) := by
      have a1 : (upd Hb dx (.own x)) x = none := by rw [upd_ne nx]; exact hx
      refine ⟨same_upd fdx, ((nx_upd hdx).trans (nx_upd a1)).kp, (same_upd2 s0).trans (same_upd a1), fun p a b => ?_, fun p ps e => ?_, fun p ps e => ?_⟩
      · by_cases hpd : p = dx
        · subst hpd; exact hdx
        · rw [upd_ne hpd] at a
          exact absurd b a
      · by_cases hpd : p = dx
        · subst hpd; exact .inl hdx
        · rw [upd_ne hpd] at e
          exact .inr (s0 _ _ e)
      · by_cases hpd : p = dx
        · rw [hpd, upd_same] at e; cases e
        · rwa [upd_ne hpd] at e
    have h1 := Hold.own (cl := { cl with me := some x }) (i := 0) (d := .ins c []) (a := x) hpn h0 g hx (by rw [upd_ne nx]; exact fx) ⟨[], ⟨C, dx, hC, upd_same, upd_same, rfl⟩, .nil⟩
    refine h.rf.ok F0 Hb _ _ _ _ (fun e _ => E' e) { nx := madeQ Q', rt := fun _ => False } { nx := fun _ H' => Q .non H', rt := Q } h1 (fun err ρ σ F' H' c dx h e re => (hE err e).elim)
      ⟨fun F' H' σ ρ h q => ?_, fun _ _ _ _ _ z => z.elim, fun _ _ _ _ _ z => z.elim, fun F' H' v d g r _ q => q.elim, fun _ _ _ _ _ _ _ _ z => z.elim⟩ q
    have q : madeQ Q' ρ := q
    unfold madeQ at q
    cases e : ρ[(0 : Nat)]? with
    | none => rw [e] at q; exact q.elim
    | some sl =>
      rw [e] at q
      cases sl with
      | no => exact q.elim
      | v d => exact q.elim
      | o d =>
        cases d with
        | ins c2 fs =>
          obtain ⟨a, ea, n0, nf, w⟩ := h.ownAt e
          obtain ⟨ws, ⟨C2, dx2, n2, z1, z2, z3⟩, z4⟩ := id w
          cases z3
          obtain ⟨F2, h2⟩ := h.frz 0
          have e2 : (DL.frz 0 ρ)[(0 : Nat)]? = some (.v (.ins c2 fs)) := by
            unfold DL.frz
            rw [e]
            exact List.getElem?_set_self (List.getElem?_eq_some_iff.mp e).1
          obtain ⟨v, ev, rv⟩ := h2.var e2
          rw [ea] at ev
          cases ev
          exact hQ _ q F2 H' h2.g (Rep.toCl (cl := { cl with me := some x }) (cl' := cl) rfl rfl rv)
        | _ => exact q.elim
end
section
variable {X : Cx} {K : Fg} {cl : Cl} {W : WX} {pos : Pos}
theorem pass_no : Passes (L2.CX X.prog X.w) X (fun _ _ _ => False) := fun _ _ _ _ _ _ _ h => by
  obtain ⟨_, _, _, _, _, _, _, _, _, _, _, _, z⟩ := h
  exact z.elim
theorem ve_fld {c : String} {f : Str} {e : Expr} {te : TE} {t : DT} (he : VE X K cl W e te t) (hC : ∀ C, cl.nm c = some C → L2.Cls K C ∧ NoAttr K C f) (hb : attributeBase e f X.env (eval e X.env) = eval e X.env := by rfl) : VE X K cl W (.Attribute e f pos) (tFld K te f) (dFld c f t) := by
  obtain rfl := he.hK
  exact ⟨pe_fld he.pe hb, rfe_fld hC he.rf, rfl⟩
theorem vs_fldO {i : Nat} {c : String} {f x : Str} {e : Expr} {te : TE} {t : DT} {p1 pos' : Pos} (he : VE X K cl W e te t) (hC : ∀ C, cl.nm c = some C → L2.Cls K C ∧ NoAttr K C f) (hN : X.N[i]? = some x := by rfl) (hv : Vis X.env.scope x := by first | exact Or.inl rfl | exact Or.inr (Or.inl rfl) | exact Or.inr (Or.inr rfl)) (hd : (x == ("__debug__" : Str)) = false := by decide)
    (hcd : (x == ("__classdict__" : Str)) = false := by decide) (hs : swapsWith e (some (.Attribute (.Name x p1) f pos')) pos.line X.env = pure false := by rfl) : VS X K cl W (.Assign [.Attribute (.Name x p1) f pos'] e pos) (sFld K (tVar i) te f) (sFldO c i f t) := by
  obtain rfl := he.hK
  exact ⟨ps_fld (pe_var hN hv hd hcd) he.pe hs, rfs_fldO hC he.rf, rfl⟩
theorem ve_meth {c : String} {C : Addr} {m : Str} {Wf : DF} {k : Nat} {f : Addr} {fd : FuncData} {ps : List Str} {o e : Expr} {es : List Expr} {to : TE} {t : TA} {d : DT} {q : DA} {apos : Pos} {pl : Sem Bool} (F : FnOk X.prog X.w X.K X.mg X.base (L2.CX X.prog X.w) k f fd ps (spD X.K cl Wf)) (hr : Room k X.A) (c1 : L2.Cls X.K C) (hm : Meth X.K C m f) (hb : Binds X.K fd ps []) (hC : cl.nm c = some C)
    (ho : VE X K cl W o to d) (ha : VA X K cl W (e :: es) t q) (hst : starEach (e :: es) X.env = (false, eval e X.env) :: starEach es X.env := by rfl) (hpl : (backTo pos (starEach es X.env)).any (·.1) = false := by rfl)
    (ht : eval (.Call (.Attribute o m apos) (e :: es) [] pos) X.env = (do
      let ov ← eval o X.env
      standAt apos.atName
      let (f, first) ← holding [ov] (getMethod ov m pl)
      callWith pos f first (backTo pos (starEach (e :: es) X.env)) (backToKw pos (keywordEach [] X.env))) := by rfl) :
    VE X K cl W (.Call (.Attribute o m apos) (e :: es) [] pos) (tMeth C m (spD K cl Wf) [] (fun _ _ _ => False) to t) (dMeth c m Wf d q) := by
  obtain rfl := ho.hK
  exact ⟨pe_meth ho.pe c1 hm F hr hb .nil pass_no ha.pe hst hpl ht, rfe_meth hC ho.rf ha.rf, rfl⟩
theorem ve_meth0 {c : String} {C : Addr} {m : Str} {Wf : DF} {k : Nat} {f : Addr} {fd : FuncData} {ps : List Str} {o : Expr} {to : TE} {d : DT} {apos : Pos} {pl : Sem Bool} (F : FnOk X.prog X.w X.K X.mg X.base (L2.CX X.prog X.w) k f fd ps (spD X.K cl Wf)) (hr : Room k X.A) (c1 : L2.Cls X.K C) (hm : Meth X.K C m f) (hb : Binds X.K fd ps []) (hC : cl.nm c = some C)
    (ho : VE X K cl W o to d)
    (ht : eval (.Call (.Attribute o m apos) [] [] pos) X.env = (do
      let ov ← eval o X.env
      standAt apos.atName
      let (f, first) ← holding [ov] (getMethod ov m pl)
      callWith pos f first (backTo pos (starEach [] X.env)) (backToKw pos (keywordEach [] X.env))) := by rfl) :
    VE X K cl W (.Call (.Attribute o m apos) [] [] pos) (tMeth C m (spD K cl Wf) [] (fun _ _ _ => False) to tNil) (dMeth c m Wf d aNil) := by
  obtain rfl := ho.hK
  exact ⟨pe_meth0 ho.pe c1 hm F hr hb .nil pass_no ht, rfe_meth hC ho.rf rfa_nil, rfl⟩
theorem ve_make {c : String} {C : Addr} {Wf : DF} {k : Nat} {f : Addr} {fd : FuncData} {ps : List Str} {x : Str} {p : Pos} {e : Expr} {es : List Expr} {t : TA} {q : DA} (F : FnOk X.prog X.w X.K X.mg X.base (L2.CX X.prog X.w) k f fd ps (spM X.K cl c Wf)) (hr : Room (k + 1) X.A) (M : Mk X.K C f) (hg : Gl X x) (hm : X.mg x = some (.ref C)) (hb : Binds X.K fd ps []) (hC : cl.nm c = some C)
    (ha : VA X K cl W (e :: es) t q) (hdb : (x == ("__debug__" : Str)) = false := by decide) (he : starEach (e :: es) X.env = (false, eval e X.env) :: starEach es X.env := by rfl) (hpl : (backTo pos (starEach es X.env)).any (·.1) = false := by rfl) :
    VE X K cl W (.Call (.Name x p) (e :: es) [] pos) (tMake C (spM K cl c Wf) [] (fun _ _ _ => False) t) (dMake Wf q) := by
  obtain rfl := ha.hK
  exact ⟨pe_make M F hr hg hm hb .nil pass_no ha.pe hdb he hpl, rfe_make hC ha.rf, rfl⟩
end
section
variable {P : Program} {w : World} {K : Fg} {cl : Cl} {mg : Str → Option Value} {base : Heap} {f : Addr} {fd : FuncData} {ps : List Str}
theorem fn_noneM {k : Nat} {c : String} : FnOk P w K mg base (L2.CX P w) k f fd ps (spM K cl c fun _ _ _ => False) := by
  have no : ∀ vs H Q E, ¬ spM K cl c (fun _ _ _ => False) vs H Q E := fun vs H Q E h => by
    obtain ⟨_, _, _, _, _, _, _, _, _, _, _, _, _, _, _, _, _, z, _⟩ := h
    exact z
  exact ⟨fun vs H Q E h => absurd h (no vs H Q E), fun A outer s H args us vs Q E _ _ _ _ h => absurd h (no vs H Q E)⟩
theorem fn_upN2 {G : Nat → DF} {N L : Nat} (h : ∀ n, FnOk P w K mg base (L2.CX P w) (L + 2 * n) f fd ps (spD K cl (G n))) : FnOk P w K mg base (L2.CX P w) (L + 2 * N) f fd ps (spD K cl (upN G N)) := by
  have go : ∀ vs H Q E, spD K cl (upN G N) vs H Q E → ∃ n, n ≤ N ∧ spD K cl (G n) vs H Q E := fun vs H Q E ⟨F, ds, Q', E', s, r, ⟨n, hn, q⟩, a, b⟩ => ⟨n, hn, F, ds, Q', E', s, r, q, a, b⟩
  refine ⟨fun vs H Q E hs => ?_, fun A outer s H args us vs Q E hr a b c hs => ?_⟩
  · obtain ⟨n, _, q⟩ := go _ _ _ _ hs
    exact (h n).len _ _ _ _ q
  · obtain ⟨n, hn, q⟩ := go _ _ _ _ hs
    exact (h n).run A outer s H args us vs Q E (hr.mono (by omega)) a b c q
theorem fn_upNM2 {c : String} {G : Nat → DF} {N L : Nat} (h : ∀ n, FnOk P w K mg base (L2.CX P w) (L + 2 * n) f fd ps (spM K cl c (G n))) : FnOk P w K mg base (L2.CX P w) (L + 2 * N) f fd ps (spM K cl c (upN G N)) := by
  have go : ∀ vs H Q E, spM K cl c (upN G N) vs H Q E → ∃ n, n ≤ N ∧ spM K cl c (G n) vs H Q E := fun vs H Q E ⟨x, dx, C, us, Hb, F, ds, Q', E', e1, e2, e3, e4, e5, e6, e7, r, ⟨n, hn, q⟩, a, b⟩ => ⟨n, hn, x, dx, C, us, Hb, F, ds, Q', E', e1, e2, e3, e4, e5, e6, e7, r, q, a, b⟩
  refine ⟨fun vs H Q E hs => ?_, fun A outer s H args us vs Q E hr a b c hs => ?_⟩
  · obtain ⟨n, _, q⟩ := go _ _ _ _ hs
    exact (h n).len _ _ _ _ q
  · obtain ⟨n, hn, q⟩ := go _ _ _ _ hs
    exact (h n).run A outer s H args us vs Q E (hr.mono (by omega)) a b c q
theorem le_add2 {j L n : Nat} (h : j ≤ L) : j ≤ L + n + 1 := Nat.le_trans h (Nat.le_trans (Nat.le_add_right L n) (Nat.le_succ _))
end
end DL

/-! DDraw: the drawing state of the laws as one steady object. -/
namespace DL
open PySem L2 PyProof.Rows
variable [TN]
/-- the same things are tracked, some told otherwise -/
structure Sm (H H1 : Hp) : Prop where
  dom : ∀ b, H b = none ↔ H1 b = none
  tups : ∀ b xs, H b = some (.tup xs) → H1 b = some (.tup xs)
  frzs : ∀ b o u, H b = some (.frz o u) → H1 b = some (.frz o u)
  tbls : ∀ b ps, H b = some (.tbl ps) → H1 b = some (.tbl ps)
theorem Sm.refl (H : Hp) : Sm H H := ⟨fun _ => Iff.rfl, fun _ _ h => h, fun _ _ _ h => h, fun _ _ h => h⟩
theorem Sm.upd {H : Hp} {a : Addr} {o u : HO} (h : H a = some o) (n1 : ∀ xs, o ≠ .tup xs) (n2 : ∀ x y, o ≠ .frz x y) (n3 : ∀ ps, o ≠ .tbl ps) : Sm H (L2.upd H a u) := by
  have go : ∀ b v, H b = some v → o ≠ v → L2.upd H a u b = some v := fun b v e ne => by
    have hb : b ≠ a := fun z => by
      subst z
      rw [h] at e
      exact ne (Option.some.inj e)
    rw [upd_ne hb]
    exact e
  refine ⟨fun b => ?_, fun b xs e => go b _ e (n1 xs), fun b x y e => go b _ e (n2 x y), fun b ps e => go b _ e (n3 ps)⟩
  by_cases hb : b = a
  · subst hb
    rw [upd_same, h]
    simp
  · rw [upd_ne hb]
section
variable {P : Program} {w : World} {K : PySem.W.Frag} {mg : Str → Option Value} {base : Heap}
theorem fn_view {k : Nat} {f : Addr} {fd : FuncData} {ps : List Str} {sp sp' : Sp} (F : FnOk P w K mg base (L2.CX P w) k f fd ps sp')
    (hl : ∀ vs H Q E, sp vs H Q E → vs.length = ps.length)
    (hsp : ∀ vs H Q E, sp vs H Q E → ∀ h, HOk P w H h → ∃ H1, Sm H H1 ∧ HOk P w H1 h ∧ sp' vs H1 (fun v H2 => ∃ H3, Sm H2 H3 ∧ (∀ h, HOk P w H2 h → HOk P w H3 h) ∧ Q v H3) (fun _ _ _ => False)) :
    FnOk P w K mg base (L2.CX P w) k f fd ps sp := by
  refine ⟨hl, fun A outer s H args us vs Q E hr he hb hv h => ?_⟩
  obtain ⟨H1, sm, hok, q⟩ := hsp vs H Q E h s.heap he.hok
  have he1 : Env0 P w K mg base A outer s H1 := ⟨he.frames, he.mod, fun b o e => ⟨(he.bs b o e).1, (sm.dom b).mp (he.bs b o e).2⟩, he.bsz, he.funs, fun b hb => (sm.dom b).mp (he.frf b hb), hok, he.bare⟩
  refine codeAny_mono (F.run A outer s H1 args us vs _ _ hr he1 hb hv q) fun r s' hq => ?_
  cases r with
  | error e =>
    obtain ⟨_, _, _, _, _, _, _, _, _, _, _, _, z⟩ := hq
    exact z.elim
  | ok fl =>
    cases fl with
    | ret u =>
      obtain ⟨v, H2, os, bare, un, hok2, rv, H3, sm3, ok3, qq⟩ := hq
      refine ⟨v, H3, os, bare, ⟨fun b o e n hb hx => un.keep b o e ((sm.dom b).mp n) hb hx, fun b o e n hb hx => un.slot b o e ((sm.dom b).mp n) hb hx, fun b o e n hx => (sm3.dom b).mp (un.free b o e ((sm.dom b).mp n) hx), un.there, fun b xs e => sm3.tups _ _ (un.tups b xs (sm.tups _ _ e)), fun b o u e => sm3.frzs _ _ _ (un.frzs b o u (sm.frzs _ _ _ e)), fun b ps e => ?_⟩, ok3 _ hok2, rv, qq⟩
      obtain ⟨more, z⟩ := un.tbls b ps (sm.tbls _ _ e)
      exact ⟨more, sm3.tbls _ _ z⟩
    | next => exact False.elim hq
    | brk => exact False.elim hq
    | cont => exact False.elim hq
end
/-! ### the state's dict -/
def kCells : L2.Key := Sum.inr ("cells" : Str)
def kAt : L2.Key := Sum.inr ("at" : Str)
def kLeft : L2.Key := Sum.inr ("left" : Str)
def kMix : L2.Key := Sum.inr ("mix" : Str)
def stKV (c : Addr) (i l m : Int) : List (L2.Key × V) := [(kCells, .ref c), (kAt, .int i), (kLeft, .int l), (kMix, .int m)]
theorem st_ne : ((("cells" : Str) ≠ "at" ∧ ("cells" : Str) ≠ "left" ∧ ("cells" : Str) ≠ "mix") ∧ (("at" : Str) ≠ "cells" ∧ ("at" : Str) ≠ "left" ∧ ("at" : Str) ≠ "mix")) ∧
    ((("left" : Str) ≠ "cells" ∧ ("left" : Str) ≠ "at" ∧ ("left" : Str) ≠ "mix") ∧ (("mix" : Str) ≠ "cells" ∧ ("mix" : Str) ≠ "at" ∧ ("mix" : Str) ≠ "left")) := by decide +kernel
theorem key_ne {a b : Str} (h : a ≠ b) : (Sum.inr a : L2.Key) ≠ Sum.inr b := fun z => h (Sum.inr.inj z)
theorem st_cells (c : Addr) (i l m : Int) : valV (stKV c i l m) (Sum.inr ("cells" : Str)) = some (.ref c) := by
  simp [valV, stKV, kCells]
theorem st_at (c : Addr) (i l m : Int) : valV (stKV c i l m) (Sum.inr ("at" : Str)) = some (.int i) := by
  obtain ⟨⟨⟨a1, a2, a3⟩, ⟨b1, b2, b3⟩⟩, ⟨⟨c1, c2, c3⟩, ⟨d1, d2, d3⟩⟩⟩ := st_ne
  simp [valV, stKV, kCells, kAt, key_ne a1]
theorem st_left (c : Addr) (i l m : Int) : valV (stKV c i l m) (Sum.inr ("left" : Str)) = some (.int l) := by
  obtain ⟨⟨⟨a1, a2, a3⟩, ⟨b1, b2, b3⟩⟩, ⟨⟨c1, c2, c3⟩, ⟨d1, d2, d3⟩⟩⟩ := st_ne
  simp [valV, stKV, kCells, kAt, kLeft, key_ne a2, key_ne b2]
theorem st_mix (c : Addr) (i l m : Int) : valV (stKV c i l m) (Sum.inr ("mix" : Str)) = some (.int m) := by
  obtain ⟨⟨⟨a1, a2, a3⟩, ⟨b1, b2, b3⟩⟩, ⟨⟨c1, c2, c3⟩, ⟨d1, d2, d3⟩⟩⟩ := st_ne
  simp [valV, stKV, kCells, kAt, kLeft, kMix, key_ne a3, key_ne b3, key_ne c3]
theorem st_put_at (c : Addr) (i l m j : Int) : putK (stKV c i l m) (Sum.inr ("at" : Str)) (.int j) = stKV c j l m := by
  obtain ⟨⟨⟨a1, a2, a3⟩, ⟨b1, b2, b3⟩⟩, ⟨⟨c1, c2, c3⟩, ⟨d1, d2, d3⟩⟩⟩ := st_ne
  simp [putK, stKV, kCells, kAt, kLeft, kMix, a1, c2, d2]
theorem st_put_left (c : Addr) (i l m j : Int) : putK (stKV c i l m) (Sum.inr ("left" : Str)) (.int j) = stKV c i j m := by
  obtain ⟨⟨⟨a1, a2, a3⟩, ⟨b1, b2, b3⟩⟩, ⟨⟨c1, c2, c3⟩, ⟨d1, d2, d3⟩⟩⟩ := st_ne
  simp [putK, stKV, kCells, kAt, kLeft, kMix, a2, b2, d3]
theorem st_put_mix (c : Addr) (i l m j : Int) : putK (stKV c i l m) (Sum.inr ("mix" : Str)) (.int j) = stKV c i l j := by
  obtain ⟨⟨⟨a1, a2, a3⟩, ⟨b1, b2, b3⟩⟩, ⟨⟨c1, c2, c3⟩, ⟨d1, d2, d3⟩⟩⟩ := st_ne
  simp [putK, stKV, kCells, kAt, kLeft, kMix, a3, b3, c3]
/-- what holds of the numbers -/
def StOk (n : Nat) (i l m : Int) : Prop := 0 ≤ i ∧ i ≤ n ∧ 0 ≤ l ∧ 0 ≤ m ∧ m < 2147483647
def stPhi (P : Program) (w : World) (a c : Addr) (n : Nat) : Heap → Prop := fun h => ∃ i l m, StOk n i l m ∧ ObjOk P w (fun _ => none) h a (.dK (stKV c i l m))
def stO0 (P : Program) (w : World) (a c : Addr) (n : Nat) : HO := .ext (stPhi P w a c n)
def stO (P : Program) (w : World) : Bool × (Addr → Addr → Nat → HO) := (true, stO0 P w)
theorem dk_any {P : Program} {w : World} {H H' : Hp} {h : Heap} {a : Addr} {kvs : List (L2.Key × V)} (x : ObjOk P w H h a (.dK kvs)) : ObjOk P w H' h a (.dK kvs) := x
theorem hok_upd {P : Program} {w : World} {H : Hp} {h : Heap} {a : Addr} {o u : HO} (ok : HOk P w H h) (e : H a = some o) (n1 : ∀ x, o ≠ .own x) (n2 : ∀ xs, o ≠ .tup xs) (new : ObjOk P w (upd H a u) h a u) : HOk P w (upd H a u) h := fun b v q => by
  by_cases hb : b = a
  · subst hb
    rw [upd_same] at q
    cases q
    exact new
  · rw [upd_ne hb] at q
    have ne : ∀ c y, H c = some y → o ≠ y → upd H a u c = some y := fun c y z k => by
      have hc : c ≠ a := fun z' => by
        subst z'
        rw [e] at z
        exact k (Option.some.inj z)
      rw [upd_ne hc]
      exact z
    exact (ok b v q).stay (fun _ _ _ x => x) (fun c z => ne c _ z (n1 b)) fun c xs z => ne c _ z (n2 xs)
theorem st_open {P : Program} {w : World} {H : Hp} {h : Heap} {a c : Addr} {n : Nat} (ok : HOk P w H h) (e : H a = some (stO0 P w a c n)) : ∃ i l m, StOk n i l m ∧ HOk P w (upd H a (.dK (stKV c i l m))) h := by
  obtain ⟨⟨i, l, m, hs, d⟩, _, _⟩ := ok a _ e
  exact ⟨i, l, m, hs, hok_upd ok e (fun _ z => by cases z) (fun _ z => by cases z) d⟩
theorem st_close {P : Program} {w : World} {H : Hp} {h : Heap} {a c : Addr} {n : Nat} {i l m : Int} (hs : StOk n i l m) (ok : HOk P w H h) (e : H a = some (.dK (stKV c i l m))) : HOk P w (upd H a (stO0 P w a c n)) h := by
  have d := ok a _ e
  refine hok_upd ok e (fun _ z => by cases z) (fun _ z => by cases z) ⟨⟨i, l, m, hs, d⟩, ?_, fun h1 h2 ⟨i, l, m, hs, d⟩ k => ⟨i, l, m, hs, ?_⟩⟩
  · obtain ⟨_, _, vs, _, ob, es, ep, e2, _⟩ := d
    exact ⟨ob, e2⟩
  · exact d.stay (fun b u hb q => by
      rcases hb with rfl | z
      · exact k _ q
      · cases z) (fun _ z => by cases z) (fun _ _ z => by cases z)
end DL
namespace DL
open PySem L2 PyProof.Rows
variable [TN]
section
variable {H : Hp} {a c : Addr} {i l m : Int}
theorem sg_cells (e : H a = some (.dK (stKV c i l m))) : DGet H a (.str ("cells" : Str)) (some (.ref c)) := by
  have := DGet.k (k := (Sum.inr ("cells" : Str) : L2.Key)) e
  rwa [st_cells] at this
theorem sg_at (e : H a = some (.dK (stKV c i l m))) : DGet H a (.str ("at" : Str)) (some (.int i)) := by
  have := DGet.k (k := (Sum.inr ("at" : Str) : L2.Key)) e
  rwa [st_at] at this
theorem sg_left (e : H a = some (.dK (stKV c i l m))) : DGet H a (.str ("left" : Str)) (some (.int l)) := by
  have := DGet.k (k := (Sum.inr ("left" : Str) : L2.Key)) e
  rwa [st_left] at this
theorem sg_mix (e : H a = some (.dK (stKV c i l m))) : DGet H a (.str ("mix" : Str)) (some (.int m)) := by
  have := DGet.k (k := (Sum.inr ("mix" : Str) : L2.Key)) e
  rwa [st_mix] at this
theorem st_small : (stKV c i l m).length < sizeLine := small1000 (show 4 ≤ 1000 by decide)
theorem sp_at (j : Int) (e : H a = some (.dK (stKV c i l m))) : DPut H a (.str ("at" : Str)) (.int j) (upd H a (.dK (stKV c j l m))) := by
  have := DPut.k (k := (Sum.inr ("at" : Str) : L2.Key)) (v := .int j) e st_small
  rwa [st_put_at] at this
theorem sp_left (j : Int) (e : H a = some (.dK (stKV c i l m))) : DPut H a (.str ("left" : Str)) (.int j) (upd H a (.dK (stKV c i j m))) := by
  have := DPut.k (k := (Sum.inr ("left" : Str) : L2.Key)) (v := .int j) e st_small
  rwa [st_put_left] at this
theorem sp_mix (j : Int) (e : H a = some (.dK (stKV c i l m))) : DPut H a (.str ("mix" : Str)) (.int j) (upd H a (.dK (stKV c i l j))) := by
  have := DPut.k (k := (Sum.inr ("mix" : Str) : L2.Key)) (v := .int j) e st_small
  rwa [st_put_mix] at this
end
/-- the draw's promise over the dict -/
def spDraw : Sp := fun vs H Q _ => ∃ (a c : Addr) (ns : List Int) (i l m b : Int), vs = [.ref a, .int b] ∧ H a = some (.dK (stKV c i l m)) ∧ H c = some (.lst (ns.map V.int)) ∧ (∀ x ∈ ns, 0 ≤ x) ∧ StOk ns.length i l m ∧ 0 < b ∧ b.natAbs.log2 < 9000 ∧
  ∀ r i' l' m', 0 ≤ r → r < b → StOk ns.length i' l' m' → Q (.int r) (upd H a (.dK (stKV c i' l' m')))
theorem mod_mix (z : Int) : 0 ≤ z % 2147483647 ∧ z % 2147483647 < 2147483647 := ⟨Int.emod_nonneg _ (by decide), Int.emod_lt_of_pos _ (by decide)⟩
theorem small_mix {m : Int} (h0 : 0 ≤ m) (h : m < 2147483647) : -(2 ^ 64) < m ∧ m < 2 ^ 64 := ⟨by omega, by omega⟩
theorem emod_in {z b : Int} (h : 0 < b) : 0 ≤ z % b ∧ z % b < b := ⟨Int.emod_nonneg _ (by omega), Int.emod_lt_of_pos _ h⟩
/-- over the steady object -/
theorem draw_view {P : Program} {w : World} {K : Fg} {cl : Cl} {mg : Str → Option Value} {base : Heap} {k : Nat} {f : Addr} {fd : FuncData} (hso : cl.so = stO P w) (F : FnOk P w K mg base (L2.CX P w) k f fd ["state", "bound"] spDraw) :
    FnOk P w K mg base (L2.CX P w) k f fd ["state", "bound"] (spD K cl wDraw) := by
  refine fn_view F (fun vs H Q E h => ?_) (fun vs H Q E h hp ok => ?_)
  · obtain ⟨F0, ds, Q', E', _, r, q, _⟩ := h
    match ds, q with
    | [.st, .int b], q => rw [r.length]; rfl
  · obtain ⟨F0, ds, Q', E', s0, r, q, hQ, hE⟩ := h
    match ds, q, r with
    | [.st, .int b], ⟨hb, hb2, q⟩, .cons (.st (a := a) (c := c) (ns := ns) e1 e2 e3) (.cons (.int _) .nil) =>
      rw [hso] at e1 e2
      have e1 : F0 a = some (stO0 P w a c ns.length) := e1
      have e2 : F0 c = some (.lst (ns.map V.int)) := e2 rfl
      have e1' := s0 _ _ e1
      have e2' := s0 _ _ e2
      have nac : c ≠ a := fun z => by
        subst z
        rw [e1'] at e2'
        cases e2'
      obtain ⟨i, l, m, hs, ok1⟩ := st_open ok e1'
      have sm : Sm H (upd H a (.dK (stKV c i l m))) := Sm.upd e1' (fun _ z => by cases z) (fun _ _ z => by cases z) (fun _ z => by cases z)
      refine ⟨_, sm, ok1, a, c, ns, i, l, m, b, rfl, upd_same, by rw [upd_ne nac]; exact e2', e3, hs, hb, hb2, fun r i' l' m' h0 h1 hs' => ?_⟩
      refine ⟨H, ?_, fun h ok2 => ?_, hQ _ (q r h0 h1) _ F0 H (Gr.refl s0) (.int _)⟩
      · rw [upd_upd]
        have z := Sm.upd (H := upd H a (.dK (stKV c i' l' m'))) (a := a) (u := stO0 P w a c ns.length) upd_same (fun _ z => by cases z) (fun _ _ z => by cases z) (fun _ z => by cases z)
        rw [upd_upd] at z
        have e : upd H a (stO0 P w a c ns.length) = H := by
          funext p
          by_cases hp : p = a
          · subst hp
            rw [upd_same, e1']
          · rw [upd_ne hp]
        rwa [e] at z
      · rw [upd_upd] at ok2
        have z := st_close hs' ok2 upd_same
        rw [upd_upd] at z
        have e : upd H a (stO0 P w a c ns.length) = H := by
          funext p
          by_cases hp : p = a
          · subst hp
            rw [upd_same, e1']
          · rw [upd_ne hp]
        rwa [e] at z
/-- the start's promise over the dict -/
def spStart (K : Fg) : Sp := fun vs H Q _ => ∃ (a : Addr) (ns : List Int), vs = [.ref a] ∧ SqL K H a (ns.map V.int) ∧ ns.length ≤ 63 ∧
  ∀ (p c : Addr) (ns' : List Int) (m : Int) (H' : Hp), Nx H H' → H p = none → H c = none → ns'.length = ns.length → (∀ x ∈ ns', 0 ≤ x) → 0 ≤ m → m < 2147483647 → H' c = some (.lst (ns'.map V.int)) → H' p = some (.dK (stKV c 0 0 m)) → Q (.ref p) H'
theorem start_view {P : Program} {w : World} {K : Fg} {cl : Cl} {mg : Str → Option Value} {base : Heap} {k : Nat} {f : Addr} {fd : FuncData} (hso : cl.so = stO P w) (F : FnOk P w K mg base (L2.CX P w) k f fd ["script"] (spStart K)) :
    FnOk P w K mg base (L2.CX P w) k f fd ["script"] (spD K cl wStart) := by
  refine fn_view F (fun vs H Q E h => ?_) (fun vs H Q E h hp ok => ?_)
  · obtain ⟨F0, ds, Q', E', _, r, q, _⟩ := h
    match ds, q with
    | [.scr ns], q => rw [r.length]; rfl
  · obtain ⟨F0, ds, Q', E', s0, r, q, hQ, hE⟩ := h
    match ds, q, r with
    | [.scr ns], ⟨hn, q⟩, .cons (.scr (a := a) e) .nil =>
      refine ⟨H, Sm.refl H, ok, a, ns, rfl, s0.seq e, hn, fun p c ns' m H' sm np nc hl hx h0 h1 ec ep => ?_⟩
      have ncp : c ≠ p := fun z => by
        subst z
        rw [ec] at ep
        cases ep
      refine ⟨upd H' p (stO0 P w p c ns'.length), Sm.upd ep (fun _ z => by cases z) (fun _ _ z => by cases z) (fun _ z => by cases z), fun h ok2 => st_close ⟨by omega, by omega, by omega, h0, h1⟩ ok2 ep, ?_⟩
      have s1 : Same F0 H' := s0.trans sm.s
      have e1 : (upd H' p (stO0 P w p c ns'.length)) p = some (stO0 P w p c ns'.length) := upd_same
      have fp : F0 p = none := s0.free np
      have fc : F0 c = none := s0.free nc
      refine hQ _ q _ (upd (upd F0 c (.lst (ns'.map V.int))) p (stO0 P w p c ns'.length)) _ ⟨fun b u z => ?_, sm.kp.put np (.at ep), fun b u z => ?_, fun b z1 z2 => ?_, fun b ps z => ?_, fun b ps z => ?_⟩ (.st (c := c) (ns := ns') (by rw [hso]; exact upd_same) (fun _ => by rw [upd_ne ncp, upd_same]) hx)
      · rw [upd_ne (ne_of_none z fp), upd_ne (ne_of_none z fc)]
        exact z
      · by_cases hb : b = p
        · subst hb
          rw [upd_same] at z ⊢
          exact z
        · rw [upd_ne hb] at z ⊢
          by_cases hb2 : b = c
          · subst hb2
            rw [upd_same] at z
            rw [ec]
            exact z
          · rw [upd_ne hb2] at z
            exact s1 b u z
      · by_cases hb : b = p
        · subst hb; exact np
        · rw [upd_ne hb] at z1
          by_cases hb2 : b = c
          · subst hb2; exact nc
          · rw [upd_ne hb2] at z1
            exact absurd z2 z1
      · by_cases hb : b = p
        · subst hb; exact .inl np
        · rw [upd_ne hb] at z
          by_cases hb2 : b = c
          · subst hb2; exact .inl nc
          · rw [upd_ne hb2] at z
            exact .inr (s0 _ _ z)
      · by_cases hb : b = p
        · rw [hb, upd_same] at z; cases z
        · rw [upd_ne hb] at z
          by_cases hb2 : b = c
          · rw [hb2, upd_same] at z; cases z
          · rwa [upd_ne hb2] at z

/-- the second part of a block once, for all ways that come to it -/
theorem seq_elim {t u : TS} {D : Ends} {σ : L2.St} {H : Hp} (C : L2.St → Hp → Prop) (h2 : ∀ σ2 H2, C σ2 H2 → u D σ2 H2) (h1 : (∀ σ2 H2, C σ2 H2 → u D σ2 H2) → t { D with nx := u D } σ H) : tSeq t u D σ H := h1 h2
theorem up_self {H : Hp} {a : Addr} {o : HO} (h : H a = some o) : upd H a o = H := by
  funext p
  by_cases hp : p = a
  · subst hp
    rw [upd_same, h]
  · rw [upd_ne hp]
theorem at_ns {ns : List Int} {i : Int} (h0 : 0 ≤ i) (h1 : i < ns.length) : ∃ x, x ∈ ns ∧ atI (ns.map V.int) i = some (.int x) := by
  have hl : i.toNat < ns.length := by omega
  refine ⟨ns[i.toNat], List.getElem_mem _, ?_⟩
  have := atI_nat (xs := ns.map V.int) (j := i.toNat) (v := .int ns[i.toNat]) (by rw [List.getElem?_map, List.getElem?_eq_getElem hl]; rfl)
  rwa [Int.toNat_of_nonneg h0] at this

theorem sqT_frag {K : Fg} {a : Addr} {xs : List V} {dd : Option Addr} {sl : Array (Option Value)} {its : Array Value} {n : Nat} (h : K.lookup a = some ⟨.type "tuple", dd, .seq its n, sl⟩) (hs : its.size ≤ sizeLine) (hv : Vals xs its.toList) (H : Hp) : SqT K H a xs := .inr ⟨_, its, n, h, rfl, rfl, hs, hv⟩
theorem fn_none {P : Program} {w : World} {K : Fg} {cl : Cl} {mg : Str → Option Value} {base : Heap} {k : Nat} {f : Addr} {fd : FuncData} {ps : List Str} : FnOk P w K mg base (L2.CX P w) k f fd ps (spD K cl fun _ _ _ => False) := by
  have no : ∀ vs H Q E, ¬ spD K cl (fun _ _ _ => False) vs H Q E := fun vs H Q E h => by
    obtain ⟨_, _, _, _, _, _, z, _⟩ := h
    exact z
  exact ⟨fun vs H Q E h => absurd h (no vs H Q E), fun A outer s H args us vs Q E _ _ _ _ h => absurd h (no vs H Q E)⟩
theorem fn_upN {P : Program} {w : World} {K : Fg} {cl : Cl} {mg : Str → Option Value} {base : Heap} {f : Addr} {fd : FuncData} {ps : List Str} {G : Nat → DF} {N L : Nat} (h : ∀ n, FnOk P w K mg base (L2.CX P w) (L + n) f fd ps (spD K cl (G n))) :
    FnOk P w K mg base (L2.CX P w) (L + N) f fd ps (spD K cl (upN G N)) := by
  have go : ∀ vs H Q E, spD K cl (upN G N) vs H Q E → ∃ n, n ≤ N ∧ spD K cl (G n) vs H Q E := fun vs H Q E ⟨F, ds, Q', E', s, r, ⟨n, hn, q⟩, a, b⟩ => ⟨n, hn, F, ds, Q', E', s, r, q, a, b⟩
  refine ⟨fun vs H Q E hs => ?_, fun A outer s H args us vs Q E hr a b c hs => ?_⟩
  · obtain ⟨n, _, q⟩ := go _ _ _ _ hs
    exact (h n).len _ _ _ _ q
  · obtain ⟨n, hn, q⟩ := go _ _ _ _ hs
    exact (h n).run A outer s H args us vs Q E (hr.mono (Nat.add_le_add_left hn L)) a b c q
theorem le_add {j L n : Nat} (h : j ≤ L) : j ≤ L + n := Nat.le_trans h (Nat.le_add_right L n)
theorem hu65 {A : Around} {k : Nat} (hr : Room k A) : A.units + 65 < cLine := by
  have := hr.un
  omega
/-- what a law promises -/
def spLaw (K : Fg) : Sp := fun vs H Q _ => ∃ (a : Addr) (ns : List Int), vs = [.ref a] ∧ SqL K H a (ns.map V.int) ∧ ns.length ≤ 63 ∧ ∀ H', Q (.bl true) H'
theorem law_ok {P : Program} {w : World} {K : Fg} {cl : Cl} {mg : Str → Option Value} {base : Heap} {k : Nat} {f : Addr} {fd : FuncData} {W : DF} (F : FnOk P w K mg base (L2.CX P w) k f fd ["script"] (spD K cl W)) (h : ∀ ns : List Int, ns.length ≤ 63 → W [.scr ns] (fun d => d = .bl true) fun _ => False) :
    FnOk P w K mg base (L2.CX P w) k f fd ["script"] (spLaw K) :=
  F.imp fun vs H Q E ⟨a, ns, e, hS, hl, q⟩ => ⟨H, [.scr ns], _, _, Same.refl H, by rw [e]; exact .cons (.scr hS) .nil, h ns hl, fun d z v F' H' g r => by
    subst z
    cases r
    exact q H', fun _ z => z.elim⟩
omit [TN] in
theorem walkD {l : PySem.W.OpenLaw} {k : Nat} {q : Program} {loose : List Str} {XP : (Str → Option Value) → Heap → Prop} {YP : World → Heap → Prop} {d : DefRec} {K : Params → PySem.W.Frag}
    (hn : l.most = some 63) (hdf : d.params.defaults = []) (hr : Room k callerA) (hY : ∀ (w : World) (h : Heap), YP w h → (K w.params).In h)
    (F : ∀ (w : World) (mg : Str → Option Value) (fa : Addr) (h : Heap), (K w.params).In h → h.Ns mainGlobals mg → mg d.name = some (.ref fa) →
      ∃ fd : FuncData, (∀ (s : Shared) (u : Value), BindsTo s fd ⟨[u], []⟩ [("script", u)]) ∧
        ∀ base : Heap, (K w.params).In base → base.Ns mainGlobals mg → FnOk l.prog w (K w.params) mg base (L2.CX l.prog w) k fa fd ["script"] (spLaw (K w.params))) :
    PySem.W.WalkO q loose XP YP l.row.toRowW d [] (fun f vs => PySem.call f vs) :=
  L2.walk_of (n := 63) (k := k) (x := "script") (CX := fun w => L2.CX l.prog w) (sp := fun w => spLaw (K w.params)) hn (by decide) hdf hr hY F (fun _ _ a ns hl _ hS => ⟨a, ns, rfl, hS, hl, fun _ => rfl⟩) fun _ _ _ _ _ z => by
    obtain ⟨_, _, _, _, _, _, _, _, _, _, _, _, z⟩ := z
    exact z
end DL

/-! DVc: how a transformer is proved. Plain Lean. -/
namespace DL
open PySem
@[simp] theorem envOf_eq (n : Nat) (ds : List D) : envOf n ds = ds.map Sl.v ++ List.replicate (n - ds.length) .no := rfl
@[simp] theorem fgt_nil (ρ : Env) : fgt [] ρ = ρ := rfl
@[simp] theorem fgt_cons (j : Nat) (js : List Nat) (ρ : Env) : fgt (j :: js) ρ = fgt js (ρ.set j .no) := rfl
@[simp] theorem wipe_nil (ρ : Env) : wipeE ρ [] = ρ := rfl
@[simp] theorem wipe_cons (j : Nat) (js : List Nat) (ρ : Env) : wipeE ρ (j :: js) = wipeE (ρ.set j .no) js := rfl
@[simp] theorem xown_nil : noOwn [] = [] := rfl
@[simp] theorem xown_v (d : D) (ρ : Env) : noOwn (.v d :: ρ) = .v d :: noOwn ρ := rfl
@[simp] theorem xown_o (d : D) (ρ : Env) : noOwn (.o d :: ρ) = .no :: noOwn ρ := rfl
@[simp] theorem xown_no (ρ : Env) : noOwn (.no :: ρ) = .no :: noOwn ρ := rfl
/-- of a slot that nothing is known of -/
def own1 (s : Sl) : Sl := match s with
  | .v d => .v d
  | _ => .no
@[simp low] theorem xown_any (s : Sl) (ρ : DL.Env) : noOwn (s :: ρ) = own1 s :: noOwn ρ := by cases s <;> rfl
def bor1 (s : Sl) : Sl := match s with
  | .o d => .v d
  | s => s
@[simp low] theorem xbor_any (s : Sl) (ρ : DL.Env) : bor (s :: ρ) = bor1 s :: bor ρ := by cases s <;> rfl
@[simp] theorem xbor_nil : bor [] = [] := rfl
@[simp] theorem xbor_v (d : D) (ρ : Env) : bor (.v d :: ρ) = .v d :: bor ρ := rfl
@[simp] theorem xbor_o (d : D) (ρ : Env) : bor (.o d :: ρ) = .v d :: bor ρ := rfl
@[simp] theorem xbor_no (ρ : Env) : bor (.no :: ρ) = .no :: bor ρ := rfl
@[simp] theorem bor1_o {d : D} : bor1 (.o d) = .v d := rfl
@[simp] theorem bor1_v {d : D} : bor1 (.v d) = .v d := rfl
@[simp] theorem bor1_no : bor1 .no = .no := rfl
@[simp] theorem own1_o {d : D} : own1 (.o d) = .no := rfl
@[simp] theorem own1_v {d : D} : own1 (.v d) = .v d := rfl
@[simp] theorem own1_no : own1 .no = .no := rfl
/-! what a place holds -/
def gV (o : Option Sl) (Q : DK) : Prop := match o with
  | some (.v d) => Q d
  | _ => False
@[simp] theorem gV_v {d : D} {Q : DK} : gV (some (.v d)) Q ↔ Q d := ⟨fun h => h, fun h => h⟩
@[simp] theorem gOL_o {d : List D} {Q : List D → Prop} : gOL (some (.o (.lst d))) Q ↔ Q d := ⟨fun h => h, fun h => h⟩
def gFrz (o : Option Sl) (i : Nat) (ρ : DL.Env) (Q : DL.Env → Prop) : Prop := match o with
  | some (.o d) => Q (ρ.set i (.v d))
  | _ => Q ρ
@[simp] theorem gFrz_o {d : D} {i : Nat} {ρ : DL.Env} {Q : DL.Env → Prop} : gFrz (some (.o d)) i ρ Q ↔ Q (ρ.set i (.v d)) := ⟨fun h => h, fun h => h⟩
@[simp] theorem gFrz_v {d : D} {i : Nat} {ρ : DL.Env} {Q : DL.Env → Prop} : gFrz (some (.v d)) i ρ Q ↔ Q ρ := ⟨fun h => h, fun h => h⟩
@[simp] theorem gFrz_no {i : Nat} {ρ : DL.Env} {Q : DL.Env → Prop} : gFrz (some .no) i ρ Q ↔ Q ρ := ⟨fun h => h, fun h => h⟩
def gB (d : D) (Q : Bool → Prop) : Prop := match d with
  | .bl b => Q b
  | _ => False
@[simp] theorem gB_b {b : Bool} {Q : Bool → Prop} : gB (.bl b) Q ↔ Q b := ⟨fun h => h, fun h => h⟩
@[simp] theorem gI_i {b : Int} {Q : Int → Prop} : gI (.int b) Q ↔ Q b := ⟨fun h => h, fun h => h⟩
def gSeq (d : D) (Q : List D → Prop) : Prop := match d with
  | .lst xs => Q xs
  | .tup xs => Q xs
  | .str z => Q (z.cps.toList.map fun c => .str ⟨#[c]⟩)
  | _ => False
@[simp] theorem gSeq_l {xs : List D} {Q : List D → Prop} : gSeq (.lst xs) Q ↔ Q xs := ⟨fun h => h, fun h => h⟩
@[simp] theorem gSeq_t {xs : List D} {Q : List D → Prop} : gSeq (.tup xs) Q ↔ Q xs := ⟨fun h => h, fun h => h⟩
def gRng1 (xs : List D) (Q : List D → Prop) : Prop := match xs with
  | [.int j] => -(2 ^ 62) ≤ j ∧ j < 2 ^ 62 ∧ Q (rng 0 j.toNat)
  | _ => False
@[simp] theorem gRng1_i {j : Int} {Q : List D → Prop} : gRng1 [.int j] Q ↔ -4611686018427387904 ≤ j ∧ j < 4611686018427387904 ∧ Q (rng 0 j.toNat) := ⟨fun h => h, fun h => h⟩
def gRng2 (xs : List D) (Q : List D → Prop) : Prop := match xs with
  | [.int i, .int j] => (-(2 ^ 62) ≤ i ∧ i < 2 ^ 62 ∧ -(2 ^ 62) ≤ j ∧ j < 2 ^ 62) ∧ Q (rng i (j - i).toNat)
  | _ => False
@[simp] theorem gRng2_i {i j : Int} {Q : List D → Prop} : gRng2 [.int i, .int j] Q ↔ (-4611686018427387904 ≤ i ∧ i < 4611686018427387904 ∧ -4611686018427387904 ≤ j ∧ j < 4611686018427387904) ∧ Q (rng i (j - i).toNat) := ⟨fun h => h, fun h => h⟩
def g2 (xs : List D) (Q : D → D → Prop) : Prop := match xs with
  | [x, y] => Q x y
  | _ => False
@[simp] theorem g2_2 {x y : D} {Q : D → D → Prop} : g2 [x, y] Q ↔ Q x y := ⟨fun h => h, fun h => h⟩
def gEnum (xs : List D) (Q : List D → Prop) : Prop := match xs with
  | [.lst xs] => Q (enumD xs)
  | _ => False
@[simp] theorem gEnum_l {xs : List D} {Q : List D → Prop} : gEnum [.lst xs] Q ↔ Q (enumD xs) := ⟨fun h => h, fun h => h⟩
def gZip (xs : List D) (Q : List D → Prop) : Prop := match xs with
  | [.lst xs, .lst ys] => Q (zipD xs ys)
  | [.tup xs, .tup ys] => Q (zipD xs ys)
  | _ => False
@[simp] theorem gZip_l {xs ys : List D} {Q : List D → Prop} : gZip [.lst xs, .lst ys] Q ↔ Q (zipD xs ys) := ⟨fun h => h, fun h => h⟩
@[simp] theorem gZip_t {xs ys : List D} {Q : List D → Prop} : gZip [.tup xs, .tup ys] Q ↔ Q (zipD xs ys) := ⟨fun h => h, fun h => h⟩
def gRev (x : D) (Q : List D → Prop) : Prop := match x with
  | .lst xs => Q xs.reverse
  | .tup xs => Q xs.reverse
  | _ => False
@[simp] theorem gRev_l {xs : List D} {Q : List D → Prop} : gRev (.lst xs) Q ↔ Q xs.reverse := ⟨fun h => h, fun h => h⟩
@[simp] theorem gRev_t {xs : List D} {Q : List D → Prop} : gRev (.tup xs) Q ↔ Q xs.reverse := ⟨fun h => h, fun h => h⟩
@[simp] theorem w_ienum {a : DA} {E : EK} {ρ : DL.Env} {Q : List D → Prop} : DL.iEnum a E ρ Q ↔ a E ρ fun xs => gEnum xs Q := ⟨fun h => h, fun h => h⟩
@[simp] theorem w_izip {a : DA} {E : EK} {ρ : DL.Env} {Q : List D → Prop} : DL.iZip a E ρ Q ↔ a E ρ fun xs => gZip xs Q := ⟨fun h => h, fun h => h⟩
@[simp] theorem w_irev {a : DT} {E : EK} {ρ : DL.Env} {Q : List D → Prop} : DL.iRev a E ρ Q ↔ a E ρ fun x => gRev x Q := ⟨fun h => h, fun h => h⟩
def gIns (c : String) (x : D) (Q : List (Str × D) → Prop) : Prop := match x with
  | .ins c' fs => c' = c ∧ Q fs
  | _ => False
@[simp] theorem gIns_i {c : String} {fs : List (Str × D)} {Q : List (Str × D) → Prop} : gIns c (.ins c fs) Q ↔ Q fs := ⟨fun h => h.2, fun h => ⟨rfl, h⟩⟩
def gOI (c : String) (o : Option Sl) (Q : List (Str × D) → Prop) : Prop := match o with
  | some (.o (.ins c' fs)) => c' = c ∧ Q fs
  | _ => False
@[simp] theorem gOI_i {c : String} {fs : List (Str × D)} {Q : List (Str × D) → Prop} : gOI c (some (.o (.ins c fs))) Q ↔ Q fs := ⟨fun h => h.2, fun h => ⟨rfl, h⟩⟩
@[simp] theorem w_fld {c : String} {f : Str} {a : DT} {E : EK} {ρ : DL.Env} {Q : DK} : dFld c f a E ρ Q ↔ a E ρ fun x => gIns c x fun fs => oGet (fs.lookup f) Q := ⟨fun h => h, fun h => h⟩
@[simp] theorem w_fldO {c : String} {i : Nat} {f : Str} {a : DT} {E : EK} {K : DE} {ρ : DL.Env} : sFldO c i f a E K ρ ↔ gOI c ρ[i]? fun fs => a E ρ fun v => fs.length < 1000 ∧ K.nx (ρ.set i (.o (.ins c (putFD f v fs)))) := by
  unfold sFldO gOI
  cases ρ[i]? with
  | none => exact Iff.rfl
  | some s => cases s with
    | o d => cases d <;> exact Iff.rfl
    | _ => exact Iff.rfl
@[simp] theorem w_make {W : DF} {r : DA} {E : EK} {ρ : DL.Env} {Q : DK} : dMake W r E ρ Q ↔ r E ρ fun xs => up W xs Q fun _ => False := ⟨fun h => h, fun h => h⟩
@[simp] theorem w_made {c : String} {fs : List (Str × D)} {ρ : DL.Env} {Q : DK} : madeQ Q (.o (.ins c fs) :: ρ) ↔ Q (.ins c fs) := ⟨fun h => h, fun h => h⟩
@[simp] theorem gO_o {d : D} {Q : DK} : gO (some (.o d)) Q ↔ Q d := ⟨fun h => h, fun h => h⟩
@[simp] theorem w_retO {i : Nat} {E : EK} {K : DE} {ρ : DL.Env} : sRetO i E K ρ ↔ gO ρ[i]? K.rt := ⟨fun h => h, fun h => h⟩
@[simp] theorem gOD_o {d : List (Key × D)} {Q : List (Key × D) → Prop} : gOD (some (.o (.dk d))) Q ↔ Q d := ⟨fun h => h, fun h => h⟩
@[simp] theorem gK_i {b : Int} {Q : Key → Prop} : gK (.int b) Q ↔ Q (.inl b) := ⟨fun h => h, fun h => h⟩
@[simp] theorem gK_s {b : Str} {Q : Key → Prop} : gK (.str b) Q ↔ Q (.inr b) := ⟨fun h => h, fun h => h⟩
@[simp] theorem gSm_s {α : Type} {b : α} {Q : α → Prop} : gSm (some b) Q ↔ Q b := ⟨fun h => h, fun h => h⟩
@[simp] theorem gDk_d {d : List (Key × D)} {Q : List (Key × D) → Prop} : gDk (.dk d) Q ↔ Q d := ⟨fun h => h, fun h => h⟩
@[simp] theorem w_lop {f : List D → List D → (List D → Prop) → Prop} {i : Nat} {a : DA} {E : EK} {K : DE} {ρ : DL.Env} : sLop f i a E K ρ ↔ gOL ρ[i]? fun xs => a E ρ fun ys => f xs ys fun zs => K.nx (ρ.set i (.o (.lst zs))) := ⟨fun h => h, fun h => h⟩
@[simp] theorem w_ext {xs zs : List D} {Q : List D → Prop} : lExt xs [.lst zs] Q ↔ xs.length + zs.length ≤ lineMax ∧ Q (xs ++ zs) := ⟨fun h => h, fun h => h⟩
@[simp] theorem w_ins {xs : List D} {k : Int} {y : D} {Q : List D → Prop} : lIns xs [.int k, y] Q ↔ (xs.length < lineMax ∧ 0 ≤ k ∧ k < 9223372036854775808) ∧ Q (xs.take k.toNat ++ [y] ++ xs.drop k.toNat) := ⟨fun h => h, fun h => h⟩
@[simp] theorem w_rev {xs : List D} {Q : List D → Prop} : lRev xs [] Q ↔ Q xs.reverse := ⟨fun h => h.2, fun h => ⟨rfl, h⟩⟩
@[simp] theorem w_clr {xs : List D} {Q : List D → Prop} : lClr xs [] Q ↔ Q [] := ⟨fun h => h.2, fun h => ⟨rfl, h⟩⟩
@[simp] theorem w_pop0 {xs : List D} {Q : D → List D → Prop} : lPop xs [] Q ↔ gSm xs[xs.length - 1]? fun y => Q y xs.dropLast := ⟨fun h => h, fun h => h⟩
@[simp] theorem w_pop1 {xs : List D} {k : Int} {Q : D → List D → Prop} : lPop xs [.int k] Q ↔ (-9223372036854775808 ≤ k ∧ k < 9223372036854775808) ∧ gSm (ixN xs.length k) fun j => gSm xs[j]? fun y => Q y (xs.eraseIdx j) := ⟨fun h => h, fun h => h⟩
@[simp] theorem w_pop {i : Nat} {a : DA} {E : EK} {K : DE} {ρ : DL.Env} : sPop i a E K ρ ↔ gOL ρ[i]? fun xs => a E ρ fun ys => lPop xs ys fun _ zs => K.nx (ρ.set i (.o (.lst zs))) := ⟨fun h => h, fun h => h⟩
@[simp] theorem w_popTo {i j : Nat} {a : DA} {E : EK} {K : DE} {ρ : DL.Env} : sPopTo i j a E K ρ ↔ gOL ρ[i]? fun xs => a E ρ fun ys => lPop xs ys fun y zs => K.nx ((ρ.set i (.o (.lst zs))).set j (.v y)) := ⟨fun h => h, fun h => h⟩
@[simp] theorem w_popApp {i : Nat} {a : DA} {E : EK} {K : DE} {ρ : DL.Env} : sPopApp i a E K ρ ↔ gOL ρ[i]? fun xs => a E ρ fun ys => lPop xs ys fun y zs => zs.length < lineMax ∧ K.nx (ρ.set i (.o (.lst (zs ++ [y])))) := ⟨fun h => h, fun h => h⟩
@[simp] theorem w_setIx {i : Nat} {a b : DT} {E : EK} {K : DE} {ρ : DL.Env} : sSetIx i a b E K ρ ↔ gOL ρ[i]? fun xs => b E ρ fun v => a E ρ fun k => gI k fun k => gSm (ixN xs.length k) fun j => K.nx (ρ.set i (.o (.lst (xs.set j v)))) := ⟨fun h => h, fun h => h⟩
@[simp] theorem w_augIx {f : D → D → DK → Prop} {i : Nat} {a b : DT} {E : EK} {K : DE} {ρ : DL.Env} : sAugIx f i a b E K ρ ↔ gOL ρ[i]? fun xs => a E ρ fun k => gI k fun k => gSm (ixN xs.length k) fun j => gSm xs[j]? fun x => b E ρ fun y => f x y fun z => K.nx (ρ.set i (.o (.lst (xs.set j z)))) := ⟨fun h => h, fun h => h⟩
@[simp] theorem w_newK {E : EK} {ρ : DL.Env} {Q : DK} : dNewK E ρ Q ↔ Q (.dk []) := ⟨fun h => h, fun h => h⟩
@[simp] theorem w_putK {i : Nat} {a b : DT} {E : EK} {K : DE} {ρ : DL.Env} : sPutK i a b E K ρ ↔ gOD ρ[i]? fun kvs => b E ρ fun v => a E ρ fun k => gK k fun k => kvs.length < 1000000 ∧ K.nx (ρ.set i (.o (.dk (putD kvs k v)))) := ⟨fun h => h, fun h => h⟩
@[simp] theorem w_ixK {i : Nat} {a : DT} {E : EK} {ρ : DL.Env} {Q : DK} : dIxK i a E ρ Q ↔ gOD ρ[i]? fun kvs => a E ρ fun k => gK k fun k => oGet (lookD kvs k) Q := ⟨fun h => h, fun h => h⟩
@[simp] theorem w_getK1 {a b : DT} {E : EK} {ρ : DL.Env} {Q : DK} : dGetK1 a b E ρ Q ↔ a E ρ fun x => gDk x fun kvs => b E ρ fun k => gK k fun k => Q ((lookD kvs k).getD .non) := ⟨fun h => h, fun h => h⟩
@[simp] theorem w_getK2 {a b c : DT} {E : EK} {ρ : DL.Env} {Q : DK} : dGetK2 a b c E ρ Q ↔ a E ρ fun x => gDk x fun kvs => b E ρ fun k => c E ρ fun z => gK k fun k => Q ((lookD kvs k).getD z) := ⟨fun h => h, fun h => h⟩
@[simp] theorem w_pnil {E : EK} {ρ : DL.Env} {Q : List (D × D) → Prop} : pNil E ρ Q ↔ Q [] := ⟨fun h => h, fun h => h⟩
@[simp] theorem w_pcons {a b : DT} {r : DPs} {E : EK} {ρ : DL.Env} {Q : List (D × D) → Prop} : pCons a b r E ρ Q ↔ a E ρ fun x => b E ρ fun y => r E ρ fun ps => Q ((x, y) :: ps) := ⟨fun h => h, fun h => h⟩
@[simp] theorem w_disp {a : DPs} {E : EK} {ρ : DL.Env} {Q : DK} : dDisp a E ρ Q ↔ a E ρ fun ps => gSm (keyV ps) fun kvs => ps.length ≤ 15 ∧ Q (.dk (mergeD kvs)) := ⟨fun h => h, fun h => h⟩
@[simp] theorem keyV_nil : keyV [] = some [] := rfl
@[simp] theorem keyV_i {i : Int} {v : D} {r : List (D × D)} : keyV ((.int i, v) :: r) = (keyV r).map fun kvs => (.inl i, v) :: kvs := by
  simp only [keyV, keyOf]
  cases keyV r <;> rfl
@[simp] theorem keyV_s {i : Str} {v : D} {r : List (D × D)} : keyV ((.str i, v) :: r) = (keyV r).map fun kvs => (.inr i, v) :: kvs := by
  simp only [keyV, keyOf]
  cases keyV r <;> rfl
/-! the transformers, one by one -/
@[simp] theorem w_var {i : Nat} {Q : DK} {E : EK} {ρ : DL.Env} : dVar i E ρ Q ↔ gV ρ[i]? Q := ⟨fun h => h, fun h => h⟩
@[simp] theorem w_c {d : D} {Q : DK} {E : EK} {ρ : DL.Env} : dC d E ρ Q ↔ Q d := ⟨fun h => h, fun h => h⟩
@[simp] theorem w_op {f : D → D → DK → Prop} {a b : DT} {Q : DK} {E : EK} {ρ : DL.Env} : dOp f a b E ρ Q ↔ a E ρ fun x => b E ρ fun y => f x y Q := ⟨fun h => h, fun h => h⟩
@[simp] theorem w_un {f : D → DK → Prop} {a : DT} {Q : DK} {E : EK} {ρ : DL.Env} : dUn f a E ρ Q ↔ a E ρ fun x => f x Q := ⟨fun h => h, fun h => h⟩
@[simp] theorem w_chain {f g : D → D → DK → Prop} {a b c : DT} {Q : DK} {E : EK} {ρ : DL.Env} : dChain f g a b c E ρ Q ↔ a E ρ fun x => b E ρ fun y => f x y fun z => gB z fun k => if k = true then c E ρ fun u => g y u Q else Q (.bl false) := ⟨fun h => h, fun h => h⟩
@[simp] theorem w_anil {Q : List D → Prop} {E : EK} {ρ : DL.Env} : aNil E ρ Q ↔ Q [] := ⟨fun h => h, fun h => h⟩
@[simp] theorem w_acons {a : DT} {r : DA} {Q : List D → Prop} {E : EK} {ρ : DL.Env} : aCons a r E ρ Q ↔ a E ρ fun x => r E ρ fun xs => Q (x :: xs) := ⟨fun h => h, fun h => h⟩
@[simp] theorem w_tup {a : DA} {Q : DK} {E : EK} {ρ : DL.Env} : dTup a E ρ Q ↔ a E ρ fun xs => xs.length ≤ lineMax ∧ Q (.tup xs) := ⟨fun h => h, fun h => h⟩
@[simp] theorem w_lst {a : DA} {Q : DK} {E : EK} {ρ : DL.Env} : dLst a E ρ Q ↔ a E ρ fun xs => xs.length ≤ lineMax ∧ Q (.lst xs) := ⟨fun h => h, fun h => h⟩
@[simp] theorem w_call {W : DF} {a : DA} {Q : DK} {E : EK} {ρ : DL.Env} : dCall W a E ρ Q ↔ a E ρ fun xs => up W xs Q fun e => E e ρ := ⟨fun h => h, fun h => h⟩
@[simp] theorem w_blt {f : List D → DK → Prop} {a : DA} {Q : DK} {E : EK} {ρ : DL.Env} : dBlt f a E ρ Q ↔ a E ρ fun xs => f xs Q := ⟨fun h => h, fun h => h⟩
@[simp] theorem w_T {a : DT} {Q : Bool → Prop} {E : EK} {ρ : DL.Env} : bT a E ρ Q ↔ a E ρ fun x => gB x Q := ⟨fun h => h, fun h => h⟩
@[simp] theorem w_truth {a : DT} {Q : Bool → Prop} {E : EK} {ρ : DL.Env} : bTruth a E ρ Q ↔ a E ρ fun x => truthD x Q := ⟨fun h => h, fun h => h⟩
@[simp] theorem w_and {a b : DB} {Q : Bool → Prop} {E : EK} {ρ : DL.Env} : bAnd a b E ρ Q ↔ a E ρ fun c => if c = true then b E ρ Q else Q false := ⟨fun h => h, fun h => h⟩
@[simp] theorem w_or {a b : DB} {Q : Bool → Prop} {E : EK} {ρ : DL.Env} : bOr a b E ρ Q ↔ a E ρ fun c => if c = true then Q true else b E ρ Q := ⟨fun h => h, fun h => h⟩
@[simp] theorem w_not {a : DB} {Q : Bool → Prop} {E : EK} {ρ : DL.Env} : bNot a E ρ Q ↔ a E ρ fun c => Q (!c) := ⟨fun h => h, fun h => h⟩
@[simp] theorem w_andV {a b : DT} {Q : DK} {E : EK} {ρ : DL.Env} : dAndV a b E ρ Q ↔ a E ρ fun x => gB x fun c => if c = true then b E ρ Q else Q (.bl false) := ⟨fun h => h, fun h => h⟩
@[simp] theorem w_orV {a b : DT} {Q : DK} {E : EK} {ρ : DL.Env} : dOrV a b E ρ Q ↔ a E ρ fun x => gB x fun c => if c = true then Q (.bl true) else b E ρ Q := ⟨fun h => h, fun h => h⟩
@[simp] theorem w_notV {a : DT} {Q : DK} {E : EK} {ρ : DL.Env} : dNotV a E ρ Q ↔ a E ρ fun x => gB x fun c => Q (.bl (!c)) := ⟨fun h => h, fun h => h⟩
@[simp] theorem w_if {c : DB} {a b : DT} {Q : DK} {E : EK} {ρ : DL.Env} : dIf c a b E ρ Q ↔ c E ρ fun k => if k = true then a E ρ Q else b E ρ Q := ⟨fun h => h, fun h => h⟩
@[simp] theorem w_oN {Q : Option Int → Prop} {E : EK} {ρ : DL.Env} : oN E ρ Q ↔ Q none := ⟨fun h => h, fun h => h⟩
@[simp] theorem w_oS {a : DT} {Q : Option Int → Prop} {E : EK} {ρ : DL.Env} : oS a E ρ Q ↔ a E ρ fun x => gI x fun i => Q (some i) := ⟨fun h => h, fun h => h⟩
@[simp] theorem w_slice {a : DT} {lo hi : DO} {Q : DK} {E : EK} {ρ : DL.Env} : dSlice a lo hi E ρ Q ↔ a E ρ fun x => lo E ρ fun l => hi E ρ fun h => oCut x l h Q := ⟨fun h => h, fun h => h⟩
@[simp] theorem w_iseq {a : DT} {Q : List D → Prop} {E : EK} {ρ : DL.Env} : iSeq a E ρ Q ↔ a E ρ fun x => gSeq x Q := ⟨fun h => h, fun h => h⟩
@[simp] theorem w_rng1 {a : DA} {Q : List D → Prop} {E : EK} {ρ : DL.Env} : iRng1 a E ρ Q ↔ a E ρ fun xs => gRng1 xs Q := ⟨fun h => h, fun h => h⟩
@[simp] theorem w_rng2 {a : DA} {Q : List D → Prop} {E : EK} {ρ : DL.Env} : iRng2 a E ρ Q ↔ a E ρ fun xs => gRng2 xs Q := ⟨fun h => h, fun h => h⟩
@[simp] theorem w_gname {i : Nat} {d : D} {ρ : DL.Env} {Q : DL.Env → Prop} : gName i d ρ Q ↔ Q (ρ.set i (.v d)) := ⟨fun h => h, fun h => h⟩
@[simp] theorem w_gnil {ρ : DL.Env} {Q : DL.Env → Prop} : gNil [] ρ Q ↔ Q ρ := ⟨fun h => h.2, fun h => ⟨rfl, h⟩⟩
@[simp] theorem w_gcons {g : DG} {r : DGs} {x : D} {xs : List D} {ρ : DL.Env} {Q : DL.Env → Prop} : gCons g r (x :: xs) ρ Q ↔ g x ρ fun ρ' => r xs ρ' Q := ⟨fun h => h, fun h => h⟩
@[simp] theorem w_gtup {g : DGs} {xs : List D} {ρ : DL.Env} {Q : DL.Env → Prop} : gTup g (.tup xs) ρ Q ↔ g xs ρ Q := ⟨fun h => h, fun h => h⟩
@[simp] theorem w_gtupL {g : DGs} {xs : List D} {ρ : DL.Env} {Q : DL.Env → Prop} : gTup g (.lst xs) ρ Q ↔ g xs ρ Q := ⟨fun h => h, fun h => h⟩
@[simp] theorem w_next {E : EK} {K : DE} {ρ : DL.Env} : sNext E K ρ ↔ K.nx ρ := ⟨fun h => h, fun h => h⟩
@[simp] theorem w_seq {a b : DS} {E : EK} {K : DE} {ρ : DL.Env} : sSeq a b E K ρ ↔ a E { K with nx := b E K } ρ := ⟨fun h => h, fun h => h⟩
@[simp] theorem w_brk {E : EK} {K : DE} {ρ : DL.Env} : sBreak E K ρ ↔ K.bk ρ := ⟨fun h => h, fun h => h⟩
@[simp] theorem w_cnt {E : EK} {K : DE} {ρ : DL.Env} : sCont E K ρ ↔ K.ct ρ := ⟨fun h => h, fun h => h⟩
@[simp] theorem w_drop {a : DT} {E : EK} {K : DE} {ρ : DL.Env} : sDrop a E K ρ ↔ a E ρ fun _ => K.nx ρ := ⟨fun h => h, fun h => h⟩
@[simp] theorem w_ret {a : DT} {E : EK} {K : DE} {ρ : DL.Env} : sRet a E K ρ ↔ a E ρ K.rt := ⟨fun h => h, fun h => h⟩
@[simp] theorem w_retN {E : EK} {K : DE} {ρ : DL.Env} : sRetN E K ρ ↔ K.rt .non := ⟨fun h => h, fun h => h⟩
@[simp] theorem w_ifs {c : DB} {a b : DS} {E : EK} {K : DE} {ρ : DL.Env} : sIf c a b E K ρ ↔ c E ρ fun k => if k = true then a E K ρ else b E K ρ := ⟨fun h => h, fun h => h⟩
@[simp] theorem w_asg {a : DT} {g : DG} {E : EK} {K : DE} {ρ : DL.Env} : sAsg a g E K ρ ↔ a E ρ fun x => g x ρ K.nx := ⟨fun h => h, fun h => h⟩
@[simp] theorem w_set {i : Nat} {a : DT} {E : EK} {K : DE} {ρ : DL.Env} : sSet i a E K ρ ↔ a E ρ fun x => K.nx (ρ.set i (.v x)) := ⟨fun h => h, fun h => h⟩
@[simp] theorem w_own {i : Nat} {a : DT} {E : EK} {K : DE} {ρ : DL.Env} : sOwn i a E K ρ ↔ a E ρ fun x => K.nx (ρ.set i (.o x)) := ⟨fun h => h, fun h => h⟩
@[simp] theorem w_frz {i : Nat} {a : DS} {E : EK} {K : DE} {ρ : DL.Env} : sFrz i a E K ρ ↔ gFrz ρ[i]? i ρ fun ρ => a E K ρ := by
  show a E K (frz i ρ) ↔ _
  unfold frz gFrz
  cases ρ[i]? with
  | none => exact Iff.rfl
  | some s => cases s <;> exact Iff.rfl
@[simp] theorem w_fgt {js : List Nat} {a : DS} {E : EK} {K : DE} {ρ : DL.Env} : sFgt js a E K ρ ↔ a E K (fgt js ρ) := ⟨fun h => h, fun h => h⟩
@[simp] theorem w_par {i j : Nat} {a : DA} {E : EK} {K : DE} {ρ : DL.Env} : sPar i j a E K ρ ↔ a E ρ fun xs => g2 xs fun x y => K.nx ((ρ.set i (.v x)).set j (.v y)) := ⟨fun h => h, fun h => h⟩
@[simp] theorem w_aug {i : Nat} {f : D → D → DK → Prop} {a : DT} {E : EK} {K : DE} {ρ : DL.Env} : sAug i f a E K ρ ↔ gV ρ[i]? fun x => a E ρ fun y => f x y fun z => K.nx (ρ.set i (.v z)) := ⟨fun h => h, fun h => h⟩
@[simp] theorem w_app {i : Nat} {a : DT} {E : EK} {K : DE} {ρ : DL.Env} : sApp i a E K ρ ↔ gOL ρ[i]? fun xs => a E ρ fun x => xs.length < lineMax ∧ K.nx (ρ.set i (.o (.lst (xs ++ [x])))) := ⟨fun h => h, fun h => h⟩
@[simp] theorem w_for {it : DI} {g : DG} {b : DS} {E : EK} {K : DE} {ρ : DL.Env} : sFor it g b E K ρ ↔ it E ρ fun xs => forL g b E K xs ρ := ⟨fun h => h, fun h => h⟩
@[simp] theorem w_while {c : DB} {b : DS} {E : EK} {K : DE} {ρ : DL.Env} : sWhile c b E K ρ ↔ ∃ n, whileN c b E K n ρ := ⟨fun h => h, fun h => h⟩
@[simp] theorem w_lc {it : DI} {g : DG} {t : DB} {e : DT} {vs : List Nat} {Q : DK} {E : EK} {ρ : DL.Env} : dLc it g t e vs E ρ Q ↔ it E ρ fun xs => lcL g t e (noOwn (wipeE ρ vs)) xs [] fun r => Q (.lst r) := ⟨fun h => h, fun h => h⟩
@[simp] theorem w_yes {Q : Bool → Prop} {E : EK} {ρ : DL.Env} : bYes E ρ Q ↔ Q true := ⟨fun h => h, fun h => h⟩
@[simp] theorem w_isi {c : String} {a : DT} {Q : DK} {E : EK} {ρ : DL.Env} : dIsi c a E ρ Q ↔ a E ρ fun d => tyName d ≠ "" ∧ Q (.bl (isTy c d)) := ⟨fun h => h, fun h => h⟩
@[simp] theorem w_dbor {a : DT} {Q : DK} {E : EK} {ρ : DL.Env} : dBor a E ρ Q ↔ a noE (bor ρ) fun d => isFlat d = true ∧ Q d := ⟨fun h => h, fun h => h⟩
@[simp] theorem w_bbor {a : DB} {Q : Bool → Prop} {E : EK} {ρ : DL.Env} : bBor a E ρ Q ↔ a noE (bor ρ) Q := ⟨fun h => h, fun h => h⟩
@[simp] theorem w_ixO {i : Nat} {a : DT} {Q : DK} {E : EK} {ρ : DL.Env} : dIxO i a E ρ Q ↔ gOL ρ[i]? fun xs => a E ρ fun y => gI y fun k => oGet (atI xs k) Q := ⟨fun h => h, fun h => h⟩
@[simp] theorem w_addI {i j : Int} {Q : DK} : oAdd (.int i) (.int j) Q ↔ Q (.int (i + j)) := ⟨fun h => h, fun h => h⟩
@[simp] theorem w_addS {a b : Str} {Q : DK} : oAdd (.str a) (.str b) Q ↔ a.length + b.length ≤ lineMax ∧ Q (.str (a ++ b)) := ⟨fun h => h, fun h => h⟩
@[simp] theorem w_addL {a b : List D} {Q : DK} : oAdd (.lst a) (.lst b) Q ↔ a.length + b.length ≤ lineMax ∧ Q (.lst (a ++ b)) := ⟨fun h => h, fun h => h⟩
@[simp] theorem w_addT {a b : List D} {Q : DK} : oAdd (.tup a) (.tup b) Q ↔ a.length + b.length ≤ lineMax ∧ Q (.tup (a ++ b)) := ⟨fun h => h, fun h => h⟩
@[simp] theorem w_sub {i j : Int} {Q : DK} : oSub (.int i) (.int j) Q ↔ Q (.int (i - j)) := ⟨fun h => h, fun h => h⟩
@[simp] theorem w_mul {i j : Int} {Q : DK} : oMul (.int i) (.int j) Q ↔ mulOk i j ∧ Q (.int (i * j)) := ⟨fun h => h, fun h => h⟩
@[simp] theorem w_mulT {a : List D} {k : Int} {Q : DK} : oMul (.tup a) (.int k) Q ↔ -(2 ^ 63) ≤ k ∧ k ≤ 1000 ∧ a.length ≤ 1000 ∧ Q (.tup (List.replicate k.toNat a).flatten) := ⟨fun h => h, fun h => h⟩
@[simp] theorem w_mulL {a : List D} {k : Int} {Q : DK} : oMul (.lst a) (.int k) Q ↔ -(2 ^ 63) ≤ k ∧ k < 2 ^ 63 ∧ a.length * k.toNat ≤ lineMax ∧ Q (.lst (List.replicate k.toNat a).flatten) := ⟨fun h => h, fun h => h⟩
@[simp] theorem w_div {i j : Int} {Q : DK} : oDiv (.int i) (.int j) Q ↔ divOk j ∧ Q (.int (i / j)) := ⟨fun h => h, fun h => h⟩
@[simp] theorem w_mod {i j : Int} {Q : DK} : oMod (.int i) (.int j) Q ↔ 0 < j ∧ Q (.int (i % j)) := ⟨fun h => h, fun h => h⟩
@[simp] theorem w_pow {i j : Int} {Q : DK} : oPow (.int i) (.int j) Q ↔ (0 ≤ j ∧ j ≤ 1000000 ∧ i.natAbs < 2 ^ 64) ∧ Q (.int (i ^ j.toNat)) := ⟨fun h => h, fun h => h⟩
@[simp] theorem w_neg {i : Int} {Q : DK} : oNeg (.int i) Q ↔ Q (.int (-i)) := ⟨fun h => h, fun h => h⟩
@[simp] theorem w_eq {x y : D} {Q : DK} : oEq x y Q ↔ okD 60 x = true ∧ okD 60 y = true ∧ Q (.bl (eqD x y)) := ⟨fun h => h, fun h => h⟩
@[simp] theorem w_ne {x y : D} {Q : DK} : oNe x y Q ↔ okD 60 x = true ∧ okD 60 y = true ∧ Q (.bl (!eqD x y)) := ⟨fun h => h, fun h => h⟩
@[simp] theorem w_lt {i j : Int} {Q : DK} : oLt (.int i) (.int j) Q ↔ Q (.bl (decide (i < j))) := ⟨fun h => h, fun h => h⟩
@[simp] theorem w_le {i j : Int} {Q : DK} : oLe (.int i) (.int j) Q ↔ Q (.bl (decide (i ≤ j))) := ⟨fun h => h, fun h => h⟩
@[simp] theorem w_gt {i j : Int} {Q : DK} : oGt (.int i) (.int j) Q ↔ Q (.bl (decide (j < i))) := ⟨fun h => h, fun h => h⟩
@[simp] theorem w_ge {i j : Int} {Q : DK} : oGe (.int i) (.int j) Q ↔ Q (.bl (decide (j ≤ i))) := ⟨fun h => h, fun h => h⟩
@[simp] theorem w_is {x y : D} {Q : DK} : oIs x y Q ↔ isNon y = true ∧ Q (.bl (isNon x)) := ⟨fun h => h, fun h => h⟩
@[simp] theorem w_isnot {x y : D} {Q : DK} : oIsNot x y Q ↔ isNon y = true ∧ Q (.bl (!isNon x)) := ⟨fun h => h, fun h => h⟩
@[simp] theorem w_addAI {i j : Int} {Q : DK} : oAddI (.int i) (.int j) Q ↔ Q (.int (i + j)) := ⟨fun h => h, fun h => h⟩
@[simp] theorem w_inL {x : D} {xs : List D} {Q : DK} : oIn x (.lst xs) Q ↔ okD 60 x = true ∧ okDs 59 xs = true ∧ Q (.bl (inD x xs)) := ⟨fun h => h, fun h => h⟩
@[simp] theorem w_inT {x : D} {xs : List D} {Q : DK} : oIn x (.tup xs) Q ↔ ((isFlat x = true ∧ xs.all isFlat = true) ∨ (okD 60 x = true ∧ okDs 59 xs = true)) ∧ Q (.bl (inD x xs)) := ⟨fun h => h, fun h => h⟩
@[simp] theorem w_notIn {x y : D} {Q : DK} : oNotIn x y Q ↔ oIn x y fun d => gB d fun b => Q (.bl (!b)) := ⟨fun h => h, fun h => h⟩
@[simp] theorem w_get {d : D} {Q : DK} : oGet (some d) Q ↔ Q d := ⟨fun h => h, fun h => h⟩
@[simp] theorem w_ixL {xs : List D} {i : Int} {Q : DK} : oIx (.lst xs) (.int i) Q ↔ oGet (atI xs i) Q := ⟨fun h => h, fun h => h⟩
@[simp] theorem w_ixT {xs : List D} {i : Int} {Q : DK} : oIx (.tup xs) (.int i) Q ↔ oGet (atI xs i) Q := ⟨fun h => h, fun h => h⟩
@[simp] theorem w_cutL {xs : List D} {lo hi : Option Int} {Q : DK} : oCut (.lst xs) lo hi Q ↔ Q (.lst (cutL xs lo hi)) := ⟨fun h => h, fun h => h⟩
@[simp] theorem w_cutT {xs : List D} {lo hi : Option Int} {Q : DK} : oCut (.tup xs) lo hi Q ↔ Q (.tup (cutL xs lo hi)) := ⟨fun h => h, fun h => h⟩
@[simp] theorem w_lenL {xs : List D} {Q : DK} : fLen [.lst xs] Q ↔ Q (.int xs.length) := ⟨fun h => h, fun h => h⟩
@[simp] theorem w_lenT {xs : List D} {Q : DK} : fLen [.tup xs] Q ↔ Q (.int xs.length) := ⟨fun h => h, fun h => h⟩
@[simp] theorem w_lenS {xs : List Int} {Q : DK} : fLen [.scr xs] Q ↔ Q (.int xs.length) := ⟨fun h => h, fun h => h⟩
@[simp] theorem w_lenK {xs : List (Key × D)} {Q : DK} : fLen [.dk xs] Q ↔ Q (.int xs.length) := ⟨fun h => h, fun h => h⟩
@[simp] theorem w_abs {i : Int} {Q : DK} : fAbs [.int i] Q ↔ Q (.int (if i < 0 then -i else i)) := ⟨fun h => h, fun h => h⟩
@[simp] theorem w_gcd {i j : Int} {Q : DK} : fGcd [.int i, .int j] Q ↔ Q (.int ((Nat.gcd i.natAbs j.natAbs : Nat) : Int)) := ⟨fun h => h, fun h => h⟩
@[simp] theorem w_min2 {i j : Int} {Q : DK} : fMin [.int i, .int j] Q ↔ Q (.int (if j < i then j else i)) := ⟨fun h => h, fun h => h⟩
@[simp] theorem w_max2 {i j : Int} {Q : DK} : fMax [.int i, .int j] Q ↔ Q (.int (if j > i then j else i)) := ⟨fun h => h, fun h => h⟩
@[simp] theorem w_listL {l : List D} {Q : DK} : fList [.lst l] Q ↔ Q (.lst l) := ⟨fun h => h, fun h => h⟩
@[simp] theorem w_listT {l : List D} {Q : DK} : fList [.tup l] Q ↔ Q (.lst l) := ⟨fun h => h, fun h => h⟩
@[simp] theorem w_tupleL {l : List D} {Q : DK} : fTuple [.lst l] Q ↔ Q (.tup l) := ⟨fun h => h, fun h => h⟩
@[simp] theorem w_tupleT {l : List D} {Q : DK} : fTuple [.tup l] Q ↔ Q (.tup l) := ⟨fun h => h, fun h => h⟩
@[simp] theorem w_int {i : Int} {Q : DK} : fInt [.int i] Q ↔ Q (.int i) := ⟨fun h => h, fun h => h⟩
@[simp] theorem w_intB {b : Bool} {Q : DK} : fInt [.bl b] Q ↔ Q (.int (if b then 1 else 0)) := ⟨fun h => h, fun h => h⟩
@[simp] theorem w_str {i : Int} {Q : DK} : fStr [.int i] Q ↔ i.natAbs.log2 < 1920 ∧ Q (.str (Str.ofString (toString i))) := ⟨fun h => h, fun h => h⟩
@[simp] theorem w_divmod {i j : Int} {Q : DK} : fDivmod [.int i, .int j] Q ↔ (0 < j ∧ j < 1073741824) ∧ Q (.tup [.int (i / j), .int (i % j)]) := ⟨fun h => h, fun h => h⟩
@[simp] theorem tr_b {b : Bool} {Q : Bool → Prop} : truthD (.bl b) Q ↔ Q b := ⟨fun h => h, fun h => h⟩
@[simp] theorem tr_n {Q : Bool → Prop} : truthD .non Q ↔ Q false := ⟨fun h => h, fun h => h⟩
@[simp] theorem tr_i {i : Int} {Q : Bool → Prop} : truthD (.int i) Q ↔ Q (i != 0) := ⟨fun h => h, fun h => h⟩
@[simp] theorem tr_l {xs : List D} {Q : Bool → Prop} : truthD (.lst xs) Q ↔ Q (!xs.isEmpty) := ⟨fun h => h, fun h => h⟩
@[simp] theorem tr_t {xs : List D} {Q : Bool → Prop} : truthD (.tup xs) Q ↔ Q (!xs.isEmpty) := ⟨fun h => h, fun h => h⟩
@[simp] theorem ok_int {n : Nat} {i : Int} : okD n (.int i) = true := by cases n <;> simp [okD]
@[simp] theorem ok_bl {n : Nat} {i : Bool} : okD n (.bl i) = true := by cases n <;> simp [okD]
@[simp] theorem ok_non {n : Nat} : okD n .non = true := by cases n <;> simp [okD]
@[simp] theorem ok_tup {n : Nat} {xs : List D} : okD (n + 1) (.tup xs) = okDs n xs := by simp [okD]
@[simp] theorem ok_lst {n : Nat} {xs : List D} : okD (n + 1) (.lst xs) = okDs n xs := by simp [okD]
@[simp] theorem oks_nil {n : Nat} : okDs n [] = true := by simp [okDs]
@[simp] theorem oks_cons {n : Nat} {x : D} {xs : List D} : okDs n (x :: xs) = (okD n x && okDs n xs) := by simp [okDs]
@[simp] theorem eq_int {i j : Int} : eqD (.int i) (.int j) = decide (i = j) := by simp [eqD]; rfl
@[simp] theorem eq_bl {i j : Bool} : eqD (.bl i) (.bl j) = (i == j) := by simp [eqD]
@[simp] theorem eq_non : eqD .non .non = true := by simp [eqD]
@[simp] theorem eq_tup {xs ys : List D} : eqD (.tup xs) (.tup ys) = eqDs xs ys := by simp [eqD]
@[simp] theorem eq_lst {xs ys : List D} : eqD (.lst xs) (.lst ys) = eqDs xs ys := by simp [eqD]
@[simp] theorem eq_tn {xs : List D} : eqD (.tup xs) .non = false := by simp [eqD]
@[simp] theorem eq_nt {xs : List D} : eqD .non (.tup xs) = false := by simp [eqD]
@[simp] theorem eqs_nil : eqDs [] [] = true := by simp [eqDs]
@[simp] theorem eqs_cons {x y : D} {xs ys : List D} : eqDs (x :: xs) (y :: ys) = (eqD x y && eqDs xs ys) := by simp [eqDs]
@[simp] theorem fl_int {i : Int} : isFlat (.int i) = true := rfl
@[simp] theorem fl_bl {i : Bool} : isFlat (.bl i) = true := rfl
@[simp] theorem fl_non : isFlat .non = true := rfl
@[simp] theorem fl_str {x : Str} : isFlat (.str x) = true := rfl
@[simp] theorem non_non : isNon .non = true := rfl
@[simp] theorem non_int {i : Int} : isNon (.int i) = false := rfl
@[simp] theorem non_tup {i : List D} : isNon (.tup i) = false := rfl
@[simp] theorem non_lst {i : List D} : isNon (.lst i) = false := rfl
mutual
/-- == of data with itself, where it is known -/
theorem eqD_self : ∀ (n : Nat) (d : D), okD n d = true → eqD d d = true
  | _, .non, _ => by simp [eqD]
  | _, .bl _, _ => by simp [eqD]
  | _, .int _, _ => by simp [eqD]
  | _, .str _, _ => by simp [eqD]
  | 0, .tup _, h => by simp [okD] at h
  | n + 1, .tup xs, h => by
    simp only [okD] at h
    simpa [eqD] using eqDs_self n xs h
  | 0, .lst _, h => by simp [okD] at h
  | n + 1, .lst xs, h => by
    simp only [okD] at h
    simpa [eqD] using eqDs_self n xs h
  | n, .dk _, h => by cases n <;> simp [okD] at h
  | n, .dt _, h => by cases n <;> simp [okD] at h
  | n, .ins _ _, h => by cases n <;> simp [okD] at h
  | n, .st, h => by cases n <;> simp [okD] at h
  | n, .scr _, h => by cases n <;> simp [okD] at h
  | n, .fn _, h => by cases n <;> simp [okD] at h
theorem eqDs_self : ∀ (n : Nat) (d : List D), okDs n d = true → eqDs d d = true
  | _, [], _ => by simp [eqDs]
  | n, x :: xs, h => by
    simp only [okDs, Bool.and_eq_true] at h
    simp only [eqDs, Bool.and_eq_true]
    exact ⟨eqD_self n x h.1, eqDs_self n xs h.2⟩
end
@[simp] theorem log_lit {b : Int} (h0 : 0 ≤ b) (h : b < 1000000000000000000) : b.natAbs.log2 < 9000 := by
  have h1 : b.natAbs < 2 ^ 64 := by omega
  have h2 : b.natAbs.log2 < 64 ∨ b.natAbs = 0 := by
    by_cases z : b.natAbs = 0
    · exact .inr z
    · exact .inl ((Nat.log2_lt z).mpr h1)
  rcases h2 with z | z
  · omega
  · rw [z]
    decide
@[simp] theorem log_nat {n : Nat} (h : n < 1000000000000000000) : n.log2 < 9000 := by
  by_cases z : n = 0
  · rw [z]
    decide
  · have : n.log2 < 64 := (Nat.log2_lt z).mpr (by omega)
    omega
theorem two_le_line {n : Nat} (h : n ≤ 1000000) : n ≤ lineMax := Nat.le_trans h (by decide)
theorem lit_line : lineMax = 16777216 := rfl
@[simp] theorem le_line {n : Nat} : n ≤ lineMax ↔ n ≤ 16777216 := Iff.rfl
@[simp] theorem lt_line {n : Nat} : n < lineMax ↔ n < 16777216 := Iff.rfl
@[simp] theorem inD_nil {x : D} : inD x [] = false := rfl
@[simp] theorem inD_cons {x y : D} {ys : List D} : inD x (y :: ys) = (eqD y x || inD x ys) := rfl
theorem ixN_pos {n : Nat} {i : Int} (h0 : 0 ≤ i) (h : i < n) : ixN n i = some i.toNat := by
  unfold ixN
  rw [if_pos h0, if_pos h]
theorem ixN_neg {n : Nat} {i : Int} (h0 : i < 0) (h : -(n : Int) ≤ i) : ixN n i = some (i + n).toNat := by
  unfold ixN
  rw [if_neg (by omega), if_pos h]
theorem atI_pos {α : Type} {xs : List α} {i : Int} (h0 : 0 ≤ i) (h : i < xs.length) : atI xs i = some (xs[i.toNat]'(by omega)) := by
  unfold atI
  rw [ixN_pos h0 h]
  show xs[i.toNat]? = _
  exact List.getElem?_eq_getElem (by omega)
theorem atI_nat {α : Type} {xs : List α} {i : Nat} (h : i < xs.length) : atI xs (i : Int) = some xs[i] := by
  rw [atI_pos (by omega) (by omega)]
  simp
/-- xs[-1] -/
theorem atI_last {α : Type} {xs : List α} {x : α} : atI (xs ++ [x]) (-1) = some x := by
  unfold atI
  rw [ixN_neg (by omega) (by simp; omega)]
  have : (-1 + ((xs ++ [x]).length : Int)).toNat = xs.length := by
    simp only [List.length_append, List.length_singleton]
    omega
  rw [this]
  simp
@[simp] theorem atI_lit0 {α : Type} {x : α} {xs : List α} : atI (x :: xs) 0 = some x := by
  rw [atI_pos (by omega) (by simp)]
  simp
@[simp] theorem atI_lit1 {α : Type} {x y : α} {xs : List α} : atI (x :: y :: xs) 1 = some y := by
  rw [atI_pos (by omega) (by simp; omega)]
  simp
@[simp] theorem atI_lit2 {α : Type} {x y z : α} {xs : List α} : atI (x :: y :: z :: xs) 2 = some z := by
  rw [atI_pos (by omega) (by simp; omega)]
  simp
@[simp] theorem atI_lit3 {α : Type} {x y z u : α} {xs : List α} : atI (x :: y :: z :: u :: xs) 3 = some u := by
  rw [atI_pos (by omega) (by simp; omega)]
  simp
theorem get_any {xs : List D} {i : Int} {Q : DK} (h0 : 0 ≤ i) (h1 : i < xs.length) (q : ∀ x ∈ xs, Q x) : oGet (atI xs i) Q := by
  rw [atI_pos h0 h1]
  exact q _ (List.getElem_mem _)
theorem intsOf_map (ns : List Int) : intsOf (ns.map D.int) = some ns := by
  induction ns with
  | nil => rfl
  | cons n r ih => simp [intsOf, ih]
theorem fMax_ints {ns : List Int} {Q : DK} (h : ns ≠ []) (q : ∀ m ∈ ns, (∀ y ∈ ns, y ≤ m) → Q (.int m)) : fMax [.lst (ns.map D.int)] Q := by
  show match intsOf (ns.map D.int) with
    | some ns => ns ≠ [] ∧ ∀ m, m ∈ ns → (∀ y ∈ ns, y ≤ m) → Q (.int m)
    | none => False
  rw [intsOf_map]
  exact ⟨h, q⟩
theorem fMin_ints {ns : List Int} {Q : DK} (h : ns ≠ []) (q : ∀ m ∈ ns, (∀ y ∈ ns, m ≤ y) → Q (.int m)) : fMin [.lst (ns.map D.int)] Q := by
  show match intsOf (ns.map D.int) with
    | some ns => ns ≠ [] ∧ ∀ m, m ∈ ns → (∀ y ∈ ns, m ≤ y) → Q (.int m)
    | none => False
  rw [intsOf_map]
  exact ⟨h, q⟩
theorem fSum_ints {ns : List Int} {Q : DK} (q : Q (.int ns.sum)) : fSum [.lst (ns.map D.int)] Q := by
  show match intsOf (ns.map D.int) with
    | some ns => Q (.int ns.sum)
    | none => False
  rw [intsOf_map]
  exact q
theorem fSumT_ints {ns : List Int} {Q : DK} (q : Q (.int ns.sum)) : fSum [.tup (ns.map D.int)] Q := by
  simp only [fSum, intsOf_map]
  exact q
theorem fSum_map {α : Type} {xs : List α} {f : α → Int} {Q : DK} (q : Q (.int (xs.map f).sum)) : fSum [.lst (xs.map fun x => D.int (f x))] Q := by
  have := fSum_ints (ns := xs.map f) (Q := Q) q
  rw [List.map_map] at this
  exact this
theorem blsOf_map (ns : List Bool) : blsOf (ns.map D.bl) = some ns := by
  induction ns with
  | nil => rfl
  | cons n r ih => simp [blsOf, ih]
theorem fAll_bls {ns : List Bool} {Q : DK} (q : Q (.bl (ns.all id))) : fAll [.lst (ns.map D.bl)] Q := by
  show match blsOf (ns.map D.bl) with
    | some ns => Q (.bl (ns.all id))
    | none => False
  rw [blsOf_map]
  exact q
theorem fAny_bls {ns : List Bool} {Q : DK} (q : Q (.bl (ns.any id))) : fAny [.lst (ns.map D.bl)] Q := by
  show match blsOf (ns.map D.bl) with
    | some ns => Q (.bl (ns.any id))
    | none => False
  rw [blsOf_map]
  exact q
theorem fAll_map {α : Type} {xs : List α} {f : α → Bool} {Q : DK} (q : Q (.bl (xs.all f))) : fAll [.lst (xs.map fun x => D.bl (f x))] Q := by
  have := fAll_bls (ns := xs.map f) (Q := Q) (by simpa using q)
  rw [List.map_map] at this
  exact this
theorem fAny_map {α : Type} {xs : List α} {f : α → Bool} {Q : DK} (q : Q (.bl (xs.any f))) : fAny [.lst (xs.map fun x => D.bl (f x))] Q := by
  have := fAny_bls (ns := xs.map f) (Q := Q) (by simpa using q)
  rw [List.map_map] at this
  exact this
/-- cuts by small places -/
theorem sIx_nat (n d k : Nat) : sIx n d (some (k : Int)) = min k n := by
  show (if (k : Int) < 0 then ((k : Int) + n).toNat else min (k : Int).toNat n) = _
  rw [if_neg (by omega), Int.toNat_natCast]
theorem cutL_to {α : Type} (xs : List α) (n : Nat) : cutL xs none (some (n : Int)) = xs.take n := by
  unfold cutL
  rw [sIx_nat]
  show (xs.drop 0).take (min n xs.length - 0) = _
  rw [List.drop_zero, Nat.sub_zero]
  by_cases h : n ≤ xs.length
  · rw [Nat.min_eq_left h]
  · rw [Nat.min_eq_right (by omega), List.take_of_length_le (Nat.le_refl _), List.take_of_length_le (by omega)]
theorem cutL_from {α : Type} (xs : List α) (n : Nat) : cutL xs (some (n : Int)) none = xs.drop n := by
  unfold cutL
  rw [sIx_nat]
  show (xs.drop (min n xs.length)).take (xs.length - min n xs.length) = _
  rw [List.take_of_length_le (by rw [List.length_drop]; omega)]
  by_cases h : n ≤ xs.length
  · rw [Nat.min_eq_left h]
  · rw [Nat.min_eq_right (by omega), List.drop_of_length_le (Nat.le_refl _), List.drop_of_length_le (by omega)]
theorem cutL_to1 {α : Type} (xs : List α) : cutL xs none (some 1) = xs.take 1 := cutL_to xs 1
theorem cutL_from1 {α : Type} (xs : List α) : cutL xs (some 1) none = xs.drop 1 := cutL_from xs 1
theorem rngx_get {lo : Int} {n i : Nat} {x : D} (h : (rng lo n)[i]? = some x) : i < n ∧ x = .int (lo + i) := by
  unfold rng at h
  rw [List.getElem?_map] at h
  obtain ⟨j, hj, rfl⟩ := Option.map_eq_some_iff.mp h
  obtain ⟨h1, rfl⟩ := List.getElem?_eq_some_iff.mp hj
  simp at h1
  exact ⟨h1, by simp⟩
@[simp] theorem rngx_len {lo : Int} {n : Nat} : (rng lo n).length = n := by simp [rng]
theorem ite2' {c A B : Prop} [Decidable c] (h1 : c → A) (h2 : ¬ c → B) : if c then A else B := by
  split
  · exact h1 (by assumption)
  · exact h2 (by assumption)
/-! ### calls -/
theorem up_use {W : DF} {ds : List D} {R : DK} {F : Err → Prop} {Q : DK} {E : Err → Prop} (h : W ds R F) (hq : ∀ d, R d → Q d) (he : ∀ e, F e → E e) : up W ds Q E := ⟨R, F, h, hq, he⟩
/-- a def that lets nothing out -/
theorem up_use0 {W : DF} {ds : List D} {R : DK} {Q : DK} {E : Err → Prop} (h : W ds R fun _ => False) (hq : ∀ d, R d → Q d) : up W ds Q E := ⟨R, _, h, hq, fun _ z => z.elim⟩
@[simp] theorem up_start {ns : List Int} {Q : DK} {E : Err → Prop} : up wStart [.scr ns] Q E ↔ ns.length ≤ 63 ∧ Q .st :=
  ⟨fun ⟨_, _, h, a, _⟩ => ⟨h.1, a _ h.2⟩, fun h => ⟨Q, E, h, fun _ z => z, fun _ z => z⟩⟩
@[simp] theorem up_draw {b : Int} {Q : DK} {E : Err → Prop} : up wDraw [.st, .int b] Q E ↔ 0 < b ∧ b.natAbs.log2 < 9000 ∧ ∀ r, 0 ≤ r → r < b → Q (.int r) :=
  ⟨fun ⟨_, _, h, a, _⟩ => ⟨h.1, h.2.1, fun r h0 h1 => a _ (h.2.2 r h0 h1)⟩, fun h => ⟨Q, E, h, fun _ z => z, fun _ z => z⟩⟩
/-! ### loops -/
theorem forL_inv {g : DG} {b : DS} {E : EK} {K : DE} (I : Nat → Env → Prop) {xs : List D} {ρ : Env} (h0 : I 0 ρ)
    (step : ∀ i x ρ (nx : Env → Prop), xs[i]? = some x → I i ρ → (∀ ρ', I (i + 1) ρ' → nx ρ') → g x ρ fun ρ' => b E { nx := nx, ct := nx, bk := K.nx, rt := K.rt, ro := K.ro } ρ')
    (fin : ∀ ρ, I xs.length ρ → K.nx ρ) : forL g b E K xs ρ := by
  have go : ∀ (r : List D) (i : Nat) (ρ : Env), xs.drop i = r → i ≤ xs.length → I i ρ → forL g b E K r ρ := by
    intro r
    induction r with
    | nil =>
      intro i ρ e hi h
      have : i = xs.length := by
        have := congrArg List.length e
        simp at this
        omega
      subst this
      exact fin ρ h
    | cons x r ih =>
      intro i ρ e hi h
      have hx : xs[i]? = some x := by
        have := congrArg (·[0]?) e
        simpa using this
      have e' : xs.drop (i + 1) = r := by
        have := congrArg List.tail e
        simpa [List.tail_drop] using this
      have hi' : i < xs.length := (List.getElem?_eq_some_iff.mp hx).1
      exact step i x ρ (forL g b E K r) hx h fun ρ' q => ih (i + 1) ρ' e' hi' q
  exact go xs 0 ρ rfl (Nat.zero_le _) h0
/-- a comprehension, turn by turn -/
theorem lcL_inv {g : DG} {t : DB} {e : DT} {ρ : Env} (I : Nat → List D → Prop) {xs : List D} {Q : List D → Prop} (h0 : I 0 [])
    (h : ∀ i x acc (A : DK) (R : Prop), xs[i]? = some x → I i acc → (∀ y, I (i + 1) (acc ++ [y]) → A y) → (I (i + 1) acc → R) → g x ρ fun ρ' => t noE ρ' fun k => if k = true then e noE ρ' A else R)
    (hl : xs.length ≤ lineMax) (q : ∀ r, I xs.length r → Q r) : lcL g t e ρ xs [] Q := by
  have go : ∀ (r acc : List D) (i : Nat), xs.drop i = r → i ≤ xs.length → acc.length ≤ i → I i acc → lcL g t e ρ r acc Q := by
    intro r
    induction r with
    | nil =>
      intro acc i e1 hi _ z
      have : i = xs.length := by
        have := congrArg List.length e1
        simp at this
        omega
      subst this
      exact q acc z
    | cons x r ih =>
      intro acc i e1 hi ha z
      have hx : xs[i]? = some x := by
        have := congrArg (·[0]?) e1
        simpa using this
      have e' : xs.drop (i + 1) = r := by
        have := congrArg List.tail e1
        simpa [List.tail_drop] using this
      have hi' : i < xs.length := (List.getElem?_eq_some_iff.mp hx).1
      exact h i x acc (fun y => acc.length < lineMax ∧ lcL g t e ρ r (acc ++ [y]) Q) (lcL g t e ρ r acc Q) hx z (fun y z => ⟨Nat.lt_of_lt_of_le (Nat.lt_of_le_of_lt ha hi') hl, ih _ (i + 1) e' hi' (by simp; omega) z⟩) fun z => ih _ (i + 1) e' hi' (by omega) z
  exact go xs [] 0 rfl (Nat.zero_le _) (Nat.le_refl _) h0
/-- one that maps -/
theorem lcL_map {g : DG} {t : DB} {e : DT} {ρ : Env} (f : D → D) {xs : List D} {Q : List D → Prop} (h : ∀ x ∈ xs, ∀ (A : DK) (R : Prop), A (f x) → g x ρ fun ρ' => t noE ρ' fun k => if k = true then e noE ρ' A else R)
    (hl : xs.length ≤ lineMax) (q : Q (xs.map f)) : lcL g t e ρ xs [] Q := by
  refine lcL_inv (fun i acc => acc = (xs.take i).map f) rfl (fun i x acc A R hx ha y n => ?_) hl fun r hr => ?_
  · refine h x (List.mem_of_getElem? hx) A R (y _ ?_)
    rw [ha, List.take_add_one, hx]
    simp
  · rw [hr, List.take_length]
    exact q
/-- one that keeps some and maps -/
theorem lcL_fm {g : DG} {t : DB} {e : DT} {ρ : Env} (f : D → Option D) {xs : List D} {Q : List D → Prop} (h : ∀ x ∈ xs, ∀ (A : DK) (R : Prop), (∀ y, f x = some y → A y) → (f x = none → R) → g x ρ fun ρ' => t noE ρ' fun k => if k = true then e noE ρ' A else R)
    (hl : xs.length ≤ lineMax) (q : Q (xs.filterMap f)) : lcL g t e ρ xs [] Q := by
  refine lcL_inv (fun i acc => acc = (xs.take i).filterMap f) rfl (fun i x acc A R hx ha y n => ?_) hl fun r hr => ?_
  · refine h x (List.mem_of_getElem? hx) A R (fun z hz => y z ?_) fun hz => n ?_
    · rw [ha, List.take_add_one, hx]
      simp [hz]
    · rw [ha, List.take_add_one, hx]
      simp [hz]
  · rw [hr, List.take_length]
    exact q
/-! ### string literals -/
theorem ofS_eq {a b : String} : (Str.ofString a = Str.ofString b) ↔ a = b := by
  refine ⟨fun h => ?_, fun h => by rw [h]⟩
  rw [Str.ofString_eq_toList, Str.ofString_eq_toList] at h
  have h1 : a.toList.map Char.toNat = b.toList.map Char.toNat := by simpa using h
  have h2 : a.toList = b.toList := by
    have inj : ∀ (x y : List Char), x.map Char.toNat = y.map Char.toNat → x = y := by
      intro x
      induction x with
      | nil => intro y h; cases y with
        | nil => rfl
        | cons _ _ => simp at h
      | cons c x ih => intro y h; cases y with
        | nil => simp at h
        | cons d y =>
          simp only [List.map_cons, List.cons.injEq] at h
          rw [ih y h.2, Char.toNat_inj.mp h.1]
    exact inj _ _ h1
  exact String.toList_inj.mp h2
@[simp] theorem ofS_eq_lit {a b : String} : (Str.ofString a = Str.ofString b) ↔ a = b := ofS_eq
@[simp] theorem ofS_beq {a b : String} : (Str.ofString a == Str.ofString b) = (a == b) := by
  rw [Bool.eq_iff_iff, beq_iff_eq, beq_iff_eq]
  exact ofS_eq
theorem ok_str {n : Nat} {x : Str} : okD n (.str x) = x.cps.all (· < 0x110000) := by cases n <;> simp [okD]
@[simp] theorem ok_lit {n : Nat} {a : String} : okD n (.str (Str.ofString a)) = true := by
  rw [ok_str, Str.ofString_eq_toList]
  simp
  intro c _
  have := c.valid
  simp only [UInt32.isValidChar, Nat.isValidChar] at this
  show c.val.toNat < 1114112
  omega
@[simp] theorem eq_str {a b : Str} : eqD (.str a) (.str b) = (a == b) := by simp [eqD]
/-! fields -/
@[simp] theorem put_nil {f : Str} {v : D} : putFD f v [] = [(f, v)] := rfl
@[simp] theorem put_cons {f g : Str} {v x : D} {r : List (Str × D)} : putFD f v ((g, x) :: r) = if g = f then (g, v) :: r else (g, x) :: putFD f v r := rfl
@[simp] theorem look_nil {f : Str} : List.lookup f ([] : List (Str × D)) = none := rfl
@[simp] theorem look_cons {f g : Str} {x : D} {r : List (Str × D)} : List.lookup f ((g, x) :: r) = if f = g then some x else List.lookup f r := by
  rw [List.lookup_cons]
  by_cases h : f = g
  · simp [h]
  · have : (f == g) = false := by simpa using h
    simp [h, this]
def noFld (m : Str) (fs : List (Str × D)) : Prop := fs.lookup m = none
@[simp] theorem noFld_nil {m : Str} : noFld m [] := rfl
@[simp] theorem noFld_cons {m g : Str} {x : D} {r : List (Str × D)} : noFld m ((g, x) :: r) ↔ ¬ m = g ∧ noFld m r := by
  unfold noFld
  rw [look_cons]
  by_cases h : m = g <;> simp [h]
@[simp] theorem w_meth {c : String} {m : Str} {W : DF} {a : DT} {r : DA} {E : EK} {ρ : DL.Env} {Q : DK} : dMeth c m W a r E ρ Q ↔ a E ρ fun x => gIns c x fun fs => noFld m fs ∧ r E ρ fun xs => up W (.ins c fs :: xs) Q fun _ => False := by
  unfold dMeth gIns noFld
  exact Iff.of_eq (congrArg _ (funext fun x => by
    cases x <;> first | rfl | skip
    rename_i c' l
    by_cases h : c' = c
    · subst h; simp [and_assoc]
    · simp [h]))
@[simp] theorem lcD_nil {g : DG} {t : DB} {e : DT} {ρ : DL.Env} {acc : List D} {Q : List D → Prop} : lcL g t e ρ [] acc Q ↔ Q acc := ⟨fun h => h, fun h => h⟩
theorem lcD_cons {g : DG} {t : DB} {e : DT} {ρ : DL.Env} {x : D} {r acc : List D} {Q : List D → Prop} : lcL g t e ρ (x :: r) acc Q ↔ g x ρ fun ρ' => t noE ρ' fun k => if k = true then e noE ρ' fun y => acc.length < lineMax ∧ lcL g t e ρ r (acc ++ [y]) Q else lcL g t e ρ r acc Q := ⟨fun h => h, fun h => h⟩
@[simp] theorem cut1 {α : Type} {x : α} {xs : List α} : cutL (x :: xs) (some 1) none = xs := by rw [cutL_from1]; rfl
/-- a comprehension over encoded things -/
theorem lcD_list {α : Type} {g : DG} {t : DB} {e : DT} {ρ : DL.Env} (en : α → D) (f : α → D) {Q : List D → Prop} : ∀ (xs : List α) (acc : List D), (∀ x ∈ xs, ∀ (A : DK) (R : Prop), A (f x) → g (en x) ρ fun ρ' => t noE ρ' fun k => if k = true then e noE ρ' A else R) →
    acc.length + xs.length ≤ lineMax → Q (acc ++ xs.map f) → lcL g t e ρ (xs.map en) acc Q
  | [], acc, _, _, q => by simpa using q
  | x :: r, acc, h, hl, q => by
    simp only [List.map_cons, List.length_cons] at *
    rw [lcD_cons]
    have hh : lineMax = 16777216 := rfl
    refine h x (by simp) _ _ ⟨by omega, lcD_list en f r (acc ++ [f x]) (fun y hy => h y (by simp [hy])) (by simp; omega) (by simpa using q)⟩
/-- one that leaves some out -/
theorem lcD_fm {α : Type} {g : DG} {t : DB} {e : DT} {ρ : DL.Env} (en : α → D) (f : α → Option D) {Q : List D → Prop} : ∀ (xs : List α) (acc : List D), (∀ x ∈ xs, ∀ (A : DK) (R : Prop), (∀ y, f x = some y → A y) → (f x = none → R) → g (en x) ρ fun ρ' => t noE ρ' fun k => if k = true then e noE ρ' A else R) →
    acc.length + xs.length ≤ lineMax → Q (acc ++ xs.filterMap f) → lcL g t e ρ (xs.map en) acc Q
  | [], acc, _, _, q => by simpa using q
  | x :: r, acc, h, hl, q => by
    simp only [List.map_cons, List.length_cons] at *
    rw [lcD_cons]
    have hh : lineMax = 16777216 := rfl
    refine h x (by simp) _ _ (fun y hy => ⟨by omega, lcD_fm en f r (acc ++ [y]) (fun z hz => h z (by simp [hz])) (by simp; omega) ?_⟩) (fun hy => lcD_fm en f r acc (fun z hz => h z (by simp [hz])) (by omega) ?_)
    · rw [List.filterMap_cons_some hy] at q
      simpa using q
    · rw [List.filterMap_cons_none hy] at q
      exact q
theorem imp_use {W : DF} {ds : List D} {R R' : DK} (h : W ds R fun _ => False) (hq : ∀ d, R d → R' d) : up W ds R' fun _ => False := ⟨R, _, h, hq, fun _ z => z⟩
theorem up_gen {G : Nat → DF} {N n : Nat} {ds : List D} {R Q : DK} {E : Err → Prop} (hn : n ≤ N) (h : G n ds R fun _ => False) (hq : ∀ d, R d → Q d) : up (upN G N) ds Q E := ⟨R, _, ⟨n, hn, h⟩, hq, fun _ z => z.elim⟩
/-- a while loop: what holds at its head, and what shrinks -/
theorem while_inv {c : DB} {b : DS} {E : EK} {K : DE} (I : Nat → DL.Env → Prop) {ρ : DL.Env} {m : Nat} (h0 : I m ρ)
    (step : ∀ m ρ (nx : DL.Env → Prop), I m ρ → (∀ m' ρ', m' < m → I m' ρ' → nx ρ') → c E ρ fun k => if k = true then b E { nx := nx, ct := nx, bk := K.nx, rt := K.rt, ro := K.ro } ρ else K.nx ρ) : ∃ n, whileN c b E K n ρ := by
  have go : ∀ n m ρ, m < n → I m ρ → whileN c b E K n ρ := by
    intro n
    induction n with
    | zero => intro m ρ h; omega
    | succ n ih => intro m ρ h hi; exact step m ρ _ hi fun m' ρ' hm h' => ih m' ρ' (by omega) h'
  exact ⟨m + 1, go _ m ρ (by omega) h0⟩
@[simp] theorem eq_tl {a : List D} {b : List D} : eqD (.tup a) (.lst b) = false := by simp [eqD]
@[simp] theorem eq_ts {a : List D} {b : Str} : eqD (.tup a) (.str b) = false := by simp [eqD]
@[simp] theorem eq_ti {a : List D} {b : Int} : eqD (.tup a) (.int b) = false := by simp [eqD]
@[simp] theorem eq_lt {a : List D} {b : List D} : eqD (.lst a) (.tup b) = false := by simp [eqD]
@[simp] theorem eq_ls {a : List D} {b : Str} : eqD (.lst a) (.str b) = false := by simp [eqD]
@[simp] theorem eq_li {a : List D} {b : Int} : eqD (.lst a) (.int b) = false := by simp [eqD]
@[simp] theorem eq_ln {a : List D} : eqD (.lst a) .non = false := by simp [eqD]
@[simp] theorem eq_st {a : Str} {b : List D} : eqD (.str a) (.tup b) = false := by simp [eqD]
@[simp] theorem eq_sl {a : Str} {b : List D} : eqD (.str a) (.lst b) = false := by simp [eqD]
@[simp] theorem eq_si {a : Str} {b : Int} : eqD (.str a) (.int b) = false := by simp [eqD]
@[simp] theorem eq_sn {a : Str} : eqD (.str a) .non = false := by simp [eqD]
@[simp] theorem eq_it {a : Int} {b : List D} : eqD (.int a) (.tup b) = false := by simp [eqD]
@[simp] theorem eq_il {a : Int} {b : List D} : eqD (.int a) (.lst b) = false := by simp [eqD]
@[simp] theorem eq_is {a : Int} {b : Str} : eqD (.int a) (.str b) = false := by simp [eqD]
@[simp] theorem eq_in {a : Int} : eqD (.int a) .non = false := by simp [eqD]
@[simp] theorem eq_nl {b : List D} : eqD .non (.lst b) = false := by simp [eqD]
@[simp] theorem eq_ns {b : Str} : eqD .non (.str b) = false := by simp [eqD]
@[simp] theorem eq_ni {b : Int} : eqD .non (.int b) = false := by simp [eqD]
@[simp] theorem w_listS {ns : List Int} {Q : DK} : fList [.scr ns] Q ↔ Q (.lst (ns.map .int)) := ⟨fun h => h, fun h => h⟩
@[simp] theorem w_listK {l : List (Key × D)} {Q : DK} : fList [.dk l] Q ↔ Q (.lst (l.map fun kv => keyD kv.1)) := ⟨fun h => h, fun h => h⟩
@[simp] theorem w_keyO {i : Nat} {E : EK} {ρ : DL.Env} {Q : List D → Prop} : iKeyO i E ρ Q ↔ gOD ρ[i]? fun kvs => Q (kvs.map fun kv => keyD kv.1) := ⟨fun h => h, fun h => h⟩
@[simp] theorem keyD_l {i : Int} : keyD (.inl i) = .int i := rfl
@[simp] theorem keyD_r {i : Str} : keyD (.inr i) = .str i := rfl
theorem fSorted_keys {kvs : List (Key × D)} {ns : List Int} {Q : DK} (h : ikeys kvs = some ns) (hl : ns.length < 64) (q : ∀ ns' : List Int, ns'.Perm ns → ns'.Pairwise (· ≤ ·) → Q (.lst (ns'.map D.int))) : fSorted [.dk kvs] Q := by
  simp only [fSorted, h]
  exact ⟨hl, q⟩
theorem oks_map {n : Nat} {α : Type} {f : α → D} {xs : List α} (h : ∀ x ∈ xs, okD n (f x) = true) : okDs n (xs.map f) = true := by
  induction xs with
  | nil => simp
  | cons x r ih => simp [h x (by simp), ih fun y hy => h y (by simp [hy])]
@[simp] theorem oks_ints {n : Nat} {xs : List Int} : okDs n (xs.map D.int) = true := oks_map fun _ _ => by simp
/-! ### errors -/
@[simp] theorem w_raise {c : String} {fs : List Str} {a : DA} {E : EK} {K : DE} {ρ : DL.Env} : sRaise c fs a E K ρ ↔ a E ρ fun xs => xs.length = fs.length ∧ (∀ x ∈ xs, okE x) ∧ E ⟨c, (fs.zip xs).reverse⟩ ρ := ⟨fun h => h, fun h => h⟩
@[simp] theorem w_tryR {m : String} {os : List String} {i : Nat} {f : Str} {b : DS} {E : EK} {K : DE} {ρ : DL.Env} : sTryR m os i f b E K ρ ↔ b (fun e ρ' => if e.cls = m then i < ρ'.length ∧ oGet (e.fs.lookup f) K.rt else e.cls ∈ os ∧ E e ρ') K ρ := ⟨fun h => h, fun h => h⟩
@[simp] theorem w_try {ms os : List String} {b s : DS} {E : EK} {K : DE} {ρ : DL.Env} : sTry ms os b s E K ρ ↔ b (fun e ρ' => if e.cls ∈ ms then s noE K ρ' else e.cls ∈ os ∧ E e ρ') K ρ := ⟨fun h => h, fun h => h⟩
theorem okE_lit {a : String} (h : a.length ≤ 1000) : okE (.str (Str.ofString a)) := by
  refine ⟨by rw [Str.ofString_eq_toList]; simp only [Str.length, List.size_toArray, List.length_map]; rw [String.length_toList]; exact h, fun c hc => ?_⟩
  have := ok_lit (n := 0) (a := a)
  rw [ok_str] at this
  have := Array.all_eq_true_iff_forall_mem.mp this c (by simpa using hc)
  simp at this
  omega
@[simp] theorem okE_int {i : Int} : okE (.int i) ↔ i.natAbs.log2 < 1920 := ⟨fun h => h, fun h => h⟩
/-! ### loops over encoded things -/
theorem forL_list {α : Type} (en : α → D) {g : DG} {b : DS} {E : EK} {K : DE} (I : Nat → Env → Prop) {xs : List α} {ρ : Env} (h0 : I 0 ρ)
    (step : ∀ i x ρ (nx : Env → Prop), xs[i]? = some x → I i ρ → (∀ ρ', I (i + 1) ρ' → nx ρ') → g (en x) ρ fun ρ' => b E { nx := nx, ct := nx, bk := K.nx, rt := K.rt, ro := K.ro } ρ')
    (fin : ∀ ρ, I xs.length ρ → K.nx ρ) : forL g b E K (xs.map en) ρ := by
  refine forL_inv I h0 (fun i x ρ nx hx hi hn => ?_) (fun ρ h => fin ρ (by simpa using h))
  rw [List.getElem?_map] at hx
  obtain ⟨y, hy, rfl⟩ := Option.map_eq_some_iff.mp hx
  exact step i y ρ nx hy hi hn
theorem forL_rng {lo : Int} {n : Nat} {g : DG} {b : DS} {E : EK} {K : DE} (I : Nat → Env → Prop) {ρ : Env} (h0 : I 0 ρ)
    (step : ∀ i ρ (nx : Env → Prop), i < n → I i ρ → (∀ ρ', I (i + 1) ρ' → nx ρ') → g (.int (lo + i)) ρ fun ρ' => b E { nx := nx, ct := nx, bk := K.nx, rt := K.rt, ro := K.ro } ρ')
    (fin : ∀ ρ, I n ρ → K.nx ρ) : forL g b E K (rng lo n) ρ := by
  refine forL_inv I h0 (fun i x ρ nx hx hi hn => ?_) (fun ρ h => fin ρ (by simpa using h))
  obtain ⟨hl, rfl⟩ := rngx_get hx
  exact step i ρ nx hl hi hn
/-- what has been walked, and what is next -/
theorem forL_hist {α : Type} (en : α → D) {g : DG} {b : DS} {E : EK} {K : DE} (I : List α → Env → Prop) {xs : List α} {ρ : Env} (h0 : I [] ρ)
    (step : ∀ hs x ts ρ (nx : Env → Prop), xs = hs ++ x :: ts → I hs ρ → (∀ ρ', I (hs ++ [x]) ρ' → nx ρ') → g (en x) ρ fun ρ' => b E { nx := nx, ct := nx, bk := K.nx, rt := K.rt, ro := K.ro } ρ')
    (fin : ∀ ρ, I xs ρ → K.nx ρ) : forL g b E K (xs.map en) ρ := by
  refine forL_list en (fun i ρ => I (xs.take i) ρ) h0 (fun i x ρ nx hx hi hn => ?_) (fun ρ h => fin ρ (by simpa using h))
  obtain ⟨hl, rfl⟩ := List.getElem?_eq_some_iff.mp hx
  refine step (xs.take i) xs[i] (xs.drop (i + 1)) ρ nx (by rw [List.getElem_cons_drop, List.take_append_drop]) hi fun ρ' h => hn ρ' ?_
  rw [List.take_add_one, hx]
  exact h
theorem lcD_rng {lo : Int} {n : Nat} {g : DG} {t : DB} {e : DT} {ρ : DL.Env} (f : Nat → D) {Q : List D → Prop} (h : ∀ i, i < n → ∀ (A : DK) (R : Prop), A (f i) → g (.int (lo + i)) ρ fun ρ' => t noE ρ' fun k => if k = true then e noE ρ' A else R)
    (hl : n ≤ lineMax) (q : Q ((List.range n).map f)) : lcL g t e ρ (rng lo n) [] Q :=
  lcD_list (fun k : Nat => D.int (lo + k)) f (List.range n) [] (fun k hk A R hA => h k (List.mem_range.mp hk) A R hA) (by simpa using hl) (by simpa using q)
theorem lcD_rngF {lo : Int} {n : Nat} {g : DG} {t : DB} {e : DT} {ρ : DL.Env} (f : Nat → Option D) {Q : List D → Prop} (h : ∀ i, i < n → ∀ (A : DK) (R : Prop), (∀ y, f i = some y → A y) → (f i = none → R) → g (.int (lo + i)) ρ fun ρ' => t noE ρ' fun k => if k = true then e noE ρ' A else R)
    (hl : n ≤ lineMax) (q : Q ((List.range n).filterMap f)) : lcL g t e ρ (rng lo n) [] Q :=
  lcD_fm (fun k : Nat => D.int (lo + k)) f (List.range n) [] (fun k hk A R hA hR => h k (List.mem_range.mp hk) A R hA hR) (by simpa using hl) (by simpa using q)
/-- one that keeps some and maps: by a test and a map -/
theorem lcD_ft {α : Type} {g : DG} {t : DB} {e : DT} {ρ : DL.Env} (en : α → D) (p : α → Bool) (f : α → D) {Q : List D → Prop} (xs : List α) (h : ∀ x ∈ xs, ∀ (A : DK) (R : Prop), (p x = true → A (f x)) → (p x = false → R) → g (en x) ρ fun ρ' => t noE ρ' fun k => if k = true then e noE ρ' A else R)
    (hl : xs.length ≤ lineMax) (q : Q ((xs.filter p).map f)) : lcL g t e ρ (xs.map en) [] Q := by
  refine lcD_fm en (fun x => if p x = true then some (f x) else none) xs [] (fun x hx A R hA hR => h x hx A R (fun z => hA _ (by rw [if_pos z])) (fun z => hR (by rw [if_neg (by simp [z])]))) (by simpa using hl) ?_
  have : xs.filterMap (fun x => if p x = true then some (f x) else none) = (xs.filter p).map f := by
    clear q hl h
    induction xs with
    | nil => rfl
    | cons x r ih => cases h : p x <;> simp [List.filterMap_cons, h, ih]
  rw [this]
  simpa using q
theorem inD_map {α : Type} {x : D} {en : α → D} {xs : List α} : inD x (xs.map en) = xs.any fun y => eqD (en y) x := by
  unfold inD
  rw [List.any_map]
  rfl
theorem oks_any {n : Nat} {xs : List D} (h : ∀ x ∈ xs, okD n x = true) : okDs n xs = true := by
  induction xs with
  | nil => simp
  | cons x r ih => simp [h x (by simp), ih fun y hy => h y (by simp [hy])]
theorem fSetSorted_ints {ns : List Int} {Q : DK} (hl : ns.length ≤ 4000) (q : ∀ ys : List Int, ys.Pairwise (· < ·) → (∀ j, j ∈ ys ↔ j ∈ ns) → Q (.lst (ys.map D.int))) : fSetSorted [.lst (ns.map D.int)] Q := by
  simp only [fSetSorted, intsOf_map]
  exact ⟨hl, q⟩
@[simp] theorem w_listO {i : Nat} {E : EK} {ρ : DL.Env} {Q : DK} : dListO i E ρ Q ↔ gOL ρ[i]? fun xs => Q (.lst xs) := ⟨fun h => h, fun h => h⟩
@[simp] theorem w_tupleO {i : Nat} {E : EK} {ρ : DL.Env} {Q : DK} : dTupleO i E ρ Q ↔ gOL ρ[i]? fun xs => Q (.tup xs) := ⟨fun h => h, fun h => h⟩
/-! ### defs that change what stands at a parameter -/
@[simp] theorem gPair_p {x y : D} {Q : D → D → Prop} : gPair (dPair x y) Q ↔ Q x y := ⟨fun h => h, fun h => h⟩
@[simp] theorem w_retX {a : DT} {E : EK} {K : DE} {ρ : DL.Env} : sRetX a E K ρ ↔ a E ρ fun d => K.ro d ρ := ⟨fun h => h, fun h => h⟩
@[simp] theorem w_retNX {E : EK} {K : DE} {ρ : DL.Env} : sRetNX E K ρ ↔ K.ro .non ρ := ⟨fun h => h, fun h => h⟩
@[simp] theorem w_aOwn {i : Nat} {r : DA} {E : EK} {ρ : DL.Env} {Q : List D → Prop} : aOwn i r E ρ Q ↔ gO ρ[i]? fun d => r E ρ fun xs => Q (d :: xs) := ⟨fun h => h, fun h => h⟩
@[simp] theorem w_callX {i : Nat} {W : DF} {a : DA} {E : EK} {K : DE} {ρ : DL.Env} : sCallX i W a E K ρ ↔ a E ρ fun xs => up W xs (fun r => gPair r fun _ o => K.nx (ρ.set i (.o o))) fun e => E e (ρ.set i .no) := ⟨fun h => h, fun h => h⟩
@[simp] theorem w_callXTo {i k : Nat} {W : DF} {a : DA} {E : EK} {K : DE} {ρ : DL.Env} : sCallXTo i k W a E K ρ ↔ a E ρ fun xs => up W xs (fun r => gPair r fun d o => K.nx ((ρ.set i (.o o)).set k (.v d))) fun e => E e (ρ.set i .no) := ⟨fun h => h, fun h => h⟩
end DL

/-! DCoreM: methods of built-in values, read as plain Lean. -/
namespace DL
open PySem L2
def tyD (T : String) : D → Prop
  | .str _ => T = "str"
  | .lst _ => T = "list"
  | _ => False
/-- x.m(..): f is asked of x and the arguments -/
def dMt (T : String) (f : List D → DK → Prop) (p : DT) (q : DA) : DT := fun E ρ Q => p E ρ fun x => tyD T x ∧ q E ρ fun xs => f (x :: xs) Q
/-- xs.index(x) of ints -/
def fIndex (xs : List D) (Q : DK) : Prop := match xs with
  | [.lst l, x] => isFlat x = true ∧ l.all isFlat = true ∧ ∃ j, (∃ z, l[j]? = some z ∧ eqD z x = true) ∧ (∀ m z, m < j → l[m]? = some z → eqD z x = false) ∧ Q (.int (j : Nat))
  | _ => False
def strsOf : List D → Option (List Str)
  | [] => some []
  | .str x :: r => (strsOf r).map (x :: ·)
  | _ :: _ => none
/-- a test of two texts -/
def fS2 (g : Str → Str → D) (xs : List D) (Q : DK) : Prop := match xs with
  | [.str a, .str b] => Q (g a b)
  | _ => False
def fS1 (C : Str → Prop) (g : Str → D) (xs : List D) (Q : DK) : Prop := match xs with
  | [.str a] => C a ∧ Q (g a)
  | _ => False
def fSplit (xs : List D) (Q : DK) : Prop := match xs with
  | [.str a, .str b] => (b.length == 0) = false ∧ a.length + 2 ≤ lineMax ∧ Q (.lst ((Txt.split a b).map D.str))
  | _ => False
def fJoin (xs : List D) (Q : DK) : Prop := match xs with
  | [.str a, .lst l] => match strsOf l with
    | some ys => (ys.map (·.length)).sum + ys.length * a.length ≤ 16777216 ∧ Q (.str (Txt.join a ys))
    | none => False
  | _ => False
/-- min(xs, default=d) -/
def fMinD (xs zs : List D) (Q : DK) : Prop := match xs, zs with
  | [.lst l], [d] => match intsOf l with
    | some ns => (ns = [] → Q d) ∧ (ns ≠ [] → ∀ m, m ∈ ns → (∀ y, y ∈ ns → m ≤ y) → Q (.int m))
    | none => False
  | _, _ => False
def dMinD (p q : DA) : DT := fun E ρ Q => p E ρ fun xs => q E ρ fun zs => fMinD xs zs Q
/-- xs[::-1] -/
def gRevX (x : D) (Q : DK) : Prop := match x with
  | .lst l => Q (.lst l.reverse)
  | .tup l => Q (.tup l.reverse)
  | _ => False
def dRev (t : DT) : DT := fun E ρ Q => t E ρ fun x => gRevX x Q
/-- a dict comprehension -/
def dcL (g : DG) (t : DB) (k e : DT) (ρ : Env) : List D → List (Key × D) → (List (Key × D) → Prop) → Prop
  | [], acc, Q => Q acc
  | x :: r, acc, Q => g x ρ fun ρ' => t noE ρ' fun b => if b = true then k noE ρ' fun y => e noE ρ' fun z => gK y fun j => acc.length < 1000000 ∧ dcL g t k e ρ r (putD acc j z) Q else dcL g t k e ρ r acc Q
def dDc (it : DI) (g : DG) (t : DB) (k e : DT) (vs : List Nat) : DT := fun E ρ Q => it E ρ fun xs => dcL g t k e (noOwn (wipeE ρ vs)) xs [] fun r => Q (.dk r)
/-- a list of draws, kept as one thing -/
def wDraws : DF := fun ds Q _ => match ds with
  | [.scr ns, .int c] => (ns.length ≤ 63 ∧ 0 ≤ c ∧ c ≤ 1000) ∧ Q .st
  | _ => False
/-- a text k times -/
def repS (a : Str) (k : Int) : Str := ⟨(List.replicate k.toNat a.cps.toList).flatten.toArray⟩
def oMulS (x y : D) (Q : DK) : Prop := match x, y with
  | .str a, .int k => (-1000 ≤ k ∧ k ≤ 10000 ∧ a.length ≤ 1000) ∧ Q (.str (repS a k))
  | _, _ => False
/-- // by a divisor of any sign -/
def oDivN (x y : D) (Q : DK) : Prop := match x, y with
  | .int i, .int j => (j ≠ 0 ∧ j.natAbs.log2 < 9000) ∧ Q (.int (i.fdiv j))
  | _, _ => False
/-- two digits -/
def two (i : Int) : Str := ⟨#[48 + i.toNat / 10, 48 + i.toNat % 10]⟩
/-- {x} -/
def gFmt (x : D) (Q : DK) : Prop := match x with
  | .str y => y.length ≤ lineMax ∧ Q (.str y)
  | .int i => i.natAbs.log2 < 1920 ∧ Q (.str (toString i))
  | _ => False
def dFmt (p : DT) : DT := fun E ρ Q => p E ρ fun x => gFmt x Q
/-- {x:02d} of a number of two digits -/
def gFmt2 (x : D) (Q : DK) : Prop := match x with
  | .int i => (0 ≤ i ∧ i < 100) ∧ Q (.str (two i))
  | _ => False
def dFmt2 (p : DT) : DT := fun E ρ Q => p E ρ fun x => gFmt2 x Q
def gStr (x : D) (Q : Str → Prop) : Prop := match x with
  | .str y => Q y
  | _ => False
/-- the parts of an f-string, one behind the other -/
def dJs : List DT → Str → EK → Env → (Str → Prop) → Prop
  | [], acc, _, _, Q => Q acc
  | t :: ts, acc, E, ρ, Q => t E ρ fun x => gStr x fun y => (acc ++ y).length ≤ lineMax ∧ dJs ts (acc ++ y) E ρ Q
def dJoin (ts : List DT) : DT := fun E ρ Q => dJs ts Str.empty E ρ fun y => Q (.str y)
/-- for x in xs: if c: return r, xs a list of the def's own that stays so -/
def forQ (g : DG) (c : DB) (r : DT) (K : DE) (ρ : Env) (N : Prop) : List D → Prop
  | [] => N
  | x :: xs => g x ρ fun ρ' => c noE ρ' fun k => if k = true then r noE ρ' (fun d => isFlat d = true ∧ K.rt d) else forQ g c r K ρ N xs
def sForQ (i : Nat) (js : List Nat) (g : DG) (c : DB) (r : DT) : DS := fun _ K ρ => gOL ρ[i]? fun xs => i ∉ js ∧ forQ g c r K (bor (fgt js ρ)) (K.nx (fgt js ρ)) xs
/-- sorted of triples: a number, a truth, a number -/
def triD (t : Int × Bool × Int) : D := .tup [.int t.1, .bl t.2.1, .int t.2.2]
def tb (b : Bool) : Int := if b then 1 else 0
def triLt (p q : Int × Bool × Int) : Prop := p.1 < q.1 ∨ (p.1 = q.1 ∧ (tb p.2.1 < tb q.2.1 ∨ (tb p.2.1 = tb q.2.1 ∧ p.2.2 < q.2.2)))
def fSorted3 (xs : List D) (Q : DK) : Prop := ∃ ts : List (Int × Bool × Int), xs = [.lst (ts.map triD)] ∧ ∀ us : List (Int × Bool × Int), us.Perm ts → (us.Pairwise fun p q => ¬ triLt q p) → Q (.lst (us.map triD))
/-- .get(k, z) of a written dict of the module: texts to texts -/
def kgetD (kvs : List (Str × Str)) (x z : D) (Q : DK) : Prop := match x with
  | .str k => Q (match kvs.lookup k with
    | some v => .str v
    | none => z)
  | _ => False
def dKGet2 (kvs : List (Str × Str)) (k z : DT) : DT := fun E ρ Q => k E ρ fun x => z E ρ fun y => kgetD kvs x y Q
/-- a text's place in another one -/
def gInS (x y : D) (Q : DK) : Prop := match x, y with
  | .str a, .str b => Q (.bl (!(Builtin.Str.occurrences b a 0 b.length 1).isEmpty))
  | _, _ => False
/-- zip of a tuple and a plain text -/
def gZipT (xs : List D) (Q : List D → Prop) : Prop := match xs with
  | [.tup l, .str z] => z.cps.all (· < 128) = true ∧ Q (zipD l (z.cps.toList.map fun c => .str ⟨#[c]⟩))
  | _ => False
def iZipT (a : DA) : DI := fun E ρ Q => a E ρ fun xs => gZipT xs Q
/-- [.., *x, ..] -/
def gStar (x : D) (Q : List D → Prop) : Prop := match x with
  | .lst xs => Q xs
  | .tup xs => Q xs
  | _ => False
def aStar (a : DT) (r : DA) : DA := fun E ρ Q => a E ρ fun x => gStar x fun xs => r E ρ fun ys => Q (xs ++ ys)
/-- except C as e: return what is said of e -/
def sTryE (m : String) (os : List String) (i : Nat) (R : Err → DK → Prop) (b : DS) : DS := fun E B ρ => b (fun e ρ' => if e.cls = m then i < ρ'.length ∧ R e B.rt else e.cls ∈ os ∧ E e ρ') B ρ
/-- what is said of e: its fields, what is written, tuples of both, operations -/
def xFld (f : Str) : Err → DK → Prop := fun e Q => match e.fs.lookup f with
  | some d => Q d
  | none => False
def xC (d : D) : Err → DK → Prop := fun _ Q => Q d
def xNil : Err → (List D → Prop) → Prop := fun _ Q => Q []
def xCons (a : Err → DK → Prop) (r : Err → (List D → Prop) → Prop) : Err → (List D → Prop) → Prop := fun e Q => a e fun x => r e fun xs => Q (x :: xs)
def xTup (a : Err → (List D → Prop) → Prop) : Err → DK → Prop := fun e Q => a e fun xs => xs.length ≤ lineMax ∧ Q (.tup xs)
def xOp (f : D → D → DK → Prop) (a b : Err → DK → Prop) : Err → DK → Prop := fun e Q => a e fun x => b e fun y => f x y Q
/-- sorted of a dict whose keys are texts -/
def skeys : List (Key × D) → Option (List Str)
  | [] => some []
  | (.inr x, _) :: r => (skeys r).map (x :: ·)
  | (.inl _, _) :: _ => none
def fSortedT (xs : List D) (Q : DK) : Prop := match xs with
  | [.dk kvs] => match skeys kvs with
    | some ks => ks.length < 64 ∧ ∀ ys : List Str, ys.Perm ks → Q (.lst (ys.map .str))
    | none => False
  | _ => False
/-- what the clauses say of an error; os: the other errors that come -/
def pick (os : List String) : List (String × (Err → DK → Prop)) → Err → DK → Prop
  | [], _, _ => False
  | (m, R) :: r, e, Q => if e.cls = m then R e Q else e.cls ∈ os ∧ pick os r e Q
def dCode (os : List String) (hs : List (String × (Err → DK → Prop))) (z : Str) (t : DT) : DT := fun _ ρ Q => t (fun e _ => pick os hs e Q) (noOwn ρ) fun _ => Q (.str z)
/-- one more part of a chain of comparisons -/
def dLink (f : D → D → DK → Prop) (x y : D) (k : DK → Prop) (Q : DK) : Prop := f x y fun z => match z with
  | .bl b => if b = true then k Q else Q (.bl false)
  | _ => False
/-- a < b < c < d -/
def dChain3 (f g h : D → D → DK → Prop) (a b c d : DT) : DT := fun E ρ Q => a E ρ fun x => b E ρ fun y => dLink f x y (fun Q => c E ρ fun u => dLink g y u (fun Q => d E ρ fun v => h u v Q) Q) Q
/-- x, y = a, b, y a new list from then on its own -/
def sParO (i j : Nat) (a b : DT) : DS := fun E K ρ => a E ρ fun x => b E ρ fun y => K.nx ((ρ.set i (.v x)).set j (.o y))
/-- list(range(..)), tuple(range(..)) -/
def rgOk (i j : Int) : Prop := -(2 ^ 62) ≤ i ∧ i < 2 ^ 62 ∧ -(2 ^ 62) ≤ j ∧ j < 2 ^ 62 ∧ (j - i).toNat ≤ 2 ^ 24
def rgB1 (a : DT) : EK → Env → (Int → Int → Prop) → Prop := fun E ρ Q => a E ρ fun x => gI x fun n => Q 0 n
def gI2 (x y : D) (Q : Int → Int → Prop) : Prop := match x, y with
  | .int n, .int m => Q n m
  | _, _ => False
def rgB2 (a b : DT) : EK → Env → (Int → Int → Prop) → Prop := fun E ρ Q => a E ρ fun x => b E ρ fun y => gI2 x y Q
def dTupRg (t : EK → Env → (Int → Int → Prop) → Prop) : DT := fun E ρ Q => t E ρ fun i j => rgOk i j ∧ Q (.tup (rng i (j - i).toNat))
def dLstRg (t : EK → Env → (Int → Int → Prop) → Prop) : DT := fun E ρ Q => t E ρ fun i j => rgOk i j ∧ Q (.lst (rng i (j - i).toNat))
theorem seq_w (a b : DS) {E : EK} {K : DE} {ρ : Env} : sSeq a b E K ρ ↔ a E { K with nx := b E K } ρ := Iff.rfl
mutual
/-- as the kit's plain data -/
def pyD : D → PyData
  | .non => .none
  | .bl b => .bool b
  | .int i => .int i
  | .str x => .str x
  | .tup xs => .tuple (pyDs xs)
  | .lst xs => .list (pyDs xs)
  | _ => .dict []
def pyDs : List D → List PyData
  | [] => []
  | x :: r => pyD x :: pyDs r
end
/-- what may be sorted: all of one form -/
structure SrtOk (l : List D) : Prop where
  al : PySem.W.AllAlike (l.map pyD)
  so : PySem.W.Sortable (l.map pyD)
  dp : ∀ d ∈ l, (pyD d).depth ≤ 60
  ln : l.length ≤ lineMax
def leD : D → D → Bool := PySem.W.dataLe false pyD
/-- sorted of a list or a tuple -/
def fSortD (xs : List D) (Q : DK) : Prop := match xs with
  | [.lst l] => SrtOk l ∧ Q (.lst (l.mergeSort leD))
  | [.tup l] => SrtOk l ∧ Q (.lst (l.mergeSort leD))
  | _ => False
def fSortX (xs : List D) (Q : DK) : Prop := fSorted xs Q ∨ fSortD xs Q
end DL

/-! DCoreN: plain words of the later rules. -/
namespace DL
open PySem
/-- y, x = b, a, y a new list from then on its own -/
def sParP (i j : Nat) (b a : DT) : DS := fun E K ρ => b E ρ fun y => a E ρ fun x => K.nx ((ρ.set i (.o y)).set j (.v x))
end DL

/-! DCoreQ: plain words of sorted(range(..), key=lambda y: z[y]). -/
namespace DL
open PySem
/-- some order of the numbers below n is given (which one is not told): z, of n pairs, stands in slot i -/
def dSortRg (i : Nat) (t : EK → DL.Env → (Int → Int → Prop) → Prop) : DT := fun E ρ Q => t E ρ fun a b => a = 0 ∧ ∃ ps : List (Int × Int), ρ[i]? = some (.v (.lst (ps.map pairD))) ∧ b = ps.length ∧ ps.length ≤ 16777216 ∧ ∀ ys : List Nat, ys.Perm (List.range ps.length) → Q (.lst (ys.map fun j : Nat => D.int (j : Int)))
/-- a new list of flat things, read off what is borrowed -/
def flatL : D → Bool
  | .lst ds => ds.all isFlat
  | _ => false
def dBorL (a : DT) : DT := fun _ ρ Q => a noE (bor ρ) fun d => flatL d = true ∧ Q d
end DL

/-! DCoreR: plain words of loops over lambdas and of two walks in one comprehension. -/
namespace DL
open PySem
/-- a lambda's reading, told by a def: its errors by the clauses, else z -/
def dCodeV (os : List String) (hs : List (String × (Err → DK → Prop))) (z : D) (t : DT) : DT := fun _ ρ Q => t (fun e _ => pick os hs e Q) (noOwn ρ) fun _ => Q z
/-- for f in (lambda: .., lambda: ..): the suites one behind the other, slot i empty -/
def sForLam (i : Nat) : List DS → DS
  | [] => fun _ K ρ => K.nx ρ
  | b :: r => fun E K ρ => i < ρ.length ∧ b E { nx := sForLam i r E K, ct := sForLam i r E K, bk := K.nx, rt := K.rt, ro := K.ro } (ρ.set i .no)
/-- [e for x in xs if .. for y in ys if ..] -/
def lc2L (g : DG) (t : DB) (it1 : DI) (g1 : DG) (t1 : DB) (e : DT) (vs1 : List Nat) (ρ : Env) : List D → List D → (List D → Prop) → Prop
  | [], acc, Q => Q acc
  | x :: r, acc, Q => g x ρ fun ρ' => t noE ρ' fun k => if k = true then it1 noE ρ' fun ys => lcL g1 t1 e (wipeE ρ' vs1) ys acc fun a => lc2L g t it1 g1 t1 e vs1 ρ r a Q else lc2L g t it1 g1 t1 e vs1 ρ r acc Q
def dLc2 (it : DI) (g : DG) (t : DB) (it1 : DI) (g1 : DG) (t1 : DB) (e : DT) (vs vs1 : List Nat) : DT := fun E ρ Q => it E ρ fun xs => lc2L g t it1 g1 t1 e vs1 (noOwn (wipeE ρ vs)) xs [] fun r => Q (.lst r)
/-- a built-in of two texts and a number -/
def fS3 (g : Str → Str → Int → D) (xs : List D) (Q : DK) : Prop := match xs with
  | [.str a, .str b, .int i] => Q (g a b i)
  | _ => False
/-- x.replace(y, z) -/
def dRepl (y z : Str) (a : DT) : DT := fun E ρ Q => a E ρ fun x => match x with
  | .str x => x.length + (x.length + 1) * z.length ≤ 16777216 ∧ Q (.str (Txt.replace x y z))
  | _ => False
/-- a sign in a text (n: not in) -/
def gSgn (n : Bool) (x y : D) (Q : DK) : Prop := match x, y with
  | .str a, .str b => ∃ c : Nat, a = ⟨#[c]⟩ ∧ Q (.bl (if n = true then !decide (c ∈ b.cps.toList) else decide (c ∈ b.cps.toList)))
  | _, _ => False
end DL

/-! DCoreS: int(text). -/
namespace DL
open PySem
def fIntS (xs : List D) (Q : DK) : Prop := match xs with
  | [.str a] => ∃ n, intText? a = some n ∧ a.length ≤ 640 ∧ Q (.int n)
  | _ => False
end DL

/-! DCoreT: own dicts that are keyed by tuples. -/
namespace DL
open PySem
def gOT (o : Option Sl) (Q : List (List Key × D) → Prop) : Prop := match o with
  | some (.o (.dt xs)) => Q xs
  | _ => False
def gKs (ds : List D) (Q : List Key → Prop) : Prop := match keysOf ds with
  | some ks => Q ks
  | none => False
def gDt (d : D) (Q : List (List Key × D) → Prop) : Prop := match d with
  | .dt kvs => Q kvs
  | _ => False
def dNewT : DT := fun _ _ Q => Q (.dt [])
/-- d[a, b] = v -/
def sPutT (i : Nat) (a : DA) (b : DT) : DS := fun E K ρ => gOT ρ[i]? fun kvs => b E ρ fun v => a E ρ fun ds => ds.length ≤ lineMax ∧ gKs ds fun ks => kvs.length < 1000000 ∧ K.nx (ρ.set i (.o (.dt (putD kvs ks v))))
def fLenT (xs : List D) (Q : DK) : Prop := match xs with
  | [.dt kvs] => kvs.length < 1000000 ∧ Q (.int kvs.length)
  | _ => False
/-- {(a, b): v for .. in it if ..} -/
def dcTL (g : DG) (t : DB) (k : DA) (e : DT) (ρ : Env) : List D → List (List Key × D) → (List (List Key × D) → Prop) → Prop
  | [], acc, Q => Q acc
  | x :: r, acc, Q => g x ρ fun ρ' => t noE ρ' fun b => if b = true then k noE ρ' fun ds => ds.length ≤ lineMax ∧ e noE ρ' fun z => gKs ds fun ks => acc.length < 1000000 ∧ dcTL g t k e ρ r (putD acc ks z) Q else dcTL g t k e ρ r acc Q
def dDcT (it : DI) (g : DG) (t : DB) (k : DA) (e : DT) (vs : List Nat) : DT := fun E ρ Q => it E ρ fun xs => dcTL g t k e (noOwn (wipeE ρ vs)) xs [] fun r => Q (.dt r)
/-- a pair of small numbers -/
def near20 : List Key → Bool
  | [.inl a, .inl b] => decide (0 ≤ a) && decide (a < 20) && decide (0 ≤ b) && decide (b < 20)
  | _ => false
def mergeDT (kvs more : List (List Key × D)) : List (List Key × D) := more.foldl (fun acc p => putD acc p.1 p.2) kvs
/-- d.update({..}) -/
def sUpdT (i : Nat) (t : DT) : DS := fun E K ρ => gOT ρ[i]? fun kvs => t E ρ fun d => gDt d fun more => (kvs ≠ [] ∨ ((∀ p ∈ more, near20 p.1 = true) ∧ (more.map (·.1)).Nodup)) ∧ kvs.length + more.length < 1000000 ∧ K.nx (ρ.set i (.o (.dt (mergeDT kvs more))))
/-- is, is not of truth values -/
def oIsB (x y : D) (Q : DK) : Prop := match x, y with
  | .bl a, .bl b => Q (.bl (decide (a = b)))
  | _, _ => False
def oNotB (x y : D) (Q : DK) : Prop := match x, y with
  | .bl a, .bl b => Q (.bl (!decide (a = b)))
  | _, _ => False
/-- min and max of a tuple of ints -/
def fMinT (xs : List D) (Q : DK) : Prop := match xs with
  | [.tup l] => match intsOf l with
    | some ns => ns ≠ [] ∧ ∀ m, m ∈ ns → (∀ y ∈ ns, m ≤ y) → Q (.int m)
    | none => False
  | _ => False
def fMaxT (xs : List D) (Q : DK) : Prop := match xs with
  | [.tup l] => match intsOf l with
    | some ns => ns ≠ [] ∧ ∀ m, m ∈ ns → (∀ y ∈ ns, y ≤ m) → Q (.int m)
    | none => False
  | _ => False
end DL

set_option maxHeartbeats 8000000
/-! The text of the law, read as plain Lean. -/
namespace K62
open PySem DL
@[reducible] def T_check_teams : DS := (sIf (bOr (bNot (bT (dChain oLe oLe (dC (.int 2)) (dVar 0) (dC (.int (20)))))) (bT (dOp oEq (dOp oMod (dVar 0) (dC (.int 2))) (dC (.int 1))))) (sRaise "JobError" ["code"] (aCons (dC (.str "teams")) aNil)) sNext)
def W_check_teams : DF := defT 1 1 T_check_teams
theorem W_check_teams_w {ds : List D} {Q : DK} {E : Err → Prop} : W_check_teams ds Q E ↔ ds.length = 1 ∧ (sIf (bOr (bNot (bT (dChain oLe oLe (dC (.int 2)) (dVar 0) (dC (.int (20)))))) (bT (dOp oEq (dOp oMod (dVar 0) (dC (.int 2))) (dC (.int 1))))) (sRaise "JobError" ["code"] (aCons (dC (.str "teams")) aNil)) sNext) (fun e _ => E e) { nx := fun _ => Q .non, rt := Q } (envOf 1 ds) := id Iff.rfl
@[reducible] def T_game_2 : DS :=
    (sRet (dIf (bT (dOp oEq (dOp oMod (dIf (bT (dOp oEq (dVar 2) (dC (.int 0)))) (dVar 1) (dVar 2)) (dC (.int 2))) (dC (.int 0)))) (dTup (aCons (dVar 3) (aCons (dVar 4) aNil))) (dTup (aCons (dVar 4) (aCons (dVar 3) aNil)))))
def V_game_2 : DS := T_game_2
theorem V_game_2_w {E : EK} {K : DE} {ρ : DL.Env} : V_game_2 E K ρ ↔ (sRet (dIf (bT (dOp oEq (dOp oMod (dIf (bT (dOp oEq (dVar 2) (dC (.int 0)))) (dVar 1) (dVar 2)) (dC (.int 2))) (dC (.int 0)))) (dTup (aCons (dVar 3) (aCons (dVar 4) aNil))) (dTup (aCons (dVar 4) (aCons (dVar 3) aNil))))) E K ρ := id Iff.rfl
@[reducible] def T_game_1 : DS :=
    (sSeq (sSet 4 (dIf (bT (dOp oEq (dVar 2) (dC (.int 0)))) (dVar 1) (dOp oMod (dOp oSub (dVar 1) (dVar 2)) (dOp oSub (dVar 0) (dC (.int 1))))))
    T_game_2)
def V_game_1 : DS := T_game_1
theorem V_game_1_w {E : EK} {K : DE} {ρ : DL.Env} : V_game_1 E K ρ ↔ (sSet 4 (dIf (bT (dOp oEq (dVar 2) (dC (.int 0)))) (dVar 1) (dOp oMod (dOp oSub (dVar 1) (dVar 2)) (dOp oSub (dVar 0) (dC (.int 1)))))) E { K with nx := V_game_2 E K } ρ := id Iff.rfl
@[reducible] def T_game_0 : DS :=
    (sSeq (sSet 3 (dIf (bT (dOp oEq (dVar 2) (dC (.int 0)))) (dOp oSub (dVar 0) (dC (.int 1))) (dOp oMod (dOp oAdd (dVar 1) (dVar 2)) (dOp oSub (dVar 0) (dC (.int 1))))))
    T_game_1)
def V_game_0 : DS := T_game_0
theorem V_game_0_w {E : EK} {K : DE} {ρ : DL.Env} : V_game_0 E K ρ ↔ (sSet 3 (dIf (bT (dOp oEq (dVar 2) (dC (.int 0)))) (dOp oSub (dVar 0) (dC (.int 1))) (dOp oMod (dOp oAdd (dVar 1) (dVar 2)) (dOp oSub (dVar 0) (dC (.int 1)))))) E { K with nx := V_game_1 E K } ρ := id Iff.rfl
@[reducible] def T_game : DS := T_game_0
def W_game : DF := defT 3 5 T_game
theorem W_game_w {ds : List D} {Q : DK} {E : Err → Prop} : W_game ds Q E ↔ ds.length = 3 ∧ V_game_0 (fun e _ => E e) { nx := fun _ => Q .non, rt := Q } (envOf 5 ds) := id Iff.rfl
@[reducible] def T_fixtures_1 : DS :=
    (sRet (dBlt fTuple (aCons (dLc (iRng1 (aCons (dOp oSub (dVar 0) (dC (.int 1))) aNil)) (gName 1) bYes (dBlt fTuple (aCons (dLc (iRng1 (aCons (dOp oDiv (dVar 0) (dC (.int 2))) aNil)) (gName 2) bYes (dCall W_game (aCons (dVar 0) (aCons (dVar 1) (aCons (dVar 2) aNil)))) [2]) aNil)) [1]) aNil)))
def V_fixtures_1 : DS := T_fixtures_1
theorem V_fixtures_1_w {E : EK} {K : DE} {ρ : DL.Env} : V_fixtures_1 E K ρ ↔ (sRet (dBlt fTuple (aCons (dLc (iRng1 (aCons (dOp oSub (dVar 0) (dC (.int 1))) aNil)) (gName 1) bYes (dBlt fTuple (aCons (dLc (iRng1 (aCons (dOp oDiv (dVar 0) (dC (.int 2))) aNil)) (gName 2) bYes (dCall W_game (aCons (dVar 0) (aCons (dVar 1) (aCons (dVar 2) aNil)))) [2]) aNil)) [1]) aNil))) E K ρ := id Iff.rfl
@[reducible] def T_fixtures_0 : DS :=
    (sSeq (sDrop (dCall W_check_teams (aCons (dVar 0) aNil)))
    T_fixtures_1)
def V_fixtures_0 : DS := T_fixtures_0
theorem V_fixtures_0_w {E : EK} {K : DE} {ρ : DL.Env} : V_fixtures_0 E K ρ ↔ (sDrop (dCall W_check_teams (aCons (dVar 0) aNil))) E { K with nx := V_fixtures_1 E K } ρ := id Iff.rfl
@[reducible] def T_fixtures : DS := T_fixtures_0
def W_fixtures : DF := defT 1 3 T_fixtures
theorem W_fixtures_w {ds : List D} {Q : DK} {E : Err → Prop} : W_fixtures ds Q E ↔ ds.length = 1 ∧ V_fixtures_0 (fun e _ => E e) { nx := fun _ => Q .non, rt := Q } (envOf 3 ds) := id Iff.rfl
@[reducible] def T_takes_fixtures_L1_3 : DS :=
    (sFgt [1, 3, 4, 5, 6] sNext)
def V_takes_fixtures_L1_3 : DS := T_takes_fixtures_L1_3
theorem V_takes_fixtures_L1_3_w {E : EK} {K : DE} {ρ : DL.Env} : V_takes_fixtures_L1_3 E K ρ ↔ (sFgt [1, 3, 4, 5, 6] sNext) E K ρ := id Iff.rfl
@[reducible] def T_takes_fixtures_L1_2 : DS :=
    (sSeq (sUpdT 2 (dDcT (iSeq (dVar 3)) (gName 5) bYes (aCons (dBlt fMinT (aCons (dVar 5) aNil)) (aCons (dBlt fMaxT (aCons (dVar 5) aNil)) aNil)) (dC (.bl true)) [5]))
    T_takes_fixtures_L1_3)
def V_takes_fixtures_L1_2 : DS := T_takes_fixtures_L1_2
theorem V_takes_fixtures_L1_2_w {E : EK} {K : DE} {ρ : DL.Env} : V_takes_fixtures_L1_2 E K ρ ↔ (sUpdT 2 (dDcT (iSeq (dVar 3)) (gName 5) bYes (aCons (dBlt fMinT (aCons (dVar 5) aNil)) (aCons (dBlt fMaxT (aCons (dVar 5) aNil)) aNil)) (dC (.bl true)) [5])) E { K with nx := V_takes_fixtures_L1_3 E K } ρ := id Iff.rfl
@[reducible] def T_takes_fixtures_L1_1 : DS :=
    (sSeq (sIf (bT (dOp oNe (dBlt fSortX (aCons (dVar 4) aNil)) (dLstRg (rgB1 (dVar 0))))) (sRet (dC (.bl false))) sNext)
    T_takes_fixtures_L1_2)
def V_takes_fixtures_L1_1 : DS := T_takes_fixtures_L1_1
theorem V_takes_fixtures_L1_1_w {E : EK} {K : DE} {ρ : DL.Env} : V_takes_fixtures_L1_1 E K ρ ↔ (sIf (bT (dOp oNe (dBlt fSortX (aCons (dVar 4) aNil)) (dLstRg (rgB1 (dVar 0))))) (sRet (dC (.bl false))) sNext) E { K with nx := V_takes_fixtures_L1_2 E K } ρ := id Iff.rfl
@[reducible] def T_takes_fixtures_L1_0 : DS :=
    (sSeq (sSet 4 (dLc2 (iSeq (dVar 3)) (gName 5) bYes (iSeq (dVar 5)) (gName 6) bYes (dVar 6) [5, 6] [6]))
    T_takes_fixtures_L1_1)
def V_takes_fixtures_L1_0 : DS := T_takes_fixtures_L1_0
theorem V_takes_fixtures_L1_0_w {E : EK} {K : DE} {ρ : DL.Env} : V_takes_fixtures_L1_0 E K ρ ↔ (sSet 4 (dLc2 (iSeq (dVar 3)) (gName 5) bYes (iSeq (dVar 5)) (gName 6) bYes (dVar 6) [5, 6] [6])) E { K with nx := V_takes_fixtures_L1_1 E K } ρ := id Iff.rfl
@[reducible] def T_takes_fixtures_4 : DS :=
    (sRet (dBor (dOp oEq (dBlt fLenT (aCons (dVar 2) aNil)) (dOp oDiv (dOp oMul (dVar 0) (dOp oSub (dVar 0) (dC (.int 1)))) (dC (.int 2))))))
def V_takes_fixtures_4 : DS := T_takes_fixtures_4
theorem V_takes_fixtures_4_w {E : EK} {K : DE} {ρ : DL.Env} : V_takes_fixtures_4 E K ρ ↔ (sRet (dBor (dOp oEq (dBlt fLenT (aCons (dVar 2) aNil)) (dOp oDiv (dOp oMul (dVar 0) (dOp oSub (dVar 0) (dC (.int 1)))) (dC (.int 2)))))) E K ρ := id Iff.rfl
@[reducible] def T_takes_fixtures_3 : DS :=
    (sSeq (sFgt [3, 4, 5, 6] (sFor (iSeq (dVar 1)) (gName 3) T_takes_fixtures_L1_0))
    T_takes_fixtures_4)
def V_takes_fixtures_3 : DS := T_takes_fixtures_3
theorem V_takes_fixtures_3_w {E : EK} {K : DE} {ρ : DL.Env} : V_takes_fixtures_3 E K ρ ↔ (sFgt [3, 4, 5, 6] (sFor (iSeq (dVar 1)) (gName 3) V_takes_fixtures_L1_0)) E { K with nx := V_takes_fixtures_4 E K } ρ := by
  delta V_takes_fixtures_3 V_takes_fixtures_L1_0 V_takes_fixtures_4
  exact seq_w _ _
@[reducible] def T_takes_fixtures_2 : DS :=
    (sSeq (sOwn 2 dNewT)
    T_takes_fixtures_3)
def V_takes_fixtures_2 : DS := T_takes_fixtures_2
theorem V_takes_fixtures_2_w {E : EK} {K : DE} {ρ : DL.Env} : V_takes_fixtures_2 E K ρ ↔ (sOwn 2 dNewT) E { K with nx := V_takes_fixtures_3 E K } ρ := id Iff.rfl
@[reducible] def T_takes_fixtures_1 : DS :=
    (sSeq (sIf (bT (dOp oNe (dBlt fLen (aCons (dVar 1) aNil)) (dOp oSub (dVar 0) (dC (.int 1))))) (sRet (dC (.bl false))) sNext)
    T_takes_fixtures_2)
def V_takes_fixtures_1 : DS := T_takes_fixtures_1
theorem V_takes_fixtures_1_w {E : EK} {K : DE} {ρ : DL.Env} : V_takes_fixtures_1 E K ρ ↔ (sIf (bT (dOp oNe (dBlt fLen (aCons (dVar 1) aNil)) (dOp oSub (dVar 0) (dC (.int 1))))) (sRet (dC (.bl false))) sNext) E { K with nx := V_takes_fixtures_2 E K } ρ := id Iff.rfl
@[reducible] def T_takes_fixtures_0 : DS :=
    (sSeq (sDrop (dCall W_check_teams (aCons (dVar 0) aNil)))
    T_takes_fixtures_1)
def V_takes_fixtures_0 : DS := T_takes_fixtures_0
theorem V_takes_fixtures_0_w {E : EK} {K : DE} {ρ : DL.Env} : V_takes_fixtures_0 E K ρ ↔ (sDrop (dCall W_check_teams (aCons (dVar 0) aNil))) E { K with nx := V_takes_fixtures_1 E K } ρ := id Iff.rfl
@[reducible] def T_takes_fixtures : DS := T_takes_fixtures_0
def W_takes_fixtures : DF := defT 2 7 T_takes_fixtures
theorem W_takes_fixtures_w {ds : List D} {Q : DK} {E : Err → Prop} : W_takes_fixtures ds Q E ↔ ds.length = 2 ∧ V_takes_fixtures_0 (fun e _ => E e) { nx := fun _ => Q .non, rt := Q } (envOf 7 ds) := id Iff.rfl
@[reducible] def T_breaks_L1_3 : DS :=
    (sFgt [0, 1, 3, 4, 5, 6] sNext)
def V_breaks_L1_3 : DS := T_breaks_L1_3
theorem V_breaks_L1_3_w {E : EK} {K : DE} {ρ : DL.Env} : V_breaks_L1_3 E K ρ ↔ (sFgt [0, 1, 3, 4, 5, 6] sNext) E K ρ := id Iff.rfl
@[reducible] def T_breaks_L1_2 : DS :=
    (sSeq (sAug 2 oAddI (dBlt fLen (aCons (dLc (iSeq (dVar 4)) (gName 6) (bT (dOp oNotIn (dOp oIx (dVar 6) (dC (.int 1))) (dVar 5))) (dVar 6) [6]) aNil)))
    T_breaks_L1_3)
def V_breaks_L1_2 : DS := T_breaks_L1_2
theorem V_breaks_L1_2_w {E : EK} {K : DE} {ρ : DL.Env} : V_breaks_L1_2 E K ρ ↔ (sAug 2 oAddI (dBlt fLen (aCons (dLc (iSeq (dVar 4)) (gName 6) (bT (dOp oNotIn (dOp oIx (dVar 6) (dC (.int 1))) (dVar 5))) (dVar 6) [6]) aNil))) E { K with nx := V_breaks_L1_3 E K } ρ := id Iff.rfl
@[reducible] def T_breaks_L1_1 : DS :=
    (sSeq (sAug 2 oAddI (dBlt fLen (aCons (dLc (iSeq (dVar 4)) (gName 6) (bT (dOp oIn (dOp oIx (dVar 6) (dC (.int 0))) (dVar 5))) (dVar 6) [6]) aNil)))
    T_breaks_L1_2)
def V_breaks_L1_1 : DS := T_breaks_L1_1
theorem V_breaks_L1_1_w {E : EK} {K : DE} {ρ : DL.Env} : V_breaks_L1_1 E K ρ ↔ (sAug 2 oAddI (dBlt fLen (aCons (dLc (iSeq (dVar 4)) (gName 6) (bT (dOp oIn (dOp oIx (dVar 6) (dC (.int 0))) (dVar 5))) (dVar 6) [6]) aNil))) E { K with nx := V_breaks_L1_2 E K } ρ := id Iff.rfl
@[reducible] def T_breaks_L1_0 : DS :=
    (sSeq (sSet 5 (dDc (iSeq (dVar 3)) (gName 6) bYes (dOp oIx (dVar 6) (dC (.int 0))) (dC (.bl true)) [6]))
    T_breaks_L1_1)
def V_breaks_L1_0 : DS := T_breaks_L1_0
theorem V_breaks_L1_0_w {E : EK} {K : DE} {ρ : DL.Env} : V_breaks_L1_0 E K ρ ↔ (sSet 5 (dDc (iSeq (dVar 3)) (gName 6) bYes (dOp oIx (dVar 6) (dC (.int 0))) (dC (.bl true)) [6])) E { K with nx := V_breaks_L1_1 E K } ρ := id Iff.rfl
@[reducible] def T_breaks_3 : DS :=
    (sRet (dVar 2))
def V_breaks_3 : DS := T_breaks_3
theorem V_breaks_3_w {E : EK} {K : DE} {ρ : DL.Env} : V_breaks_3 E K ρ ↔ (sRet (dVar 2)) E K ρ := id Iff.rfl
@[reducible] def T_breaks_2 : DS :=
    (sSeq (sFgt [0, 3, 4, 5, 6] (sFor (DL.iZip (aCons (dVar 1) (aCons (dSlice (dVar 1) (oS (dC (.int 1))) oN) aNil))) (gTup (gCons (gName 3) (gCons (gName 4) gNil))) T_breaks_L1_0))
    T_breaks_3)
def V_breaks_2 : DS := T_breaks_2
theorem V_breaks_2_w {E : EK} {K : DE} {ρ : DL.Env} : V_breaks_2 E K ρ ↔ (sFgt [0, 3, 4, 5, 6] (sFor (DL.iZip (aCons (dVar 1) (aCons (dSlice (dVar 1) (oS (dC (.int 1))) oN) aNil))) (gTup (gCons (gName 3) (gCons (gName 4) gNil))) V_breaks_L1_0)) E { K with nx := V_breaks_3 E K } ρ := by
  delta V_breaks_2 V_breaks_L1_0 V_breaks_3
  exact seq_w _ _
@[reducible] def T_breaks_1 : DS :=
    (sSeq (sSet 2 (dC (.int 0)))
    T_breaks_2)
def V_breaks_1 : DS := T_breaks_1
theorem V_breaks_1_w {E : EK} {K : DE} {ρ : DL.Env} : V_breaks_1 E K ρ ↔ (sSet 2 (dC (.int 0))) E { K with nx := V_breaks_2 E K } ρ := id Iff.rfl
@[reducible] def T_breaks_0 : DS :=
    (sSeq (sDrop (dCall W_check_teams (aCons (dVar 0) aNil)))
    T_breaks_1)
def V_breaks_0 : DS := T_breaks_0
theorem V_breaks_0_w {E : EK} {K : DE} {ρ : DL.Env} : V_breaks_0 E K ρ ↔ (sDrop (dCall W_check_teams (aCons (dVar 0) aNil))) E { K with nx := V_breaks_1 E K } ρ := id Iff.rfl
@[reducible] def T_breaks : DS := T_breaks_0
def W_breaks : DF := defT 2 7 T_breaks
theorem W_breaks_w {ds : List D} {Q : DK} {E : Err → Prop} : W_breaks ds Q E ↔ ds.length = 2 ∧ V_breaks_0 (fun e _ => E e) { nx := fun _ => Q .non, rt := Q } (envOf 7 ds) := id Iff.rfl
@[reducible] def T_u_law_draws_L1_5 : DS :=
    (sFgt [0, 1, 5, 6, 7, 8] sNext)
def V_u_law_draws_L1_5 : DS := T_u_law_draws_L1_5
theorem V_u_law_draws_L1_5_w {E : EK} {K : DE} {ρ : DL.Env} : V_u_law_draws_L1_5 E K ρ ↔ (sFgt [0, 1, 5, 6, 7, 8] sNext) E K ρ := id Iff.rfl
@[reducible] def T_u_law_draws_L1_4 : DS :=
    (sSeq (sIf (bT (dOp oGe (dVar 7) (dOp oPow (dC (.int 10)) (dC (.int 18))))) (sSeq (sApp 3 (dOp oMod (dBlt fInt (aCons (dVar 7) aNil)) (dC (.int 1000))))
    (sSetIx 2 (dVar 6) (dOp oDiv (dVar 7) (dC (.int 1000))))) (sApp 3 (dOp oMod (dBlt fInt (aCons (dVar 8) aNil)) (dC (.int 1000)))))
    T_u_law_draws_L1_5)
def V_u_law_draws_L1_4 : DS := T_u_law_draws_L1_4
theorem V_u_law_draws_L1_4_w {E : EK} {K : DE} {ρ : DL.Env} : V_u_law_draws_L1_4 E K ρ ↔ (sIf (bT (dOp oGe (dVar 7) (dOp oPow (dC (.int 10)) (dC (.int 18))))) (sSeq (sApp 3 (dOp oMod (dBlt fInt (aCons (dVar 7) aNil)) (dC (.int 1000))))
    (sSetIx 2 (dVar 6) (dOp oDiv (dVar 7) (dC (.int 1000))))) (sApp 3 (dOp oMod (dBlt fInt (aCons (dVar 8) aNil)) (dC (.int 1000))))) E { K with nx := V_u_law_draws_L1_5 E K } ρ := id Iff.rfl
@[reducible] def T_u_law_draws_L1_3 : DS :=
    (sSeq (sSet 8 (dOp oMod (dBlt fInt (aCons (dOp oAdd (dOp oAdd (dOp oMul (dVar 4) (dVar 4)) (dOp oMul (dC (.int 31)) (dVar 4))) (dVar 5)) aNil)) (dC (.int 1000003))))
    T_u_law_draws_L1_4)
def V_u_law_draws_L1_3 : DS := T_u_law_draws_L1_3
theorem V_u_law_draws_L1_3_w {E : EK} {K : DE} {ρ : DL.Env} : V_u_law_draws_L1_3 E K ρ ↔ (sSet 8 (dOp oMod (dBlt fInt (aCons (dOp oAdd (dOp oAdd (dOp oMul (dVar 4) (dVar 4)) (dOp oMul (dC (.int 31)) (dVar 4))) (dVar 5)) aNil)) (dC (.int 1000003)))) E { K with nx := V_u_law_draws_L1_4 E K } ρ := id Iff.rfl
@[reducible] def T_u_law_draws_L1_2 : DS :=
    (sSeq (sSet 4 (dOp oMod (dBlt fInt (aCons (dOp oAdd (dOp oAdd (dOp oAdd (dOp oMul (dVar 4) (dC (.int 48271))) (dOp oMul (dOp oMod (dBlt fInt (aCons (dVar 7) aNil)) (dC (.int 1000003))) (dC (.int 69621)))) (dOp oMul (dVar 5) (dC (.int 7919)))) (dC (.int 11))) aNil)) (dC (.int 2147483647))))
    T_u_law_draws_L1_3)
def V_u_law_draws_L1_2 : DS := T_u_law_draws_L1_2
theorem V_u_law_draws_L1_2_w {E : EK} {K : DE} {ρ : DL.Env} : V_u_law_draws_L1_2 E K ρ ↔ (sSet 4 (dOp oMod (dBlt fInt (aCons (dOp oAdd (dOp oAdd (dOp oAdd (dOp oMul (dVar 4) (dC (.int 48271))) (dOp oMul (dOp oMod (dBlt fInt (aCons (dVar 7) aNil)) (dC (.int 1000003))) (dC (.int 69621)))) (dOp oMul (dVar 5) (dC (.int 7919)))) (dC (.int 11))) aNil)) (dC (.int 2147483647)))) E { K with nx := V_u_law_draws_L1_3 E K } ρ := id Iff.rfl
@[reducible] def T_u_law_draws_L1_1 : DS :=
    (sSeq (sSet 7 (dIxO 2 (dVar 6)))
    T_u_law_draws_L1_2)
def V_u_law_draws_L1_1 : DS := T_u_law_draws_L1_1
theorem V_u_law_draws_L1_1_w {E : EK} {K : DE} {ρ : DL.Env} : V_u_law_draws_L1_1 E K ρ ↔ (sSet 7 (dIxO 2 (dVar 6))) E { K with nx := V_u_law_draws_L1_2 E K } ρ := id Iff.rfl
@[reducible] def T_u_law_draws_L1_0 : DS :=
    (sSeq (sSet 6 (dOp oMod (dVar 5) (dBor (dBlt fLen (aCons (dVar 2) aNil)))))
    T_u_law_draws_L1_1)
def V_u_law_draws_L1_0 : DS := T_u_law_draws_L1_0
theorem V_u_law_draws_L1_0_w {E : EK} {K : DE} {ρ : DL.Env} : V_u_law_draws_L1_0 E K ρ ↔ (sSet 6 (dOp oMod (dVar 5) (dBor (dBlt fLen (aCons (dVar 2) aNil))))) E { K with nx := V_u_law_draws_L1_1 E K } ρ := id Iff.rfl
@[reducible] def T_u_law_draws_6 : DS :=
    (sRetO 3)
def V_u_law_draws_6 : DS := T_u_law_draws_6
theorem V_u_law_draws_6_w {E : EK} {K : DE} {ρ : DL.Env} : V_u_law_draws_6 E K ρ ↔ (sRetO 3) E K ρ := id Iff.rfl
@[reducible] def T_u_law_draws_5 : DS :=
    (sSeq (sLop lRev 3 aNil)
    T_u_law_draws_6)
def V_u_law_draws_5 : DS := T_u_law_draws_5
theorem V_u_law_draws_5_w {E : EK} {K : DE} {ρ : DL.Env} : V_u_law_draws_5 E K ρ ↔ (sLop lRev 3 aNil) E { K with nx := V_u_law_draws_6 E K } ρ := id Iff.rfl
@[reducible] def T_u_law_draws_4 : DS :=
    (sSeq (sFgt [0, 5, 6, 7, 8] (sFor (iRng1 (aCons (dVar 1) aNil)) (gName 5) T_u_law_draws_L1_0))
    T_u_law_draws_5)
def V_u_law_draws_4 : DS := T_u_law_draws_4
theorem V_u_law_draws_4_w {E : EK} {K : DE} {ρ : DL.Env} : V_u_law_draws_4 E K ρ ↔ (sFgt [0, 5, 6, 7, 8] (sFor (iRng1 (aCons (dVar 1) aNil)) (gName 5) V_u_law_draws_L1_0)) E { K with nx := V_u_law_draws_5 E K } ρ := by
  delta V_u_law_draws_4 V_u_law_draws_L1_0 V_u_law_draws_5
  exact seq_w _ _
@[reducible] def T_u_law_draws_3 : DS :=
    (sSeq (sSet 4 (dC (.int 12345)))
    T_u_law_draws_4)
def V_u_law_draws_3 : DS := T_u_law_draws_3
theorem V_u_law_draws_3_w {E : EK} {K : DE} {ρ : DL.Env} : V_u_law_draws_3 E K ρ ↔ (sSet 4 (dC (.int 12345))) E { K with nx := V_u_law_draws_4 E K } ρ := id Iff.rfl
@[reducible] def T_u_law_draws_2 : DS :=
    (sSeq (sFgt [0, 3, 4, 5, 6, 7, 8] (sOwn 3 (dLst aNil)))
    T_u_law_draws_3)
def V_u_law_draws_2 : DS := T_u_law_draws_2
theorem V_u_law_draws_2_w {E : EK} {K : DE} {ρ : DL.Env} : V_u_law_draws_2 E K ρ ↔ (sFgt [0, 3, 4, 5, 6, 7, 8] (sOwn 3 (dLst aNil))) E { K with nx := V_u_law_draws_3 E K } ρ := id Iff.rfl
@[reducible] def T_u_law_draws_1 : DS :=
    (sSeq (sIf (bBor (bT (dOp oEq (dBlt fLen (aCons (dVar 2) aNil)) (dC (.int 0))))) (sOwn 2 (dLst (aCons (dC (.int 7)) aNil))) sNext)
    T_u_law_draws_2)
def V_u_law_draws_1 : DS := T_u_law_draws_1
theorem V_u_law_draws_1_w {E : EK} {K : DE} {ρ : DL.Env} : V_u_law_draws_1 E K ρ ↔ (sIf (bBor (bT (dOp oEq (dBlt fLen (aCons (dVar 2) aNil)) (dC (.int 0))))) (sOwn 2 (dLst (aCons (dC (.int 7)) aNil))) sNext) E { K with nx := V_u_law_draws_2 E K } ρ := id Iff.rfl
@[reducible] def T_u_law_draws_0 : DS :=
    (sSeq (sOwn 2 (dBlt fList (aCons (dVar 0) aNil)))
    T_u_law_draws_1)
def V_u_law_draws_0 : DS := T_u_law_draws_0
theorem V_u_law_draws_0_w {E : EK} {K : DE} {ρ : DL.Env} : V_u_law_draws_0 E K ρ ↔ (sOwn 2 (dBlt fList (aCons (dVar 0) aNil))) E { K with nx := V_u_law_draws_1 E K } ρ := id Iff.rfl
@[reducible] def T_u_law_draws : DS := T_u_law_draws_0
def W0_u_law_draws : DF := defF 2 9 T_u_law_draws
abbrev W_u_law_draws : DF := wDraws
theorem W0_u_law_draws_w {ds : List D} {Q : DK} {E : Err → Prop} : W0_u_law_draws ds Q E ↔ ds.length = 2 ∧ V_u_law_draws_0 (fun e _ => E e) { nx := fun _ => False, rt := Q } (envOf 9 ds) := id Iff.rfl
abbrev W_u_law_take : DF := wDraw
@[reducible] def T_u_law_same_6 (R_u_law_same : DF) : DS :=
    (sRet (dAndV (dOp oEq (dBlt fLen (aCons (dVar 0) aNil)) (dBlt fLen (aCons (dVar 1) aNil))) (dBlt fAll (aCons (dLc (iRng1 (aCons (dBlt fLen (aCons (dVar 1) aNil)) aNil)) (gName 2) bYes (dCall R_u_law_same (aCons (dOp oIx (dVar 0) (dVar 2)) (aCons (dOp oIx (dVar 1) (dVar 2)) aNil))) [2]) aNil))))
def V_u_law_same_6 (R_u_law_same : DF) : DS := T_u_law_same_6 R_u_law_same
theorem V_u_law_same_6_w {R_u_law_same : DF} {E : EK} {K : DE} {ρ : DL.Env} : V_u_law_same_6 R_u_law_same E K ρ ↔ (sRet (dAndV (dOp oEq (dBlt fLen (aCons (dVar 0) aNil)) (dBlt fLen (aCons (dVar 1) aNil))) (dBlt fAll (aCons (dLc (iRng1 (aCons (dBlt fLen (aCons (dVar 1) aNil)) aNil)) (gName 2) bYes (dCall R_u_law_same (aCons (dOp oIx (dVar 0) (dVar 2)) (aCons (dOp oIx (dVar 1) (dVar 2)) aNil))) [2]) aNil)))) E K ρ := id Iff.rfl
@[reducible] def T_u_law_same_5 (R_u_law_same : DF) : DS :=
    (sSeq (sIf (bOr (bT (dOp oNe (dIsi "tuple" (dVar 1)) (dIsi "tuple" (dVar 0)))) (bT (dOp oNe (dIsi "list" (dVar 1)) (dIsi "list" (dVar 0))))) (sRet (dC (.bl false))) sNext)
    (T_u_law_same_6 R_u_law_same))
def V_u_law_same_5 (R_u_law_same : DF) : DS := T_u_law_same_5 R_u_law_same
theorem V_u_law_same_5_w {R_u_law_same : DF} {E : EK} {K : DE} {ρ : DL.Env} : V_u_law_same_5 R_u_law_same E K ρ ↔ (sIf (bOr (bT (dOp oNe (dIsi "tuple" (dVar 1)) (dIsi "tuple" (dVar 0)))) (bT (dOp oNe (dIsi "list" (dVar 1)) (dIsi "list" (dVar 0))))) (sRet (dC (.bl false))) sNext) E { K with nx := (V_u_law_same_6 R_u_law_same) E K } ρ := id Iff.rfl
@[reducible] def T_u_law_same_4 (R_u_law_same : DF) : DS :=
    (sSeq (sIf (bT (dIsi "dict" (dVar 1))) (sRet (dAndV (dIsi "dict" (dVar 0)) (dOp oEq (dVar 0) (dVar 1)))) sNext)
    (T_u_law_same_5 R_u_law_same))
def V_u_law_same_4 (R_u_law_same : DF) : DS := T_u_law_same_4 R_u_law_same
theorem V_u_law_same_4_w {R_u_law_same : DF} {E : EK} {K : DE} {ρ : DL.Env} : V_u_law_same_4 R_u_law_same E K ρ ↔ (sIf (bT (dIsi "dict" (dVar 1))) (sRet (dAndV (dIsi "dict" (dVar 0)) (dOp oEq (dVar 0) (dVar 1)))) sNext) E { K with nx := (V_u_law_same_5 R_u_law_same) E K } ρ := id Iff.rfl
@[reducible] def T_u_law_same_3 (R_u_law_same : DF) : DS :=
    (sSeq (sIf (bT (dIsi "str" (dVar 1))) (sRet (dAndV (dIsi "str" (dVar 0)) (dOp oEq (dVar 0) (dVar 1)))) sNext)
    (T_u_law_same_4 R_u_law_same))
def V_u_law_same_3 (R_u_law_same : DF) : DS := T_u_law_same_3 R_u_law_same
theorem V_u_law_same_3_w {R_u_law_same : DF} {E : EK} {K : DE} {ρ : DL.Env} : V_u_law_same_3 R_u_law_same E K ρ ↔ (sIf (bT (dIsi "str" (dVar 1))) (sRet (dAndV (dIsi "str" (dVar 0)) (dOp oEq (dVar 0) (dVar 1)))) sNext) E { K with nx := (V_u_law_same_4 R_u_law_same) E K } ρ := id Iff.rfl
@[reducible] def T_u_law_same_2 (R_u_law_same : DF) : DS :=
    (sSeq (sIf (bT (dIsi "int" (dVar 1))) (sRet (dAndV (dIsi "int" (dVar 0)) (dAndV (dNotV (dIsi "bool" (dVar 0))) (dOp oEq (dVar 0) (dVar 1))))) sNext)
    (T_u_law_same_3 R_u_law_same))
def V_u_law_same_2 (R_u_law_same : DF) : DS := T_u_law_same_2 R_u_law_same
theorem V_u_law_same_2_w {R_u_law_same : DF} {E : EK} {K : DE} {ρ : DL.Env} : V_u_law_same_2 R_u_law_same E K ρ ↔ (sIf (bT (dIsi "int" (dVar 1))) (sRet (dAndV (dIsi "int" (dVar 0)) (dAndV (dNotV (dIsi "bool" (dVar 0))) (dOp oEq (dVar 0) (dVar 1))))) sNext) E { K with nx := (V_u_law_same_3 R_u_law_same) E K } ρ := id Iff.rfl
@[reducible] def T_u_law_same_1 (R_u_law_same : DF) : DS :=
    (sSeq (sIf (bT (dIsi "bool" (dVar 1))) (sRet (dAndV (dIsi "bool" (dVar 0)) (dOp oEq (dVar 0) (dVar 1)))) sNext)
    (T_u_law_same_2 R_u_law_same))
def V_u_law_same_1 (R_u_law_same : DF) : DS := T_u_law_same_1 R_u_law_same
theorem V_u_law_same_1_w {R_u_law_same : DF} {E : EK} {K : DE} {ρ : DL.Env} : V_u_law_same_1 R_u_law_same E K ρ ↔ (sIf (bT (dIsi "bool" (dVar 1))) (sRet (dAndV (dIsi "bool" (dVar 0)) (dOp oEq (dVar 0) (dVar 1)))) sNext) E { K with nx := (V_u_law_same_2 R_u_law_same) E K } ρ := id Iff.rfl
@[reducible] def T_u_law_same_0 (R_u_law_same : DF) : DS :=
    (sSeq (sIf (bT (dOp oIs (dVar 1) (dC .non))) (sRet (dOp oIs (dVar 0) (dC .non))) sNext)
    (T_u_law_same_1 R_u_law_same))
def V_u_law_same_0 (R_u_law_same : DF) : DS := T_u_law_same_0 R_u_law_same
theorem V_u_law_same_0_w {R_u_law_same : DF} {E : EK} {K : DE} {ρ : DL.Env} : V_u_law_same_0 R_u_law_same E K ρ ↔ (sIf (bT (dOp oIs (dVar 1) (dC .non))) (sRet (dOp oIs (dVar 0) (dC .non))) sNext) E { K with nx := (V_u_law_same_1 R_u_law_same) E K } ρ := id Iff.rfl
@[reducible] def T_u_law_same (R_u_law_same : DF) : DS := (T_u_law_same_0 R_u_law_same)
def G_u_law_same : Nat → DF
  | 0 => fun _ _ _ => False
  | n + 1 => defT 2 3 (T_u_law_same (G_u_law_same n))
theorem G_u_law_same_w {n : Nat} {ds : List D} {Q : DK} {E : Err → Prop} : G_u_law_same (n + 1) ds Q E ↔ ds.length = 2 ∧ (V_u_law_same_0 (G_u_law_same n)) (fun e _ => E e) { nx := fun _ => Q .non, rt := Q } (envOf 3 ds) := id Iff.rfl
def W_u_law_same : DF := upN G_u_law_same 60
@[reducible] def T_u_law_fixtures_L1_2 : DS :=
    (sFgt [4, 5, 6] sNext)
def V_u_law_fixtures_L1_2 : DS := T_u_law_fixtures_L1_2
theorem V_u_law_fixtures_L1_2_w {E : EK} {K : DE} {ρ : DL.Env} : V_u_law_fixtures_L1_2 E K ρ ↔ (sFgt [4, 5, 6] sNext) E K ρ := id Iff.rfl
@[reducible] def T_u_law_fixtures_L1_1 : DS :=
    (sSeq (sApp 3 (dIf (bT (dOp oEq (dOp oMod (dBlt fInt (aCons (dVar 4) aNil)) (dC (.int 2))) (dC (.int 0)))) (dTup (aCons (dVar 5) (aCons (dVar 6) aNil))) (dTup (aCons (dVar 6) (aCons (dVar 5) aNil)))))
    T_u_law_fixtures_L1_2)
def V_u_law_fixtures_L1_1 : DS := T_u_law_fixtures_L1_1
theorem V_u_law_fixtures_L1_1_w {E : EK} {K : DE} {ρ : DL.Env} : V_u_law_fixtures_L1_1 E K ρ ↔ (sApp 3 (dIf (bT (dOp oEq (dOp oMod (dBlt fInt (aCons (dVar 4) aNil)) (dC (.int 2))) (dC (.int 0)))) (dTup (aCons (dVar 5) (aCons (dVar 6) aNil))) (dTup (aCons (dVar 6) (aCons (dVar 5) aNil))))) E { K with nx := V_u_law_fixtures_L1_2 E K } ρ := id Iff.rfl
@[reducible] def T_u_law_fixtures_L1_0 : DS :=
    (sSeq (sPar 5 6 (aCons (dOp oMod (dBlt fInt (aCons (dOp oAdd (dVar 2) (dVar 4)) aNil)) (dOp oSub (dVar 0) (dC (.int 1)))) (aCons (dOp oMod (dBlt fInt (aCons (dOp oSub (dVar 2) (dVar 4)) aNil)) (dOp oSub (dVar 0) (dC (.int 1)))) aNil)))
    T_u_law_fixtures_L1_1)
def V_u_law_fixtures_L1_0 : DS := T_u_law_fixtures_L1_0
theorem V_u_law_fixtures_L1_0_w {E : EK} {K : DE} {ρ : DL.Env} : V_u_law_fixtures_L1_0 E K ρ ↔ (sPar 5 6 (aCons (dOp oMod (dBlt fInt (aCons (dOp oAdd (dVar 2) (dVar 4)) aNil)) (dOp oSub (dVar 0) (dC (.int 1)))) (aCons (dOp oMod (dBlt fInt (aCons (dOp oSub (dVar 2) (dVar 4)) aNil)) (dOp oSub (dVar 0) (dC (.int 1)))) aNil))) E { K with nx := V_u_law_fixtures_L1_1 E K } ρ := id Iff.rfl
@[reducible] def T_u_law_fixtures_L2_3 : DS :=
    (sFgt [2, 3, 4, 5, 6] sNext)
def V_u_law_fixtures_L2_3 : DS := T_u_law_fixtures_L2_3
theorem V_u_law_fixtures_L2_3_w {E : EK} {K : DE} {ρ : DL.Env} : V_u_law_fixtures_L2_3 E K ρ ↔ (sFgt [2, 3, 4, 5, 6] sNext) E K ρ := id Iff.rfl
@[reducible] def T_u_law_fixtures_L2_2 : DS :=
    (sSeq (sFrz 3 (sApp 1 (dBlt fTuple (aCons (dVar 3) aNil))))
    T_u_law_fixtures_L2_3)
def V_u_law_fixtures_L2_2 : DS := T_u_law_fixtures_L2_2
theorem V_u_law_fixtures_L2_2_w {E : EK} {K : DE} {ρ : DL.Env} : V_u_law_fixtures_L2_2 E K ρ ↔ (sFrz 3 (sApp 1 (dBlt fTuple (aCons (dVar 3) aNil)))) E { K with nx := V_u_law_fixtures_L2_3 E K } ρ := id Iff.rfl
@[reducible] def T_u_law_fixtures_L2_1 : DS :=
    (sSeq (sFgt [4, 5, 6] (sFor (iRng2 (aCons (dC (.int 1)) (aCons (dOp oDiv (dVar 0) (dC (.int 2))) aNil))) (gName 4) T_u_law_fixtures_L1_0))
    T_u_law_fixtures_L2_2)
def V_u_law_fixtures_L2_1 : DS := T_u_law_fixtures_L2_1
theorem V_u_law_fixtures_L2_1_w {E : EK} {K : DE} {ρ : DL.Env} : V_u_law_fixtures_L2_1 E K ρ ↔ (sFgt [4, 5, 6] (sFor (iRng2 (aCons (dC (.int 1)) (aCons (dOp oDiv (dVar 0) (dC (.int 2))) aNil))) (gName 4) V_u_law_fixtures_L1_0)) E { K with nx := V_u_law_fixtures_L2_2 E K } ρ := by
  delta V_u_law_fixtures_L2_1 V_u_law_fixtures_L1_0 V_u_law_fixtures_L2_2
  exact seq_w _ _
@[reducible] def T_u_law_fixtures_L2_0 : DS :=
    (sSeq (sOwn 3 (dLst (aCons (dIf (bT (dOp oEq (dOp oMod (dBlt fInt (aCons (dVar 2) aNil)) (dC (.int 2))) (dC (.int 0)))) (dTup (aCons (dOp oSub (dVar 0) (dC (.int 1))) (aCons (dVar 2) aNil))) (dTup (aCons (dVar 2) (aCons (dOp oSub (dVar 0) (dC (.int 1))) aNil)))) aNil)))
    T_u_law_fixtures_L2_1)
def V_u_law_fixtures_L2_0 : DS := T_u_law_fixtures_L2_0
theorem V_u_law_fixtures_L2_0_w {E : EK} {K : DE} {ρ : DL.Env} : V_u_law_fixtures_L2_0 E K ρ ↔ (sOwn 3 (dLst (aCons (dIf (bT (dOp oEq (dOp oMod (dBlt fInt (aCons (dVar 2) aNil)) (dC (.int 2))) (dC (.int 0)))) (dTup (aCons (dOp oSub (dVar 0) (dC (.int 1))) (aCons (dVar 2) aNil))) (dTup (aCons (dVar 2) (aCons (dOp oSub (dVar 0) (dC (.int 1))) aNil)))) aNil))) E { K with nx := V_u_law_fixtures_L2_1 E K } ρ := id Iff.rfl
@[reducible] def T_u_law_fixtures_2 : DS :=
    (sFrz 1 (sRet (dBlt fTuple (aCons (dVar 1) aNil))))
def V_u_law_fixtures_2 : DS := T_u_law_fixtures_2
theorem V_u_law_fixtures_2_w {E : EK} {K : DE} {ρ : DL.Env} : V_u_law_fixtures_2 E K ρ ↔ (sFrz 1 (sRet (dBlt fTuple (aCons (dVar 1) aNil)))) E K ρ := id Iff.rfl
@[reducible] def T_u_law_fixtures_1 : DS :=
    (sSeq (sFgt [2, 3, 4, 5, 6] (sFor (iRng1 (aCons (dOp oSub (dVar 0) (dC (.int 1))) aNil)) (gName 2) T_u_law_fixtures_L2_0))
    T_u_law_fixtures_2)
def V_u_law_fixtures_1 : DS := T_u_law_fixtures_1
theorem V_u_law_fixtures_1_w {E : EK} {K : DE} {ρ : DL.Env} : V_u_law_fixtures_1 E K ρ ↔ (sFgt [2, 3, 4, 5, 6] (sFor (iRng1 (aCons (dOp oSub (dVar 0) (dC (.int 1))) aNil)) (gName 2) V_u_law_fixtures_L2_0)) E { K with nx := V_u_law_fixtures_2 E K } ρ := by
  delta V_u_law_fixtures_1 V_u_law_fixtures_L2_0 V_u_law_fixtures_2
  exact seq_w _ _
@[reducible] def T_u_law_fixtures_0 : DS :=
    (sSeq (sOwn 1 (dLst aNil))
    T_u_law_fixtures_1)
def V_u_law_fixtures_0 : DS := T_u_law_fixtures_0
theorem V_u_law_fixtures_0_w {E : EK} {K : DE} {ρ : DL.Env} : V_u_law_fixtures_0 E K ρ ↔ (sOwn 1 (dLst aNil)) E { K with nx := V_u_law_fixtures_1 E K } ρ := id Iff.rfl
@[reducible] def T_u_law_fixtures : DS := T_u_law_fixtures_0
def W_u_law_fixtures : DF := defT 1 7 T_u_law_fixtures
theorem W_u_law_fixtures_w {ds : List D} {Q : DK} {E : Err → Prop} : W_u_law_fixtures ds Q E ↔ ds.length = 1 ∧ V_u_law_fixtures_0 (fun e _ => E e) { nx := fun _ => Q .non, rt := Q } (envOf 7 ds) := id Iff.rfl
@[reducible] def T_u_law_takes_L1_1 : DS :=
    (sFgt [1, 3, 4, 5] sNext)
def V_u_law_takes_L1_1 : DS := T_u_law_takes_L1_1
theorem V_u_law_takes_L1_1_w {E : EK} {K : DE} {ρ : DL.Env} : V_u_law_takes_L1_1 E K ρ ↔ (sFgt [1, 3, 4, 5] sNext) E K ρ := id Iff.rfl
@[reducible] def T_u_law_takes_L1_0 : DS :=
    (sSeq (sPutT 2 (aCons (dBlt fMin (aCons (dVar 4) (aCons (dVar 5) aNil))) (aCons (dBlt fMax (aCons (dVar 4) (aCons (dVar 5) aNil))) aNil)) (dC (.bl true)))
    T_u_law_takes_L1_1)
def V_u_law_takes_L1_0 : DS := T_u_law_takes_L1_0
theorem V_u_law_takes_L1_0_w {E : EK} {K : DE} {ρ : DL.Env} : V_u_law_takes_L1_0 E K ρ ↔ (sPutT 2 (aCons (dBlt fMin (aCons (dVar 4) (aCons (dVar 5) aNil))) (aCons (dBlt fMax (aCons (dVar 4) (aCons (dVar 5) aNil))) aNil)) (dC (.bl true))) E { K with nx := V_u_law_takes_L1_1 E K } ρ := id Iff.rfl
@[reducible] def T_u_law_takes_L2_2 : DS :=
    (sFgt [1, 3, 4, 5] sNext)
def V_u_law_takes_L2_2 : DS := T_u_law_takes_L2_2
theorem V_u_law_takes_L2_2_w {E : EK} {K : DE} {ρ : DL.Env} : V_u_law_takes_L2_2 E K ρ ↔ (sFgt [1, 3, 4, 5] sNext) E K ρ := id Iff.rfl
@[reducible] def T_u_law_takes_L2_1 : DS :=
    (sSeq (sFgt [1, 4, 5] (sFor (iSeq (dVar 3)) (gTup (gCons (gName 4) (gCons (gName 5) gNil))) T_u_law_takes_L1_0))
    T_u_law_takes_L2_2)
def V_u_law_takes_L2_1 : DS := T_u_law_takes_L2_1
theorem V_u_law_takes_L2_1_w {E : EK} {K : DE} {ρ : DL.Env} : V_u_law_takes_L2_1 E K ρ ↔ (sFgt [1, 4, 5] (sFor (iSeq (dVar 3)) (gTup (gCons (gName 4) (gCons (gName 5) gNil))) V_u_law_takes_L1_0)) E { K with nx := V_u_law_takes_L2_2 E K } ρ := by
  delta V_u_law_takes_L2_1 V_u_law_takes_L1_0 V_u_law_takes_L2_2
  exact seq_w _ _
@[reducible] def T_u_law_takes_L2_0 : DS :=
    (sSeq (sIf (bT (dOp oNe (dBlt fSortX (aCons (dOp oAdd (dLc (iSeq (dVar 3)) (gTup (gCons (gName 4) (gCons (gName 5) gNil))) bYes (dVar 4) [4, 5]) (dLc (iSeq (dVar 3)) (gTup (gCons (gName 4) (gCons (gName 5) gNil))) bYes (dVar 5) [4, 5])) aNil)) (dLstRg (rgB1 (dVar 0))))) (sRet (dC (.bl false))) sNext)
    T_u_law_takes_L2_1)
def V_u_law_takes_L2_0 : DS := T_u_law_takes_L2_0
theorem V_u_law_takes_L2_0_w {E : EK} {K : DE} {ρ : DL.Env} : V_u_law_takes_L2_0 E K ρ ↔ (sIf (bT (dOp oNe (dBlt fSortX (aCons (dOp oAdd (dLc (iSeq (dVar 3)) (gTup (gCons (gName 4) (gCons (gName 5) gNil))) bYes (dVar 4) [4, 5]) (dLc (iSeq (dVar 3)) (gTup (gCons (gName 4) (gCons (gName 5) gNil))) bYes (dVar 5) [4, 5])) aNil)) (dLstRg (rgB1 (dVar 0))))) (sRet (dC (.bl false))) sNext) E { K with nx := V_u_law_takes_L2_1 E K } ρ := id Iff.rfl
@[reducible] def T_u_law_takes_3 : DS :=
    (sRet (dBor (dOp oEq (dBlt fLenT (aCons (dVar 2) aNil)) (dOp oDiv (dOp oMul (dVar 0) (dOp oSub (dVar 0) (dC (.int 1)))) (dC (.int 2))))))
def V_u_law_takes_3 : DS := T_u_law_takes_3
theorem V_u_law_takes_3_w {E : EK} {K : DE} {ρ : DL.Env} : V_u_law_takes_3 E K ρ ↔ (sRet (dBor (dOp oEq (dBlt fLenT (aCons (dVar 2) aNil)) (dOp oDiv (dOp oMul (dVar 0) (dOp oSub (dVar 0) (dC (.int 1)))) (dC (.int 2)))))) E K ρ := id Iff.rfl
@[reducible] def T_u_law_takes_2 : DS :=
    (sSeq (sFgt [3, 4, 5] (sFor (iSeq (dVar 1)) (gName 3) T_u_law_takes_L2_0))
    T_u_law_takes_3)
def V_u_law_takes_2 : DS := T_u_law_takes_2
theorem V_u_law_takes_2_w {E : EK} {K : DE} {ρ : DL.Env} : V_u_law_takes_2 E K ρ ↔ (sFgt [3, 4, 5] (sFor (iSeq (dVar 1)) (gName 3) V_u_law_takes_L2_0)) E { K with nx := V_u_law_takes_3 E K } ρ := by
  delta V_u_law_takes_2 V_u_law_takes_L2_0 V_u_law_takes_3
  exact seq_w _ _
@[reducible] def T_u_law_takes_1 : DS :=
    (sSeq (sOwn 2 dNewT)
    T_u_law_takes_2)
def V_u_law_takes_1 : DS := T_u_law_takes_1
theorem V_u_law_takes_1_w {E : EK} {K : DE} {ρ : DL.Env} : V_u_law_takes_1 E K ρ ↔ (sOwn 2 dNewT) E { K with nx := V_u_law_takes_2 E K } ρ := id Iff.rfl
@[reducible] def T_u_law_takes_0 : DS :=
    (sSeq (sIf (bT (dOp oNe (dBlt fLen (aCons (dVar 1) aNil)) (dOp oSub (dVar 0) (dC (.int 1))))) (sRet (dC (.bl false))) sNext)
    T_u_law_takes_1)
def V_u_law_takes_0 : DS := T_u_law_takes_0
theorem V_u_law_takes_0_w {E : EK} {K : DE} {ρ : DL.Env} : V_u_law_takes_0 E K ρ ↔ (sIf (bT (dOp oNe (dBlt fLen (aCons (dVar 1) aNil)) (dOp oSub (dVar 0) (dC (.int 1))))) (sRet (dC (.bl false))) sNext) E { K with nx := V_u_law_takes_1 E K } ρ := id Iff.rfl
@[reducible] def T_u_law_takes : DS := T_u_law_takes_0
def W_u_law_takes : DF := defT 2 6 T_u_law_takes
theorem W_u_law_takes_w {ds : List D} {Q : DK} {E : Err → Prop} : W_u_law_takes ds Q E ↔ ds.length = 2 ∧ V_u_law_takes_0 (fun e _ => E e) { nx := fun _ => Q .non, rt := Q } (envOf 6 ds) := id Iff.rfl
@[reducible] def T_u_law_breaks_L1_2 : DS :=
    (sFgt [0, 3, 4, 5, 6, 7, 8] sNext)
def V_u_law_breaks_L1_2 : DS := T_u_law_breaks_L1_2
theorem V_u_law_breaks_L1_2_w {E : EK} {K : DE} {ρ : DL.Env} : V_u_law_breaks_L1_2 E K ρ ↔ (sFgt [0, 3, 4, 5, 6, 7, 8] sNext) E K ρ := id Iff.rfl
@[reducible] def T_u_law_breaks_L1_1 : DS :=
    (sSeq (sSet 2 (dOp oAdd (dVar 2) (dBlt fLen (aCons (dLc (iRng1 (aCons (dOp oSub (dBlt fLen (aCons (dVar 4) aNil)) (dC (.int 1))) aNil)) (gName 8) (bT (dOp oEq (dOp oIx (dVar 4) (dVar 8)) (dOp oIx (dVar 4) (dOp oAdd (dVar 8) (dC (.int 1)))))) (dC (.int 1)) [8]) aNil))))
    T_u_law_breaks_L1_2)
def V_u_law_breaks_L1_1 : DS := T_u_law_breaks_L1_1
theorem V_u_law_breaks_L1_1_w {E : EK} {K : DE} {ρ : DL.Env} : V_u_law_breaks_L1_1 E K ρ ↔ (sSet 2 (dOp oAdd (dVar 2) (dBlt fLen (aCons (dLc (iRng1 (aCons (dOp oSub (dBlt fLen (aCons (dVar 4) aNil)) (dC (.int 1))) aNil)) (gName 8) (bT (dOp oEq (dOp oIx (dVar 4) (dVar 8)) (dOp oIx (dVar 4) (dOp oAdd (dVar 8) (dC (.int 1)))))) (dC (.int 1)) [8]) aNil)))) E { K with nx := V_u_law_breaks_L1_2 E K } ρ := id Iff.rfl
@[reducible] def T_u_law_breaks_L1_0 : DS :=
    (sSeq (sSet 4 (dLc (iSeq (dVar 1)) (gName 5) bYes (dBlt fLen (aCons (dLc (iSeq (dVar 5)) (gTup (gCons (gName 6) (gCons (gName 7) gNil))) (bT (dOp oEq (dVar 6) (dVar 3))) (dC (.int 1)) [6, 7]) aNil)) [5]))
    T_u_law_breaks_L1_1)
def V_u_law_breaks_L1_0 : DS := T_u_law_breaks_L1_0
theorem V_u_law_breaks_L1_0_w {E : EK} {K : DE} {ρ : DL.Env} : V_u_law_breaks_L1_0 E K ρ ↔ (sSet 4 (dLc (iSeq (dVar 1)) (gName 5) bYes (dBlt fLen (aCons (dLc (iSeq (dVar 5)) (gTup (gCons (gName 6) (gCons (gName 7) gNil))) (bT (dOp oEq (dVar 6) (dVar 3))) (dC (.int 1)) [6, 7]) aNil)) [5])) E { K with nx := V_u_law_breaks_L1_1 E K } ρ := id Iff.rfl
@[reducible] def T_u_law_breaks_2 : DS :=
    (sRet (dVar 2))
def V_u_law_breaks_2 : DS := T_u_law_breaks_2
theorem V_u_law_breaks_2_w {E : EK} {K : DE} {ρ : DL.Env} : V_u_law_breaks_2 E K ρ ↔ (sRet (dVar 2)) E K ρ := id Iff.rfl
@[reducible] def T_u_law_breaks_1 : DS :=
    (sSeq (sFgt [3, 4, 5, 6, 7, 8] (sFor (iRng1 (aCons (dVar 0) aNil)) (gName 3) T_u_law_breaks_L1_0))
    T_u_law_breaks_2)
def V_u_law_breaks_1 : DS := T_u_law_breaks_1
theorem V_u_law_breaks_1_w {E : EK} {K : DE} {ρ : DL.Env} : V_u_law_breaks_1 E K ρ ↔ (sFgt [3, 4, 5, 6, 7, 8] (sFor (iRng1 (aCons (dVar 0) aNil)) (gName 3) V_u_law_breaks_L1_0)) E { K with nx := V_u_law_breaks_2 E K } ρ := by
  delta V_u_law_breaks_1 V_u_law_breaks_L1_0 V_u_law_breaks_2
  exact seq_w _ _
@[reducible] def T_u_law_breaks_0 : DS :=
    (sSeq (sSet 2 (dC (.int 0)))
    T_u_law_breaks_1)
def V_u_law_breaks_0 : DS := T_u_law_breaks_0
theorem V_u_law_breaks_0_w {E : EK} {K : DE} {ρ : DL.Env} : V_u_law_breaks_0 E K ρ ↔ (sSet 2 (dC (.int 0))) E { K with nx := V_u_law_breaks_1 E K } ρ := id Iff.rfl
@[reducible] def T_u_law_breaks : DS := T_u_law_breaks_0
def W_u_law_breaks : DF := defT 2 9 T_u_law_breaks
theorem W_u_law_breaks_w {ds : List D} {Q : DK} {E : Err → Prop} : W_u_law_breaks ds Q E ↔ ds.length = 2 ∧ V_u_law_breaks_0 (fun e _ => E e) { nx := fun _ => Q .non, rt := Q } (envOf 9 ds) := id Iff.rfl
@[reducible] def T_u_law_bent_B1_2 : DS :=
    (sRet (dOp oAdd (dOp oAdd (dSlice (dVar 1) oN (oS (dVar 2))) (dTup (aCons (dVar 7) (aCons (dVar 8) aNil)))) (dSlice (dVar 1) (oS (dOp oAdd (dVar 2) (dC (.int 2)))) oN)))
def V_u_law_bent_B1_2 : DS := T_u_law_bent_B1_2
theorem V_u_law_bent_B1_2_w {E : EK} {K : DE} {ρ : DL.Env} : V_u_law_bent_B1_2 E K ρ ↔ (sRet (dOp oAdd (dOp oAdd (dSlice (dVar 1) oN (oS (dVar 2))) (dTup (aCons (dVar 7) (aCons (dVar 8) aNil)))) (dSlice (dVar 1) (oS (dOp oAdd (dVar 2) (dC (.int 2)))) oN))) E K ρ := id Iff.rfl
@[reducible] def T_u_law_bent_B1_1 : DS :=
    (sSeq (sSet 8 (dOp oAdd (dOp oAdd (dSlice (dVar 6) oN (oS (dVar 3))) (dTup (aCons (dOp oIx (dVar 4) (dVar 3)) aNil))) (dSlice (dVar 6) (oS (dOp oAdd (dVar 3) (dC (.int 1)))) oN)))
    T_u_law_bent_B1_2)
def V_u_law_bent_B1_1 : DS := T_u_law_bent_B1_1
theorem V_u_law_bent_B1_1_w {E : EK} {K : DE} {ρ : DL.Env} : V_u_law_bent_B1_1 E K ρ ↔ (sSet 8 (dOp oAdd (dOp oAdd (dSlice (dVar 6) oN (oS (dVar 3))) (dTup (aCons (dOp oIx (dVar 4) (dVar 3)) aNil))) (dSlice (dVar 6) (oS (dOp oAdd (dVar 3) (dC (.int 1)))) oN))) E { K with nx := V_u_law_bent_B1_2 E K } ρ := id Iff.rfl
@[reducible] def T_u_law_bent_B1_0 : DS :=
    (sSeq (sSet 7 (dOp oAdd (dOp oAdd (dSlice (dVar 4) oN (oS (dVar 3))) (dTup (aCons (dOp oIx (dVar 6) (dVar 3)) aNil))) (dSlice (dVar 4) (oS (dOp oAdd (dVar 3) (dC (.int 1)))) oN)))
    T_u_law_bent_B1_1)
def V_u_law_bent_B1_0 : DS := T_u_law_bent_B1_0
theorem V_u_law_bent_B1_0_w {E : EK} {K : DE} {ρ : DL.Env} : V_u_law_bent_B1_0 E K ρ ↔ (sSet 7 (dOp oAdd (dOp oAdd (dSlice (dVar 4) oN (oS (dVar 3))) (dTup (aCons (dOp oIx (dVar 6) (dVar 3)) aNil))) (dSlice (dVar 4) (oS (dOp oAdd (dVar 3) (dC (.int 1)))) oN))) E { K with nx := V_u_law_bent_B1_1 E K } ρ := id Iff.rfl
@[reducible] def T_u_law_bent_11 : DS :=
    (sRet (dRev (dVar 1)))
def V_u_law_bent_11 : DS := T_u_law_bent_11
theorem V_u_law_bent_11_w {E : EK} {K : DE} {ρ : DL.Env} : V_u_law_bent_11 E K ρ ↔ (sRet (dRev (dVar 1))) E K ρ := id Iff.rfl
@[reducible] def T_u_law_bent_10 : DS :=
    (sSeq (sIf (bT (dOp oEq (dVar 5) (dC (.int 4)))) (sRet (dOp oAdd (dOp oAdd (dSlice (dVar 1) oN (oS (dVar 2))) (dTup (aCons (dOp oAdd (dOp oAdd (dSlice (dVar 4) oN (oS (dVar 3))) (dTup (aCons (dTup (aCons (dOp oIx (dOp oIx (dVar 4) (dVar 3)) (dC (.int 0))) (aCons (dOp oIx (dOp oIx (dVar 4) (dC (.int 0))) (dC (.int 1))) aNil))) aNil))) (dSlice (dVar 4) (oS (dOp oAdd (dVar 3) (dC (.int 1)))) oN)) aNil))) (dSlice (dVar 1) (oS (dOp oAdd (dVar 2) (dC (.int 1)))) oN))) sNext)
    T_u_law_bent_11)
def V_u_law_bent_10 : DS := T_u_law_bent_10
theorem V_u_law_bent_10_w {E : EK} {K : DE} {ρ : DL.Env} : V_u_law_bent_10 E K ρ ↔ (sIf (bT (dOp oEq (dVar 5) (dC (.int 4)))) (sRet (dOp oAdd (dOp oAdd (dSlice (dVar 1) oN (oS (dVar 2))) (dTup (aCons (dOp oAdd (dOp oAdd (dSlice (dVar 4) oN (oS (dVar 3))) (dTup (aCons (dTup (aCons (dOp oIx (dOp oIx (dVar 4) (dVar 3)) (dC (.int 0))) (aCons (dOp oIx (dOp oIx (dVar 4) (dC (.int 0))) (dC (.int 1))) aNil))) aNil))) (dSlice (dVar 4) (oS (dOp oAdd (dVar 3) (dC (.int 1)))) oN)) aNil))) (dSlice (dVar 1) (oS (dOp oAdd (dVar 2) (dC (.int 1)))) oN))) sNext) E { K with nx := V_u_law_bent_11 E K } ρ := id Iff.rfl
@[reducible] def T_u_law_bent_9 : DS :=
    (sSeq (sIf (bT (dOp oEq (dVar 5) (dC (.int 3)))) (sRet (dOp oAdd (dOp oAdd (dSlice (dVar 1) oN (oS (dVar 2))) (dSlice (dVar 1) (oS (dVar 2)) (oS (dOp oAdd (dVar 2) (dC (.int 1)))))) (dSlice (dVar 1) (oS (dVar 2)) oN))) sNext)
    T_u_law_bent_10)
def V_u_law_bent_9 : DS := T_u_law_bent_9
theorem V_u_law_bent_9_w {E : EK} {K : DE} {ρ : DL.Env} : V_u_law_bent_9 E K ρ ↔ (sIf (bT (dOp oEq (dVar 5) (dC (.int 3)))) (sRet (dOp oAdd (dOp oAdd (dSlice (dVar 1) oN (oS (dVar 2))) (dSlice (dVar 1) (oS (dVar 2)) (oS (dOp oAdd (dVar 2) (dC (.int 1)))))) (dSlice (dVar 1) (oS (dVar 2)) oN))) sNext) E { K with nx := V_u_law_bent_10 E K } ρ := id Iff.rfl
@[reducible] def T_u_law_bent_8 : DS :=
    (sSeq (sIf (bT (dOp oEq (dVar 5) (dC (.int 2)))) (sRet (dOp oAdd (dOp oAdd (dSlice (dVar 1) oN (oS (dVar 2))) (dTup (aCons (dOp oAdd (dSlice (dVar 4) oN (oS (dVar 3))) (dSlice (dVar 4) (oS (dOp oAdd (dVar 3) (dC (.int 1)))) oN)) aNil))) (dSlice (dVar 1) (oS (dOp oAdd (dVar 2) (dC (.int 1)))) oN))) sNext)
    T_u_law_bent_9)
def V_u_law_bent_8 : DS := T_u_law_bent_8
theorem V_u_law_bent_8_w {E : EK} {K : DE} {ρ : DL.Env} : V_u_law_bent_8 E K ρ ↔ (sIf (bT (dOp oEq (dVar 5) (dC (.int 2)))) (sRet (dOp oAdd (dOp oAdd (dSlice (dVar 1) oN (oS (dVar 2))) (dTup (aCons (dOp oAdd (dSlice (dVar 4) oN (oS (dVar 3))) (dSlice (dVar 4) (oS (dOp oAdd (dVar 3) (dC (.int 1)))) oN)) aNil))) (dSlice (dVar 1) (oS (dOp oAdd (dVar 2) (dC (.int 1)))) oN))) sNext) E { K with nx := V_u_law_bent_9 E K } ρ := id Iff.rfl
@[reducible] def T_u_law_bent_7 : DS :=
    (sSeq (sIf (bT (dOp oEq (dVar 5) (dC (.int 1)))) (sRet (dOp oAdd (dOp oAdd (dSlice (dVar 1) oN (oS (dVar 2))) (dTup (aCons (dOp oAdd (dOp oAdd (dSlice (dVar 4) oN (oS (dVar 3))) (dTup (aCons (dRev (dOp oIx (dVar 4) (dVar 3))) aNil))) (dSlice (dVar 4) (oS (dOp oAdd (dVar 3) (dC (.int 1)))) oN)) aNil))) (dSlice (dVar 1) (oS (dOp oAdd (dVar 2) (dC (.int 1)))) oN))) sNext)
    T_u_law_bent_8)
def V_u_law_bent_7 : DS := T_u_law_bent_7
theorem V_u_law_bent_7_w {E : EK} {K : DE} {ρ : DL.Env} : V_u_law_bent_7 E K ρ ↔ (sIf (bT (dOp oEq (dVar 5) (dC (.int 1)))) (sRet (dOp oAdd (dOp oAdd (dSlice (dVar 1) oN (oS (dVar 2))) (dTup (aCons (dOp oAdd (dOp oAdd (dSlice (dVar 4) oN (oS (dVar 3))) (dTup (aCons (dRev (dOp oIx (dVar 4) (dVar 3))) aNil))) (dSlice (dVar 4) (oS (dOp oAdd (dVar 3) (dC (.int 1)))) oN)) aNil))) (dSlice (dVar 1) (oS (dOp oAdd (dVar 2) (dC (.int 1)))) oN))) sNext) E { K with nx := V_u_law_bent_8 E K } ρ := id Iff.rfl
@[reducible] def T_u_law_bent_6 : DS :=
    (sSeq (sIf (bT (dOp oEq (dVar 5) (dC (.int 0)))) (sRet (dOp oAdd (dSlice (dVar 1) oN (oS (dVar 2))) (dSlice (dVar 1) (oS (dOp oAdd (dVar 2) (dC (.int 1)))) oN))) sNext)
    T_u_law_bent_7)
def V_u_law_bent_6 : DS := T_u_law_bent_6
theorem V_u_law_bent_6_w {E : EK} {K : DE} {ρ : DL.Env} : V_u_law_bent_6 E K ρ ↔ (sIf (bT (dOp oEq (dVar 5) (dC (.int 0)))) (sRet (dOp oAdd (dSlice (dVar 1) oN (oS (dVar 2))) (dSlice (dVar 1) (oS (dOp oAdd (dVar 2) (dC (.int 1)))) oN))) sNext) E { K with nx := V_u_law_bent_7 E K } ρ := id Iff.rfl
@[reducible] def T_u_law_bent_5 : DS :=
    (sSeq (sIf (bAnd (bT (dOp oEq (dVar 5) (dC (.int 7)))) (bT (dOp oLt (dOp oAdd (dVar 2) (dC (.int 1))) (dBlt fLen (aCons (dVar 1) aNil))))) T_u_law_bent_B1_0 sNext)
    T_u_law_bent_6)
def V_u_law_bent_5 : DS := T_u_law_bent_5
theorem V_u_law_bent_5_w {E : EK} {K : DE} {ρ : DL.Env} : V_u_law_bent_5 E K ρ ↔ (sIf (bAnd (bT (dOp oEq (dVar 5) (dC (.int 7)))) (bT (dOp oLt (dOp oAdd (dVar 2) (dC (.int 1))) (dBlt fLen (aCons (dVar 1) aNil))))) V_u_law_bent_B1_0 sNext) E { K with nx := V_u_law_bent_6 E K } ρ := by
  delta V_u_law_bent_5 V_u_law_bent_B1_0 V_u_law_bent_6
  exact seq_w _ _
@[reducible] def T_u_law_bent_4 : DS :=
    (sSeq (sIf (bT (dOp oEq (dVar 5) (dC (.int 6)))) (sRet (dOp oAdd (dOp oAdd (dSlice (dVar 1) oN (oS (dVar 2))) (dTup (aCons (dVar 6) aNil))) (dSlice (dVar 1) (oS (dOp oAdd (dVar 2) (dC (.int 1)))) oN))) sNext)
    T_u_law_bent_5)
def V_u_law_bent_4 : DS := T_u_law_bent_4
theorem V_u_law_bent_4_w {E : EK} {K : DE} {ρ : DL.Env} : V_u_law_bent_4 E K ρ ↔ (sIf (bT (dOp oEq (dVar 5) (dC (.int 6)))) (sRet (dOp oAdd (dOp oAdd (dSlice (dVar 1) oN (oS (dVar 2))) (dTup (aCons (dVar 6) aNil))) (dSlice (dVar 1) (oS (dOp oAdd (dVar 2) (dC (.int 1)))) oN))) sNext) E { K with nx := V_u_law_bent_5 E K } ρ := id Iff.rfl
@[reducible] def T_u_law_bent_3 : DS :=
    (sSeq (sSet 6 (dOp oIx (dVar 1) (dOp oMod (dBlt fInt (aCons (dOp oAdd (dVar 2) (dC (.int 1))) aNil)) (dBlt fLen (aCons (dVar 1) aNil)))))
    T_u_law_bent_4)
def V_u_law_bent_3 : DS := T_u_law_bent_3
theorem V_u_law_bent_3_w {E : EK} {K : DE} {ρ : DL.Env} : V_u_law_bent_3 E K ρ ↔ (sSet 6 (dOp oIx (dVar 1) (dOp oMod (dBlt fInt (aCons (dOp oAdd (dVar 2) (dC (.int 1))) aNil)) (dBlt fLen (aCons (dVar 1) aNil))))) E { K with nx := V_u_law_bent_4 E K } ρ := id Iff.rfl
@[reducible] def T_u_law_bent_2 : DS :=
    (sSeq (sSet 5 (dCall W_u_law_take (aCons (dVar 0) (aCons (dC (.int 8)) aNil))))
    T_u_law_bent_3)
def V_u_law_bent_2 : DS := T_u_law_bent_2
theorem V_u_law_bent_2_w {E : EK} {K : DE} {ρ : DL.Env} : V_u_law_bent_2 E K ρ ↔ (sSet 5 (dCall W_u_law_take (aCons (dVar 0) (aCons (dC (.int 8)) aNil)))) E { K with nx := V_u_law_bent_3 E K } ρ := id Iff.rfl
@[reducible] def T_u_law_bent_1 : DS :=
    (sSeq (sSet 4 (dOp oIx (dVar 1) (dVar 2)))
    T_u_law_bent_2)
def V_u_law_bent_1 : DS := T_u_law_bent_1
theorem V_u_law_bent_1_w {E : EK} {K : DE} {ρ : DL.Env} : V_u_law_bent_1 E K ρ ↔ (sSet 4 (dOp oIx (dVar 1) (dVar 2))) E { K with nx := V_u_law_bent_2 E K } ρ := id Iff.rfl
@[reducible] def T_u_law_bent_0 : DS :=
    (sSeq (sPar 2 3 (aCons (dCall W_u_law_take (aCons (dVar 0) (aCons (dBlt fLen (aCons (dVar 1) aNil)) aNil))) (aCons (dCall W_u_law_take (aCons (dVar 0) (aCons (dBlt fLen (aCons (dOp oIx (dVar 1) (dC (.int 0))) aNil)) aNil))) aNil)))
    T_u_law_bent_1)
def V_u_law_bent_0 : DS := T_u_law_bent_0
theorem V_u_law_bent_0_w {E : EK} {K : DE} {ρ : DL.Env} : V_u_law_bent_0 E K ρ ↔ (sPar 2 3 (aCons (dCall W_u_law_take (aCons (dVar 0) (aCons (dBlt fLen (aCons (dVar 1) aNil)) aNil))) (aCons (dCall W_u_law_take (aCons (dVar 0) (aCons (dBlt fLen (aCons (dOp oIx (dVar 1) (dC (.int 0))) aNil)) aNil))) aNil))) E { K with nx := V_u_law_bent_1 E K } ρ := id Iff.rfl
@[reducible] def T_u_law_bent : DS := T_u_law_bent_0
def W_u_law_bent : DF := defT 2 9 T_u_law_bent
theorem W_u_law_bent_w {ds : List D} {Q : DK} {E : Err → Prop} : W_u_law_bent ds Q E ↔ ds.length = 2 ∧ V_u_law_bent_0 (fun e _ => E e) { nx := fun _ => Q .non, rt := Q } (envOf 9 ds) := id Iff.rfl
@[reducible] def T_law_L1_3 : DS :=
    (sFgt [0, 2, 5, 6, 7, 8, 9] sNext)
@[irreducible] def V_law_L1_3 : DS := T_law_L1_3
theorem V_law_L1_3_w {E : EK} {K : DE} {ρ : DL.Env} : V_law_L1_3 E K ρ ↔ (sFgt [0, 2, 5, 6, 7, 8, 9] sNext) E K ρ := by
  delta V_law_L1_3
  exact Iff.rfl
@[reducible] def T_law_L1_2 : DS :=
    (sSeq (sIf (bOr (bNot (bT (dCall W_u_law_same (aCons (dCall W_takes_fixtures (aCons (dVar 3) (aCons (dVar 6) aNil))) (aCons (dVar 7) aNil))))) (bAnd (bTruth (dVar 7)) (bNot (bT (dCall W_u_law_same (aCons (dCall W_breaks (aCons (dVar 3) (aCons (dVar 6) aNil))) (aCons (dCall W_u_law_breaks (aCons (dVar 3) (aCons (dVar 6) aNil))) aNil))))))) (sRet (dC (.bl false))) sNext)
    T_law_L1_3)
@[irreducible] def V_law_L1_2 : DS := T_law_L1_2
theorem V_law_L1_2_w {E : EK} {K : DE} {ρ : DL.Env} : V_law_L1_2 E K ρ ↔ (sIf (bOr (bNot (bT (dCall W_u_law_same (aCons (dCall W_takes_fixtures (aCons (dVar 3) (aCons (dVar 6) aNil))) (aCons (dVar 7) aNil))))) (bAnd (bTruth (dVar 7)) (bNot (bT (dCall W_u_law_same (aCons (dCall W_breaks (aCons (dVar 3) (aCons (dVar 6) aNil))) (aCons (dCall W_u_law_breaks (aCons (dVar 3) (aCons (dVar 6) aNil))) aNil))))))) (sRet (dC (.bl false))) sNext) E { K with nx := V_law_L1_3 E K } ρ := by
  delta V_law_L1_2 V_law_L1_3
  exact seq_w _ _
@[reducible] def T_law_L1_1 : DS :=
    (sSeq (sSet 7 (dCall W_u_law_takes (aCons (dVar 3) (aCons (dVar 6) aNil))))
    T_law_L1_2)
@[irreducible] def V_law_L1_1 : DS := T_law_L1_1
theorem V_law_L1_1_w {E : EK} {K : DE} {ρ : DL.Env} : V_law_L1_1 E K ρ ↔ (sSet 7 (dCall W_u_law_takes (aCons (dVar 3) (aCons (dVar 6) aNil)))) E { K with nx := V_law_L1_2 E K } ρ := by
  delta V_law_L1_1 V_law_L1_2
  exact seq_w _ _
@[reducible] def T_law_L1_0 : DS :=
    (sSeq (sSet 6 (dCall W_u_law_bent (aCons (dVar 1) (aCons (dVar 4) aNil))))
    T_law_L1_1)
@[irreducible] def V_law_L1_0 : DS := T_law_L1_0
theorem V_law_L1_0_w {E : EK} {K : DE} {ρ : DL.Env} : V_law_L1_0 E K ρ ↔ (sSet 6 (dCall W_u_law_bent (aCons (dVar 1) (aCons (dVar 4) aNil)))) E { K with nx := V_law_L1_1 E K } ρ := by
  delta V_law_L1_0 V_law_L1_1
  exact seq_w _ _
@[reducible] def T_law_L2_6 : DS :=
    (sFgt [0, 2, 3, 4, 5, 6, 7, 8, 9] sNext)
@[irreducible] def V_law_L2_6 : DS := T_law_L2_6
theorem V_law_L2_6_w {E : EK} {K : DE} {ρ : DL.Env} : V_law_L2_6 E K ρ ↔ (sFgt [0, 2, 3, 4, 5, 6, 7, 8, 9] sNext) E K ρ := by
  delta V_law_L2_6
  exact Iff.rfl
@[reducible] def T_law_L2_5 : DS :=
    (sSeq (sForLam 9 [sIf (bNot (bTruth (dCodeV ["JobError"] [("JobError", (xOp oEq (xFld "code") (xC (.str "teams"))))] (.bl false) (dCall W_fixtures (aCons (dVar 8) aNil))))) (sRet (dC (.bl false))) sNext, sIf (bNot (bTruth (dCodeV ["JobError"] [("JobError", (xOp oEq (xFld "code") (xC (.str "teams"))))] (.bl false) (dCall W_takes_fixtures (aCons (dVar 8) (aCons (dTup aNil) aNil)))))) (sRet (dC (.bl false))) sNext, sIf (bNot (bTruth (dCodeV ["JobError"] [("JobError", (xOp oEq (xFld "code") (xC (.str "teams"))))] (.bl false) (dCall W_breaks (aCons (dVar 8) (aCons (dTup aNil) aNil)))))) (sRet (dC (.bl false))) sNext])
    T_law_L2_6)
@[irreducible] def V_law_L2_5 : DS := T_law_L2_5
theorem V_law_L2_5_w {E : EK} {K : DE} {ρ : DL.Env} : V_law_L2_5 E K ρ ↔ (sForLam 9 [sIf (bNot (bTruth (dCodeV ["JobError"] [("JobError", (xOp oEq (xFld "code") (xC (.str "teams"))))] (.bl false) (dCall W_fixtures (aCons (dVar 8) aNil))))) (sRet (dC (.bl false))) sNext, sIf (bNot (bTruth (dCodeV ["JobError"] [("JobError", (xOp oEq (xFld "code") (xC (.str "teams"))))] (.bl false) (dCall W_takes_fixtures (aCons (dVar 8) (aCons (dTup aNil) aNil)))))) (sRet (dC (.bl false))) sNext, sIf (bNot (bTruth (dCodeV ["JobError"] [("JobError", (xOp oEq (xFld "code") (xC (.str "teams"))))] (.bl false) (dCall W_breaks (aCons (dVar 8) (aCons (dTup aNil) aNil)))))) (sRet (dC (.bl false))) sNext]) E { K with nx := V_law_L2_6 E K } ρ := by
  delta V_law_L2_5 V_law_L2_6
  exact seq_w _ _
@[reducible] def T_law_L2_4 : DS :=
    (sSeq (sSet 8 (dOp oIx (dTup (aCons (dC (.int 0)) (aCons (dC (.int 1)) (aCons (dC (.int 3)) (aCons (dC (.int 22)) (aCons (dUn oNeg (dC (.int 2))) (aCons (dC (.int 21)) aNil))))))) (dCall W_u_law_take (aCons (dVar 1) (aCons (dC (.int 6)) aNil)))))
    T_law_L2_5)
@[irreducible] def V_law_L2_4 : DS := T_law_L2_4
theorem V_law_L2_4_w {E : EK} {K : DE} {ρ : DL.Env} : V_law_L2_4 E K ρ ↔ (sSet 8 (dOp oIx (dTup (aCons (dC (.int 0)) (aCons (dC (.int 1)) (aCons (dC (.int 3)) (aCons (dC (.int 22)) (aCons (dUn oNeg (dC (.int 2))) (aCons (dC (.int 21)) aNil))))))) (dCall W_u_law_take (aCons (dVar 1) (aCons (dC (.int 6)) aNil))))) E { K with nx := V_law_L2_5 E K } ρ := by
  delta V_law_L2_4 V_law_L2_5
  exact seq_w _ _
@[reducible] def T_law_L2_3 : DS :=
    (sSeq (sFgt [0, 2, 5, 6, 7, 8, 9] (sFor (iRng1 (aCons (dC (.int 4)) aNil)) (gName 5) T_law_L1_0))
    T_law_L2_4)
@[irreducible] def V_law_L2_3 : DS := T_law_L2_3
theorem V_law_L2_3_w {E : EK} {K : DE} {ρ : DL.Env} : V_law_L2_3 E K ρ ↔ (sFgt [0, 2, 5, 6, 7, 8, 9] (sFor (iRng1 (aCons (dC (.int 4)) aNil)) (gName 5) V_law_L1_0)) E { K with nx := V_law_L2_4 E K } ρ := by
  delta V_law_L2_3 V_law_L1_0 V_law_L2_4
  exact seq_w _ _
@[reducible] def T_law_L2_2 : DS :=
    (sSeq (sIf (bOr (bNot (bT (dCall W_u_law_same (aCons (dVar 4) (aCons (dCall W_u_law_fixtures (aCons (dVar 3) aNil)) aNil))))) (bOr (bT (dOp oNotB (dCall W_takes_fixtures (aCons (dVar 3) (aCons (dVar 4) aNil))) (dC (.bl true)))) (bT (dOp oNe (dCall W_breaks (aCons (dVar 3) (aCons (dVar 4) aNil))) (dOp oSub (dVar 3) (dC (.int 2))))))) (sRet (dC (.bl false))) sNext)
    T_law_L2_3)
@[irreducible] def V_law_L2_2 : DS := T_law_L2_2
theorem V_law_L2_2_w {E : EK} {K : DE} {ρ : DL.Env} : V_law_L2_2 E K ρ ↔ (sIf (bOr (bNot (bT (dCall W_u_law_same (aCons (dVar 4) (aCons (dCall W_u_law_fixtures (aCons (dVar 3) aNil)) aNil))))) (bOr (bT (dOp oNotB (dCall W_takes_fixtures (aCons (dVar 3) (aCons (dVar 4) aNil))) (dC (.bl true)))) (bT (dOp oNe (dCall W_breaks (aCons (dVar 3) (aCons (dVar 4) aNil))) (dOp oSub (dVar 3) (dC (.int 2))))))) (sRet (dC (.bl false))) sNext) E { K with nx := V_law_L2_3 E K } ρ := by
  delta V_law_L2_2 V_law_L2_3
  exact seq_w _ _
@[reducible] def T_law_L2_1 : DS :=
    (sSeq (sSet 4 (dCall W_fixtures (aCons (dVar 3) aNil)))
    T_law_L2_2)
@[irreducible] def V_law_L2_1 : DS := T_law_L2_1
theorem V_law_L2_1_w {E : EK} {K : DE} {ρ : DL.Env} : V_law_L2_1 E K ρ ↔ (sSet 4 (dCall W_fixtures (aCons (dVar 3) aNil))) E { K with nx := V_law_L2_2 E K } ρ := by
  delta V_law_L2_1 V_law_L2_2
  exact seq_w _ _
@[reducible] def T_law_L2_0 : DS :=
    (sSeq (sSet 3 (dOp oMul (dC (.int 2)) (dOp oAdd (dC (.int 1)) (dCall W_u_law_take (aCons (dVar 1) (aCons (dC (.int 10)) aNil))))))
    T_law_L2_1)
@[irreducible] def V_law_L2_0 : DS := T_law_L2_0
theorem V_law_L2_0_w {E : EK} {K : DE} {ρ : DL.Env} : V_law_L2_0 E K ρ ↔ (sSet 3 (dOp oMul (dC (.int 2)) (dOp oAdd (dC (.int 1)) (dCall W_u_law_take (aCons (dVar 1) (aCons (dC (.int 10)) aNil)))))) E { K with nx := V_law_L2_1 E K } ρ := by
  delta V_law_L2_0 V_law_L2_1
  exact seq_w _ _
@[reducible] def T_law_2 : DS :=
    (sRet (dC (.bl true)))
@[irreducible] def V_law_2 : DS := T_law_2
theorem V_law_2_w {E : EK} {K : DE} {ρ : DL.Env} : V_law_2 E K ρ ↔ (sRet (dC (.bl true))) E K ρ := by
  delta V_law_2
  exact Iff.rfl
@[reducible] def T_law_1 : DS :=
    (sSeq (sFgt [0, 2, 3, 4, 5, 6, 7, 8, 9] (sFor (iRng1 (aCons (dC (.int 3)) aNil)) (gName 2) T_law_L2_0))
    T_law_2)
@[irreducible] def V_law_1 : DS := T_law_1
theorem V_law_1_w {E : EK} {K : DE} {ρ : DL.Env} : V_law_1 E K ρ ↔ (sFgt [0, 2, 3, 4, 5, 6, 7, 8, 9] (sFor (iRng1 (aCons (dC (.int 3)) aNil)) (gName 2) V_law_L2_0)) E { K with nx := V_law_2 E K } ρ := by
  delta V_law_1 V_law_L2_0 V_law_2
  exact seq_w _ _
@[reducible] def T_law_0 : DS :=
    (sSeq (sSet 1 (dCall W_u_law_draws (aCons (dVar 0) (aCons (dC (.int 100)) aNil))))
    T_law_1)
@[irreducible] def V_law_0 : DS := T_law_0
theorem V_law_0_w {E : EK} {K : DE} {ρ : DL.Env} : V_law_0 E K ρ ↔ (sSet 1 (dCall W_u_law_draws (aCons (dVar 0) (aCons (dC (.int 100)) aNil)))) E { K with nx := V_law_1 E K } ρ := by
  delta V_law_0 V_law_1
  exact seq_w _ _
@[reducible] def T_law : DS := T_law_0
def W_law : DF := defT 1 10 T_law
theorem W_law_w {ds : List D} {Q : DK} {E : Err → Prop} : W_law ds Q E ↔ ds.length = 1 ∧ V_law_0 (fun e _ => E e) { nx := fun _ => Q .non, rt := Q } (envOf 10 ds) := by
  delta V_law_0
  exact Iff.rfl
end K62

/-! DVcM: rows of DCoreM for simp. -/
namespace DL
open PySem
@[simp] theorem w_mt {T : String} {f : List D → DK → Prop} {p : DT} {q : DA} {E : EK} {ρ : DL.Env} {Q : DK} : dMt T f p q E ρ Q ↔ p E ρ fun x => tyD T x ∧ q E ρ fun xs => f (x :: xs) Q := ⟨fun h => h, fun h => h⟩
@[simp] theorem tyD_s {T : String} {z : Str} : tyD T (.str z) ↔ T = "str" := ⟨fun h => h, fun h => h⟩
@[simp] theorem tyD_l {T : String} {z : List D} : tyD T (.lst z) ↔ T = "list" := ⟨fun h => h, fun h => h⟩
theorem strsOf_map (ys : List Str) : strsOf (ys.map D.str) = some ys := by
  induction ys with
  | nil => rfl
  | cons y ys ih =>
    show (strsOf (ys.map D.str)).map (y :: ·) = _
    rw [ih]
    rfl
theorem fIndex_ints {ns : List Int} {k : Int} {Q : DK} (j : Nat) (h : ns[j]? = some k) (h2 : ∀ m, m < j → ns[m]? ≠ some k) (q : Q (.int (j : Nat))) : fIndex [.lst (ns.map D.int), .int k] Q := by
  refine ⟨rfl, ?_, j, ⟨.int k, by rw [List.getElem?_map, h]; rfl, by simp⟩, fun m z hm hz => ?_, q⟩
  · rw [List.all_map]
    exact List.all_eq_true.mpr fun _ _ => rfl
  · rw [List.getElem?_map] at hz
    obtain ⟨y, hy, rfl⟩ := Option.map_eq_some_iff.mp hz
    have : y ≠ k := fun z => h2 m hm (z ▸ hy)
    simp [this]
@[simp] theorem w_s2 {g : Str → Str → D} {a b : Str} {Q : DK} : fS2 g [.str a, .str b] Q ↔ Q (g a b) := ⟨fun h => h, fun h => h⟩
@[simp] theorem w_s1 {C : Str → Prop} {g : Str → D} {a : Str} {Q : DK} : fS1 C g [.str a] Q ↔ C a ∧ Q (g a) := ⟨fun h => h, fun h => h⟩
@[simp] theorem w_split {a b : Str} {Q : DK} : fSplit [.str a, .str b] Q ↔ (b.length == 0) = false ∧ a.length + 2 ≤ lineMax ∧ Q (.lst ((Txt.split a b).map D.str)) := ⟨fun h => h, fun h => h⟩
@[simp] theorem w_divN {i j : Int} {Q : DK} : oDivN (.int i) (.int j) Q ↔ (j ≠ 0 ∧ j.natAbs.log2 < 9000) ∧ Q (.int (i.fdiv j)) := ⟨fun h => h, fun h => h⟩
@[simp] theorem up_draws {ns : List Int} {c : Int} {Q : DK} {E : Err → Prop} : up wDraws [.scr ns, .int c] Q E ↔ (ns.length ≤ 63 ∧ 0 ≤ c ∧ c ≤ 1000) ∧ Q .st :=
  ⟨fun ⟨_, _, h, a, _⟩ => ⟨h.1, a _ h.2⟩, fun h => ⟨Q, E, h, fun _ z => z, fun _ z => z⟩⟩
@[simp] theorem w_minD {p q : DA} {E : EK} {ρ : DL.Env} {Q : DK} : dMinD p q E ρ Q ↔ p E ρ fun xs => q E ρ fun zs => fMinD xs zs Q := ⟨fun h => h, fun h => h⟩
theorem fMinD_ints {ns : List Int} {d : D} {Q : DK} (h0 : ns = [] → Q d) (h1 : ns ≠ [] → ∀ m ∈ ns, (∀ y ∈ ns, m ≤ y) → Q (.int m)) : fMinD [.lst (ns.map D.int)] [d] Q := by
  simp only [fMinD, intsOf_map]
  exact ⟨h0, h1⟩
@[simp] theorem w_revX {t : DT} {E : EK} {ρ : DL.Env} {Q : DK} : dRev t E ρ Q ↔ t E ρ fun x => gRevX x Q := ⟨fun h => h, fun h => h⟩
@[simp] theorem w_revXL {l : List D} {Q : DK} : gRevX (.lst l) Q ↔ Q (.lst l.reverse) := ⟨fun h => h, fun h => h⟩
@[simp] theorem w_revXT {l : List D} {Q : DK} : gRevX (.tup l) Q ↔ Q (.tup l.reverse) := ⟨fun h => h, fun h => h⟩
@[simp] theorem w_dc {it : DI} {g : DG} {t : DB} {k e : DT} {vs : List Nat} {E : EK} {ρ : DL.Env} {Q : DK} : dDc it g t k e vs E ρ Q ↔ it E ρ fun xs => dcL g t k e (noOwn (wipeE ρ vs)) xs [] fun r => Q (.dk r) := ⟨fun h => h, fun h => h⟩
@[simp] theorem w_mulS {a : Str} {k : Int} {Q : DK} : oMulS (.str a) (.int k) Q ↔ (-1000 ≤ k ∧ k ≤ 10000 ∧ a.length ≤ 1000) ∧ Q (.str (repS a k)) := ⟨fun h => h, fun h => h⟩
@[simp] theorem w_fmt {p : DT} {E : EK} {ρ : DL.Env} {Q : DK} : dFmt p E ρ Q ↔ p E ρ fun x => gFmt x Q := ⟨fun h => h, fun h => h⟩
@[simp] theorem w_fmtS {y : Str} {Q : DK} : gFmt (.str y) Q ↔ y.length ≤ lineMax ∧ Q (.str y) := ⟨fun h => h, fun h => h⟩
@[simp] theorem w_fmtI {i : Int} {Q : DK} : gFmt (.int i) Q ↔ i.natAbs.log2 < 1920 ∧ Q (.str (toString i)) := ⟨fun h => h, fun h => h⟩
@[simp] theorem w_fmt2 {p : DT} {E : EK} {ρ : DL.Env} {Q : DK} : dFmt2 p E ρ Q ↔ p E ρ fun x => gFmt2 x Q := ⟨fun h => h, fun h => h⟩
@[simp] theorem w_fmt2I {i : Int} {Q : DK} : gFmt2 (.int i) Q ↔ (0 ≤ i ∧ i < 100) ∧ Q (.str (two i)) := ⟨fun h => h, fun h => h⟩
@[simp] theorem w_gStr {y : Str} {Q : Str → Prop} : gStr (.str y) Q ↔ Q y := ⟨fun h => h, fun h => h⟩
@[simp] theorem w_joinF {ts : List DT} {E : EK} {ρ : DL.Env} {Q : DK} : dJoin ts E ρ Q ↔ dJs ts Str.empty E ρ fun y => Q (.str y) := ⟨fun h => h, fun h => h⟩
@[simp] theorem w_jsN {acc : Str} {E : EK} {ρ : DL.Env} {Q : Str → Prop} : dJs [] acc E ρ Q ↔ Q acc := ⟨fun h => h, fun h => h⟩
@[simp] theorem w_jsC {t : DT} {ts : List DT} {acc : Str} {E : EK} {ρ : DL.Env} {Q : Str → Prop} : dJs (t :: ts) acc E ρ Q ↔ t E ρ fun x => gStr x fun y => (acc ++ y).length ≤ lineMax ∧ dJs ts (acc ++ y) E ρ Q := ⟨fun h => h, fun h => h⟩
theorem w_join {a : Str} {ys : List Str} {Q : DK} : fJoin [.str a, .lst (ys.map D.str)] Q ↔ (ys.map (·.length)).sum + ys.length * a.length ≤ 16777216 ∧ Q (.str (Txt.join a ys)) := by
  simp only [fJoin, strsOf_map]
@[simp] theorem w_forQ {i : Nat} {js : List Nat} {g : DG} {c : DB} {r : DT} {E : EK} {K : DE} {ρ : DL.Env} : sForQ i js g c r E K ρ ↔ gOL ρ[i]? fun xs => i ∉ js ∧ forQ g c r K (bor (fgt js ρ)) (K.nx (fgt js ρ)) xs := ⟨fun h => h, fun h => h⟩
/-- each one's test, one after the other -/
theorem forQ_list {α : Type} (en : α → D) {g : DG} {c : DB} {r : DT} {K : DE} {ρ : DL.Env} {N : Prop} : ∀ {xs : List α} (_ : ∀ x ∈ xs, ∀ nx : Prop, nx → g (en x) ρ fun ρ' => c noE ρ' fun k => if k = true then r noE ρ' (fun d => isFlat d = true ∧ K.rt d) else nx) (_ : N), forQ g c r K ρ N (xs.map en)
  | [], _, n => n
  | x :: xs, h, n => h x List.mem_cons_self _ (forQ_list en (fun y hy => h y (List.mem_cons_of_mem _ hy)) n)
@[simp] theorem w_kget2 {kvs : List (Str × Str)} {k z : DT} {E : EK} {ρ : DL.Env} {Q : DK} : dKGet2 kvs k z E ρ Q ↔ k E ρ fun x => z E ρ fun y => kgetD kvs x y Q := ⟨fun h => h, fun h => h⟩
theorem w_kgetS {kvs : List (Str × Str)} {k : Str} {z : D} {Q : DK} : kgetD kvs (.str k) z Q ↔ Q (((kvs.lookup k).map D.str).getD z) := by
  show Q _ ↔ Q _
  cases e : kvs.lookup k with
  | none => exact Iff.rfl
  | some v => exact Iff.rfl
@[simp] theorem w_izipT {a : DA} {E : EK} {ρ : DL.Env} {Q : List D → Prop} : iZipT a E ρ Q ↔ a E ρ fun xs => gZipT xs Q := ⟨fun h => h, fun h => h⟩
@[simp] theorem w_gzipT {l : List D} {z : Str} {Q : List D → Prop} : gZipT [.tup l, .str z] Q ↔ z.cps.all (· < 128) = true ∧ Q (zipD l (z.cps.toList.map fun c => .str ⟨#[c]⟩)) := ⟨fun h => h, fun h => h⟩
theorem w_lenStr {z : Str} {Q : DK} : fLen [.str z] Q ↔ z.length ≤ lineMax ∧ Q (.int z.length) := ⟨fun h => h, fun h => h⟩
theorem w_ixStr {z : Str} {i : Int} {Q : DK} : oIx (.str z) (.int i) Q ↔ z.length ≤ lineMax ∧ oGet ((atI z.cps.toList i).map fun c => .str ⟨#[c]⟩) Q := ⟨fun h => h, fun h => h⟩
theorem w_cutStr {z : Str} {lo hi : Option Int} {Q : DK} : oCut (.str z) lo hi Q ↔ z.length ≤ lineMax ∧ Q (.str ⟨(cutL z.cps.toList lo hi).toArray⟩) := ⟨fun h => h, fun h => h⟩
@[simp] theorem w_star {a : DT} {r : DA} {E : EK} {ρ : DL.Env} {Q : List D → Prop} : aStar a r E ρ Q ↔ a E ρ fun x => gStar x fun xs => r E ρ fun ys => Q (xs ++ ys) := ⟨fun h => h, fun h => h⟩
@[simp] theorem gStar_l {xs : List D} {Q : List D → Prop} : gStar (.lst xs) Q ↔ Q xs := ⟨fun h => h, fun h => h⟩
@[simp] theorem gStar_t {xs : List D} {Q : List D → Prop} : gStar (.tup xs) Q ↔ Q xs := ⟨fun h => h, fun h => h⟩
@[simp] theorem w_tryE {m : String} {os : List String} {i : Nat} {R : Err → DK → Prop} {b : DS} {E : EK} {K : DE} {ρ : DL.Env} : sTryE m os i R b E K ρ ↔ b (fun e ρ' => if e.cls = m then i < ρ'.length ∧ R e K.rt else e.cls ∈ os ∧ E e ρ') K ρ := ⟨fun h => h, fun h => h⟩
@[simp] theorem w_xFld {f : Str} {e : Err} {Q : DK} : xFld f e Q ↔ oGet (e.fs.lookup f) Q := ⟨fun h => h, fun h => h⟩
@[simp] theorem w_xC {d : D} {e : Err} {Q : DK} : xC d e Q ↔ Q d := ⟨fun h => h, fun h => h⟩
@[simp] theorem w_xNil {e : Err} {Q : List D → Prop} : xNil e Q ↔ Q [] := ⟨fun h => h, fun h => h⟩
@[simp] theorem w_xCons {a : Err → DK → Prop} {r : Err → (List D → Prop) → Prop} {e : Err} {Q : List D → Prop} : xCons a r e Q ↔ a e fun x => r e fun xs => Q (x :: xs) := ⟨fun h => h, fun h => h⟩
@[simp] theorem w_xTup {a : Err → (List D → Prop) → Prop} {e : Err} {Q : DK} : xTup a e Q ↔ a e fun xs => xs.length ≤ lineMax ∧ Q (.tup xs) := ⟨fun h => h, fun h => h⟩
@[simp] theorem w_code {os : List String} {hs : List (String × (Err → DK → Prop))} {z : Str} {t : DT} {E : EK} {ρ : DL.Env} {Q : DK} : dCode os hs z t E ρ Q ↔ t (fun e _ => pick os hs e Q) (noOwn ρ) fun _ => Q (.str z) := ⟨fun h => h, fun h => h⟩
@[simp] theorem w_pickN {os : List String} {e : Err} {Q : DK} : pick os [] e Q ↔ False := ⟨fun h => h, fun h => h⟩
@[simp] theorem w_pickC {os : List String} {m : String} {R : Err → DK → Prop} {r : List (String × (Err → DK → Prop))} {e : Err} {Q : DK} : pick os ((m, R) :: r) e Q ↔ if e.cls = m then R e Q else e.cls ∈ os ∧ pick os r e Q := ⟨fun h => h, fun h => h⟩
@[simp] theorem w_chain3 {f g h : D → D → DK → Prop} {a b c d : DT} {Q : DK} {E : EK} {ρ : DL.Env} : dChain3 f g h a b c d E ρ Q ↔ a E ρ fun x => b E ρ fun y => f x y fun z => gB z fun k => if k = true then c E ρ fun u => g y u fun z => gB z fun k => if k = true then d E ρ fun v => h u v Q else Q (.bl false) else Q (.bl false) := ⟨fun h => h, fun h => h⟩
@[simp] theorem w_parO {i j : Nat} {a b : DT} {E : EK} {K : DE} {ρ : DL.Env} : sParO i j a b E K ρ ↔ a E ρ fun x => b E ρ fun y => K.nx ((ρ.set i (.v x)).set j (.o y)) := ⟨fun h => h, fun h => h⟩
@[simp] theorem w_tupRg {t : EK → DL.Env → (Int → Int → Prop) → Prop} {E : EK} {ρ : DL.Env} {Q : DK} : dTupRg t E ρ Q ↔ t E ρ fun i j => rgOk i j ∧ Q (.tup (rng i (j - i).toNat)) := ⟨fun h => h, fun h => h⟩
@[simp] theorem w_lstRg {t : EK → DL.Env → (Int → Int → Prop) → Prop} {E : EK} {ρ : DL.Env} {Q : DK} : dLstRg t E ρ Q ↔ t E ρ fun i j => rgOk i j ∧ Q (.lst (rng i (j - i).toNat)) := ⟨fun h => h, fun h => h⟩
@[simp] theorem w_rgB1 {a : DT} {E : EK} {ρ : DL.Env} {Q : Int → Int → Prop} : rgB1 a E ρ Q ↔ a E ρ fun x => gI x fun n => Q 0 n := by
  constructor
  · intro h
    exact h
  · intro h
    exact h
@[simp] theorem w_rgB2 {a b : DT} {E : EK} {ρ : DL.Env} {Q : Int → Int → Prop} : rgB2 a b E ρ Q ↔ a E ρ fun x => b E ρ fun y => gI2 x y Q := ⟨fun h => h, fun h => h⟩
@[simp] theorem w_gI2 {i j : Int} {Q : Int → Int → Prop} : gI2 (.int i) (.int j) Q ↔ Q i j := ⟨fun h => h, fun h => h⟩
theorem rg_ok' {i j : Int} (h : -1000000 ≤ i ∧ i ≤ 1000000 ∧ -1000000 ≤ j ∧ j ≤ 1000000) : rgOk i j := ⟨by omega, by omega, by omega, by omega, by omega⟩
end DL

namespace DL
open PySem
@[simp] theorem w_parP {i j : Nat} {a b : DT} {E : EK} {K : DE} {ρ : DL.Env} : sParP i j b a E K ρ ↔ b E ρ fun y => a E ρ fun x => K.nx ((ρ.set i (.o y)).set j (.v x)) := ⟨fun h => h, fun h => h⟩
end DL

namespace DL
open PySem
@[simp] theorem w_borL {a : DT} {E : EK} {ρ : DL.Env} {Q : DK} : dBorL a E ρ Q ↔ a noE (bor ρ) fun d => flatL d = true ∧ Q d := ⟨fun h => h, fun h => h⟩
@[simp] theorem w_sortRg {i : Nat} {t : EK → DL.Env → (Int → Int → Prop) → Prop} {E : EK} {ρ : DL.Env} {Q : DK} : dSortRg i t E ρ Q ↔ t E ρ fun a b => a = 0 ∧ ∃ ps : List (Int × Int), ρ[i]? = some (.v (.lst (ps.map pairD))) ∧ b = ps.length ∧ ps.length ≤ 16777216 ∧ ∀ ys : List Nat, ys.Perm (List.range ps.length) → Q (.lst (ys.map fun j : Nat => D.int (j : Int))) := ⟨fun h => h, fun h => h⟩
end DL

namespace DL
open PySem
@[simp] theorem w_codeV {os : List String} {hs : List (String × (Err → DK → Prop))} {z : D} {t : DT} {E : EK} {ρ : DL.Env} {Q : DK} : dCodeV os hs z t E ρ Q ↔ t (fun e _ => pick os hs e Q) (noOwn ρ) fun _ => Q z := ⟨fun h => h, fun h => h⟩
@[simp] theorem w_forLam0 {i : Nat} {E : EK} {K : DE} {ρ : DL.Env} : sForLam i [] E K ρ ↔ K.nx ρ := ⟨fun h => h, fun h => h⟩
@[simp] theorem w_forLam {i : Nat} {b : DS} {r : List DS} {E : EK} {K : DE} {ρ : DL.Env} : sForLam i (b :: r) E K ρ ↔ i < ρ.length ∧ b E { nx := sForLam i r E K, ct := sForLam i r E K, bk := K.nx, rt := K.rt, ro := K.ro } (ρ.set i .no) := ⟨fun h => h, fun h => h⟩
@[simp] theorem w_lc2 {it it1 : DI} {g g1 : DG} {t t1 : DB} {e : DT} {vs vs1 : List Nat} {Q : DK} {E : EK} {ρ : DL.Env} : dLc2 it g t it1 g1 t1 e vs vs1 E ρ Q ↔ it E ρ fun xs => lc2L g t it1 g1 t1 e vs1 (noOwn (wipeE ρ vs)) xs [] fun r => Q (.lst r) := ⟨fun h => h, fun h => h⟩
theorem lc2_nil {it1 : DI} {g g1 : DG} {t t1 : DB} {e : DT} {vs1 : List Nat} {ρ : DL.Env} {acc : List D} {Q : List D → Prop} : lc2L g t it1 g1 t1 e vs1 ρ [] acc Q ↔ Q acc := ⟨fun h => h, fun h => h⟩
theorem lc2_cons {it1 : DI} {g g1 : DG} {t t1 : DB} {e : DT} {vs1 : List Nat} {ρ : DL.Env} {x : D} {r acc : List D} {Q : List D → Prop} : lc2L g t it1 g1 t1 e vs1 ρ (x :: r) acc Q ↔ g x ρ fun ρ' => t noE ρ' fun k => if k = true then it1 noE ρ' fun ys => lcL g1 t1 e (wipeE ρ' vs1) ys acc fun a => lc2L g t it1 g1 t1 e vs1 ρ r a Q else lc2L g t it1 g1 t1 e vs1 ρ r acc Q := ⟨fun h => h, fun h => h⟩
end DL

namespace DL
open PySem
@[simp] theorem w_intS {a : Str} {Q : DK} : fIntS [.str a] Q ↔ ∃ n, intText? a = some n ∧ a.length ≤ 640 ∧ Q (.int n) := ⟨fun h => h, fun h => h⟩
end DL

namespace DL
open PySem
@[simp] theorem gOT_o {kvs : List (List Key × D)} {Q : List (List Key × D) → Prop} : gOT (some (.o (.dt kvs))) Q ↔ Q kvs := ⟨fun h => h, fun h => h⟩
@[simp] theorem gDt_d {kvs : List (List Key × D)} {Q : List (List Key × D) → Prop} : gDt (.dt kvs) Q ↔ Q kvs := ⟨fun h => h, fun h => h⟩
@[simp] theorem gKs_2 {a b : Int} {Q : List Key → Prop} : gKs [.int a, .int b] Q ↔ Q [.inl a, .inl b] := ⟨fun h => h, fun h => h⟩
@[simp] theorem w_newT {E : EK} {ρ : DL.Env} {Q : DK} : dNewT E ρ Q ↔ Q (.dt []) := ⟨fun h => h, fun h => h⟩
@[simp] theorem w_putT {i : Nat} {a : DA} {b : DT} {E : EK} {K : DE} {ρ : DL.Env} : sPutT i a b E K ρ ↔ gOT ρ[i]? fun kvs => b E ρ fun v => a E ρ fun ds => ds.length ≤ lineMax ∧ gKs ds fun ks => kvs.length < 1000000 ∧ K.nx (ρ.set i (.o (.dt (putD kvs ks v)))) := ⟨fun h => h, fun h => h⟩
@[simp] theorem w_lenDt {kvs : List (List Key × D)} {Q : DK} : fLenT [.dt kvs] Q ↔ kvs.length < 1000000 ∧ Q (.int kvs.length) := ⟨fun h => h, fun h => h⟩
@[simp] theorem w_dcT {it : DI} {g : DG} {t : DB} {k : DA} {e : DT} {vs : List Nat} {E : EK} {ρ : DL.Env} {Q : DK} : dDcT it g t k e vs E ρ Q ↔ it E ρ fun xs => dcTL g t k e (noOwn (wipeE ρ vs)) xs [] fun r => Q (.dt r) := ⟨fun h => h, fun h => h⟩
@[simp] theorem w_updT {i : Nat} {t : DT} {E : EK} {K : DE} {ρ : DL.Env} : sUpdT i t E K ρ ↔ gOT ρ[i]? fun kvs => t E ρ fun d => gDt d fun more => (kvs ≠ [] ∨ ((∀ p ∈ more, near20 p.1 = true) ∧ (more.map (·.1)).Nodup)) ∧ kvs.length + more.length < 1000000 ∧ K.nx (ρ.set i (.o (.dt (mergeDT kvs more)))) := ⟨fun h => h, fun h => h⟩
@[simp] theorem w_isB {a b : Bool} {Q : DK} : oIsB (.bl a) (.bl b) Q ↔ Q (.bl (decide (a = b))) := ⟨fun h => h, fun h => h⟩
@[simp] theorem w_notB {a b : Bool} {Q : DK} : oNotB (.bl a) (.bl b) Q ↔ Q (.bl (!decide (a = b))) := ⟨fun h => h, fun h => h⟩
@[simp] theorem w_minT2 {i j : Int} {Q : DK} : fMinT [.tup [.int i, .int j]] Q ↔ Q (.int (if j < i then j else i)) := by
  show ([i, j] ≠ [] ∧ ∀ m, m ∈ [i, j] → (∀ y ∈ [i, j], m ≤ y) → Q (.int m)) ↔ _
  constructor
  · intro h
    exact h.2 _ (by split <;> simp) (by intro y hy; have : y = i ∨ y = j := by simpa using hy
                                        split <;> omega)
  · intro h
    refine ⟨by simp, fun m hm hl => ?_⟩
    have h1 := hl i (by simp)
    have h2 := hl j (by simp)
    have h3 : m = i ∨ m = j := by simpa using hm
    rw [show m = if j < i then j else i by split <;> omega]
    exact h
@[simp] theorem w_maxT2 {i j : Int} {Q : DK} : fMaxT [.tup [.int i, .int j]] Q ↔ Q (.int (if j > i then j else i)) := by
  show ([i, j] ≠ [] ∧ ∀ m, m ∈ [i, j] → (∀ y ∈ [i, j], y ≤ m) → Q (.int m)) ↔ _
  constructor
  · intro h
    exact h.2 _ (by split <;> simp) (by intro y hy; have : y = i ∨ y = j := by simpa using hy
                                        split <;> omega)
  · intro h
    refine ⟨by simp, fun m hm hl => ?_⟩
    have h1 := hl i (by simp)
    have h2 := hl j (by simp)
    have h3 : m = i ∨ m = j := by simpa using hm
    rw [show m = if j > i then j else i by split <;> omega]
    exact h
end DL

/-! DWave: the arch and the wave, in plain numbers. -/
namespace DL
open PySem
/-! ### the arch, exactly -/
def N (u : Int) : Int := u * (314928000000 - u * u)
def A (u : Int) : Int := 1000000 * u * (314928000000 - u * u) / 68024448000000000
theorem A_eq (u : Int) : A u = 1000000 * N u / 68024448000000000 := by
  unfold A N
  rw [Int.mul_assoc]
theorem N_step (u : Int) : N (u + 1) - N u = 314928000000 - (3 * (u * u) + 3 * u + 1) := by
  unfold N
  grind
theorem sq_le {u b : Int} (h0 : 0 ≤ u) (h : u ≤ b) : u * u ≤ b * b := Int.mul_le_mul h h h0 (Int.le_trans h0 h)
theorem sq_nn {u : Int} : 0 ≤ u * u := by
  rcases Int.le_total 0 u with h | h
  · exact Int.mul_nonneg h h
  · exact Int.mul_nonneg_of_nonpos_of_nonpos h h
theorem N_up {u : Int} (h0 : 0 ≤ u) (h : u < 324000) : 0 ≤ N (u + 1) - N u ∧ N (u + 1) - N u ≤ 314928000000 := by
  rw [N_step]
  have h1 := sq_le h0 (show u ≤ 323999 by omega)
  have h2 : 0 ≤ u * u := sq_nn
  omega
theorem N_top {u : Int} (h0 : 0 ≤ u) (h : u ≤ 324000) : 0 ≤ N u ∧ N u ≤ 68024448000000000 := by
  have h1 := sq_le h0 h
  have h2 : 0 ≤ N u := Int.mul_nonneg h0 (by omega)
  have h3 : 0 ≤ (324000 - u) * (324000 - u) * (648000 + u) := Int.mul_nonneg (Int.mul_nonneg (by omega) (by omega)) (by omega)
  have h4 : (324000 - u) * (324000 - u) * (648000 + u) = 68024448000000000 - N u := by
    unfold N
    grind
  omega
/-! ### the wave -/
def M (x : Int) : Int := if x % 1296000 < 324000 then N (x % 1296000) else if x % 1296000 < 648000 then N (648000 - x % 1296000) else if x % 1296000 < 972000 then -N (x % 1296000 - 648000) else -N (1296000 - x % 1296000)
def Wv (x : Int) : Int := if x % 1296000 < 324000 then A (x % 1296000) else if x % 1296000 < 648000 then A (648000 - x % 1296000) else if x % 1296000 < 972000 then -A (x % 1296000 - 648000) else -A (1296000 - x % 1296000)
theorem N0 : N 0 = 0 := rfl
theorem A0 : A 0 = 0 := rfl
theorem M_step (x : Int) : M (x + 1) - M x ≤ 314928000000 ∧ M x - M (x + 1) ≤ 314928000000 := by
  have hr : 0 ≤ x % 1296000 ∧ x % 1296000 < 1296000 := by omega
  by_cases hw : x % 1296000 = 1295999
  · have e1 : (x + 1) % 1296000 = 0 := by omega
    have := N_up (u := 0) (by omega) (by omega)
    simp [M, e1, hw, N0] at this ⊢
    omega
  · have e1 : (x + 1) % 1296000 = x % 1296000 + 1 := by omega
    unfold M
    rw [e1]
    generalize x % 1296000 = r at *
    by_cases c1 : r < 324000
    · have := N_up (u := r) (by omega) (by omega)
      by_cases c2 : r + 1 < 324000
      · simp [c1, c2]; omega
      · have e : r = 323999 := by omega
        subst e
        simp at this ⊢
        omega
    · by_cases c2 : r < 648000
      · have := N_up (u := 648000 - (r + 1)) (by omega) (by omega)
        rw [show 648000 - (r + 1) + 1 = 648000 - r by omega] at this
        by_cases c3 : r + 1 < 648000
        · simp [c1, c2, c3, show ¬ r + 1 < 324000 by omega]; omega
        · have e : r = 647999 := by omega
          subst e
          simp [N0] at this ⊢
          omega
      · by_cases c3 : r < 972000
        · have := N_up (u := r - 648000) (by omega) (by omega)
          rw [show r - 648000 + 1 = r + 1 - 648000 by omega] at this
          by_cases c4 : r + 1 < 972000
          · simp [c1, c2, c3, c4, show ¬ r + 1 < 324000 by omega, show ¬ r + 1 < 648000 by omega]; omega
          · have e : r = 971999 := by omega
            subst e
            simp at this ⊢
            omega
        · have := N_up (u := 1296000 - (r + 1)) (by omega) (by omega)
          rw [show 1296000 - (r + 1) + 1 = 1296000 - r by omega] at this
          simp [c1, c2, c3, show ¬ r + 1 < 324000 by omega, show ¬ r + 1 < 648000 by omega, show ¬ r + 1 < 972000 by omega]
          omega
theorem M_lip (x : Int) : ∀ n : Nat, M (x + n) - M x ≤ 314928000000 * n ∧ M x - M (x + n) ≤ 314928000000 * n
  | 0 => by simp
  | n + 1 => by
    have h := M_lip x n
    have h2 := M_step (x + n)
    rw [show x + ((n + 1 : Nat) : Int) = x + n + 1 by omega]
    omega
theorem M_dist (x y : Int) : M y - M x ≤ 314928000000 * (if x - y < 0 then -(x - y) else x - y) ∧ M x - M y ≤ 314928000000 * (if x - y < 0 then -(x - y) else x - y) := by
  by_cases h : x - y < 0
  · have := M_lip x (y - x).toNat
    rw [show x + ((y - x).toNat : Int) = y by omega] at this
    rw [if_pos h]
    omega
  · have := M_lip y (x - y).toNat
    rw [show y + ((x - y).toNat : Int) = x by omega] at this
    rw [if_neg h]
    omega
/-- how the wave lies about the exact number -/
theorem Wv_M (x : Int) : (x % 1296000 < 648000 ∧ 0 ≤ M x ∧ Wv x = 1000000 * M x / 68024448000000000) ∨ (¬ x % 1296000 < 648000 ∧ 0 ≤ -M x ∧ Wv x = -(1000000 * (-M x) / 68024448000000000)) := by
  have hr : 0 ≤ x % 1296000 ∧ x % 1296000 < 1296000 := by omega
  unfold M Wv
  generalize x % 1296000 = r at *
  by_cases c1 : r < 324000
  · have := N_top (u := r) (by omega) (by omega)
    left
    simp [c1, A_eq, this]
    omega
  · by_cases c2 : r < 648000
    · have := N_top (u := 648000 - r) (by omega) (by omega)
      left
      simp [c1, c2, A_eq, this]
    · by_cases c3 : r < 972000
      · have := N_top (u := r - 648000) (by omega) (by omega)
        right
        simp [c1, c2, c3, A_eq, this]
      · have := N_top (u := 1296000 - r) (by omega) (by omega)
        right
        simp [c1, c2, c3, A_eq, this]
def ab (i : Int) : Int := if i < 0 then -i else i
theorem lip (x y : Int) : ab (Wv x - Wv y) ≤ 125 * ab (x - y) / 27 + 1 := by
  have h := M_dist x y
  have e : ab (x - y) = (if x - y < 0 then -(x - y) else x - y) := rfl
  rw [← e] at h
  have hd : 0 ≤ ab (x - y) := by unfold ab; split <;> omega
  generalize ab (x - y) = d at *
  have go : Wv x - Wv y ≤ 125 * d / 27 + 1 ∧ Wv y - Wv x ≤ 125 * d / 27 + 1 := by
    rcases Wv_M x with ⟨_, a1, a2⟩ | ⟨_, a1, a2⟩ <;> rcases Wv_M y with ⟨_, b1, b2⟩ | ⟨_, b1, b2⟩ <;> rw [a2, b2] <;> omega
  unfold ab
  split <;> omega
theorem A_top {u : Int} (h0 : 0 ≤ u) (h : u ≤ 324000) : 0 ≤ A u ∧ A u ≤ 1000000 := by
  have := N_top h0 h
  rw [A_eq]
  omega
theorem Wv_top (x : Int) : ab (Wv x) ≤ 1000000 := by
  have hr : 0 ≤ x % 1296000 ∧ x % 1296000 < 1296000 := by omega
  unfold Wv
  generalize x % 1296000 = r at *
  unfold ab
  by_cases c1 : r < 324000
  · have := A_top (u := r) (by omega) (by omega)
    simp [c1]; split <;> omega
  · by_cases c2 : r < 648000
    · have := A_top (u := 648000 - r) (by omega) (by omega)
      simp [c1, c2]; split <;> omega
    · by_cases c3 : r < 972000
      · have := A_top (u := r - 648000) (by omega) (by omega)
        simp [c1, c2, c3]; split <;> omega
      · have := A_top (u := 1296000 - r) (by omega) (by omega)
        simp [c1, c2, c3]; split <;> omega
theorem Wv_turn (x : Int) : Wv (x + 1296000) = Wv x := by
  unfold Wv
  rw [show (x + 1296000) % 1296000 = x % 1296000 by omega]
theorem Wv_half (x : Int) : Wv (x + 648000) = -Wv x := by
  unfold Wv
  by_cases h : x % 1296000 < 648000
  · rw [show (x + 648000) % 1296000 = x % 1296000 + 648000 by omega]
    have hr : 0 ≤ x % 1296000 := by omega
    generalize x % 1296000 = r at *
    by_cases c1 : r < 324000
    · simp [c1, show ¬ r + 648000 < 324000 by omega, show ¬ r + 648000 < 648000 by omega, show r + 648000 < 972000 by omega]
    · simp [c1, h, show ¬ r + 648000 < 324000 by omega, show ¬ r + 648000 < 648000 by omega, show ¬ r + 648000 < 972000 by omega, show 1296000 - (r + 648000) = 648000 - r by omega]
  · rw [show (x + 648000) % 1296000 = x % 1296000 - 648000 by omega]
    have hr : x % 1296000 < 1296000 := by omega
    generalize x % 1296000 = r at *
    by_cases c1 : r < 972000
    · simp [c1, show ¬ r < 324000 by omega, show ¬ r < 648000 by omega, show r - 648000 < 324000 by omega]
    · simp [c1, show ¬ r < 324000 by omega, show ¬ r < 648000 by omega, show ¬ r - 648000 < 324000 by omega, show r - 648000 < 648000 by omega, show 648000 - (r - 648000) = 1296000 - r by omega]
theorem Wv_neg (x : Int) : Wv (-x) = -Wv x := by
  by_cases h : x % 1296000 = 0
  · unfold Wv
    rw [h, show (-x) % 1296000 = 0 by omega]
    simp [A0]
  · unfold Wv
    rw [show (-x) % 1296000 = 1296000 - x % 1296000 by omega]
    have hr : 0 ≤ x % 1296000 ∧ x % 1296000 < 1296000 := by omega
    generalize x % 1296000 = r at *
    by_cases c1 : r < 324000
    · simp [c1, show ¬ 1296000 - r < 324000 by omega, show ¬ 1296000 - r < 648000 by omega, show ¬ 1296000 - r < 972000 by omega, show 1296000 - (1296000 - r) = r by omega]
    · by_cases c2 : r < 648000
      · by_cases c5 : r = 324000
        · subst c5
          simp
        · simp [c1, c2, show ¬ 1296000 - r < 324000 by omega, show ¬ 1296000 - r < 648000 by omega, show 1296000 - r < 972000 by omega, show 1296000 - r - 648000 = 648000 - r by omega]
      · by_cases c3 : r < 972000
        · by_cases c5 : r = 648000
          · subst c5
            simp [A0]
          · simp [c1, c2, c3, show ¬ 1296000 - r < 324000 by omega, show 1296000 - r < 648000 by omega, show 648000 - (1296000 - r) = r - 648000 by omega]
        · by_cases c5 : r = 972000
          · subst c5
            simp
          · simp [c1, c2, c3, show 1296000 - r < 324000 by omega]
/-! ### the defs -/
theorem mul_ok {i j : Int} (h1 : -1000000000000000000000 ≤ i) (h2 : i ≤ 1000000000000000000000) (h3 : -1000000000000000000000 ≤ j) (h4 : j ≤ 1000000000000000000000) : mulOk i j := by
  have go : ∀ i : Int, -1000000000000000000000 ≤ i → i ≤ 1000000000000000000000 → i.natAbs.log2 < 100 := fun i a b => by
    by_cases z : i.natAbs = 0
    · rw [z]; decide
    · exact (Nat.log2_lt z).mpr (by omega)
  have a := go i h1 h2
  have b := go j h3 h4
  unfold mulOk
  omega
theorem div_ok {j : Int} (h1 : 0 < j) (h2 : j ≤ 1000000000000000000000) : divOk j := ⟨h1, by
  have : j.natAbs.log2 < 100 := (Nat.log2_lt (by omega)).mpr (by omega)
  omega⟩
end DL

set_option maxHeartbeats 4000000
namespace K62
open PySem DL
/-! data that is found the same as itself -/
def smD : Nat → D → Prop
  | _, .non => True
  | _, .bl _ => True
  | _, .int _ => True
  | _, .str s => okD 60 (.str s) = true
  | _, .dk k => okD 60 (.dk k) = true
  | n + 1, .tup xs => xs.length ≤ 1000000 ∧ ∀ x ∈ xs, smD n x
  | n + 1, .lst xs => xs.length ≤ 1000000 ∧ ∀ x ∈ xs, smD n x
  | _, _ => False
theorem same_items (n : Nat) (xs : List D) (hs : ∀ x ∈ xs, G_u_law_same n [x, x] (fun r => r = .bl true) fun _ => False) (hl : xs.length ≤ 1000000) (d : D) (hd : ∀ k : Nat, ∀ h : k < xs.length, ∀ Q : DK, Q xs[k] → oIx d (.int k) Q)
    {Q : DK} (q : Q (.bl true)) (ρ : DL.Env) (h0 : ρ[0]? = some (.v d)) (h1 : ρ[1]? = some (.v d)) (h2 : 2 < ρ.length) :
    lcL (gName 2) bYes (dCall (G_u_law_same n) (aCons (dOp oIx (dVar 0) (dVar 2)) (aCons (dOp oIx (dVar 1) (dVar 2)) aNil))) ρ (rng 0 xs.length) [] fun r => fAll [.lst r] Q := by
  refine lcL_inv (fun i acc => acc = (List.replicate i true).map D.bl) rfl (fun i x acc A R hx ha y _ => ?_) (by show _ ≤ _; simp [lineMax]; omega) fun r hr => ?_
  · obtain ⟨hi, rfl⟩ := rngx_get hx
    simp [h0, h1, h2, List.getElem?_set]
    refine hd i hi _ (hd i hi _ ?_)
    refine up_use0 (hs _ (List.getElem_mem hi)) ?_
    rintro _ rfl
    refine y _ ?_
    rw [ha, List.replicate_succ', List.map_append]
    rfl
  · rw [hr]
    refine fAll_bls ?_
    rw [show (List.replicate (rng 0 xs.length).length true).all id = true by simp]
    exact q
theorem sp_same_n : ∀ (n : Nat) (d : D), smD n d → G_u_law_same (n + 1) [d, d] (fun r => r = .bl true) fun _ => False := by
  intro n
  induction n with
  | zero =>
    intro d h
    cases d <;> simp only [smD] at h
    all_goals simp [G_u_law_same_w, V_u_law_same_0_w, V_u_law_same_1_w, V_u_law_same_2_w, V_u_law_same_3_w, V_u_law_same_4_w, tyName, isTy, isNon]
    case str => exact h
    case dk => exact ⟨h, eqD_self 60 _ h⟩
  | succ n ih =>
    intro d h
    cases d <;> simp only [smD] at h
    all_goals simp [G_u_law_same_w, V_u_law_same_0_w, V_u_law_same_1_w, V_u_law_same_2_w, V_u_law_same_3_w, V_u_law_same_4_w, V_u_law_same_5_w, tyName, isTy, isNon]
    case str => exact h
    case dk => exact ⟨h, eqD_self 60 _ h⟩
    case tup xs =>
      simp only [V_u_law_same_6_w]
      simp
      refine ⟨by omega, same_items (n + 1) xs (fun x hx => ih x (h.2 x hx)) h.1 (.tup xs) (fun k hk Q q => ?_) (Q := fun r => r = .bl true) rfl _ rfl rfl ?_⟩
      · rw [w_ixT, atI_nat hk]
        exact q
      · simp
    case lst xs =>
      simp only [V_u_law_same_6_w]
      simp
      refine ⟨by omega, same_items (n + 1) xs (fun x hx => ih x (h.2 x hx)) h.1 (.lst xs) (fun k hk Q q => ?_) (Q := fun r => r = .bl true) rfl _ rfl rfl ?_⟩
      · rw [w_ixL, atI_nat hk]
        exact q
      · simp
theorem sp_same {n : Nat} {d : D} (hn : n < 60) (h : smD n d) {Q : DK} {E : Err → Prop} (q : Q (.bl true)) : up W_u_law_same [d, d] Q E :=
  up_gen (n := n + 1) (by omega) (sp_same_n n d h) fun _ z => z ▸ q
theorem asc_eq : ∀ {a b : List Int}, a.Pairwise (· < ·) → b.Pairwise (· < ·) → (∀ x, x ∈ a ↔ x ∈ b) → a = b
  | [], [], _, _, _ => rfl
  | [], y :: b, _, _, h => absurd ((h y).mpr (by simp)) (by simp)
  | x :: a, [], _, _, h => absurd ((h x).mp (by simp)) (by simp)
  | x :: a, y :: b, ha, hb, h => by
    rw [List.pairwise_cons] at ha hb
    have hxy : x = y := by
      have h1 := (h x).mp (by simp)
      have h2 := (h y).mpr (by simp)
      rcases List.mem_cons.mp h1 with z | z
      · exact z
      · rcases List.mem_cons.mp h2 with w | w
        · exact w.symm
        · have := hb.1 x z
          have := ha.1 y w
          omega
    subst hxy
    rw [asc_eq ha.2 hb.2 fun z => ⟨fun hz => by
      have := (h z).mp (by simp [hz])
      rcases List.mem_cons.mp this with w | w
      · have := ha.1 z hz
        omega
      · exact w, fun hz => by
      have := (h z).mpr (by simp [hz])
      rcases List.mem_cons.mp this with w | w
      · have := hb.1 z hz
        omega
      · exact w⟩]
def encKs (ks : List Int) : List (Key × D) := ks.map fun k => (.inl k, .bl true)
theorem put_ks (ks : List Int) (k : Int) : putD (encKs ks) (.inl k) (.bl true) = encKs (if k ∈ ks then ks else ks ++ [k]) := by
  unfold putD encKs
  by_cases h : k ∈ ks
  · have e : ((ks.map fun k => ((.inl k : Key), D.bl true)).any fun kv => decide (kv.1 = .inl k)) = true := by
      rw [List.any_map, List.any_eq_true]
      exact ⟨k, h, by simp⟩
    rw [if_pos e, if_pos h, List.map_map]
    apply List.map_congr_left
    intro x _
    simp
  · have e : ¬ ((ks.map fun k => ((.inl k : Key), D.bl true)).any fun kv => decide (kv.1 = .inl k)) = true := by
      rw [List.any_map, List.any_eq_true]
      rintro ⟨x, hx, z⟩
      simp at z
      exact h (z ▸ hx)
    rw [if_neg e, if_neg h, List.map_append]
    rfl
theorem fSorted_ints {ns : List Int} {Q : DK} (q : ∀ ns' : List Int, ns'.Perm ns → ns'.Pairwise (· ≤ ·) → Q (.lst (ns'.map D.int))) : fSorted [.lst (ns.map D.int)] Q := by
  simp only [fSorted, intsOf_map]
  exact q
theorem ikeys_ks (ks : List Int) : ikeys (encKs ks) = some ks := by
  induction ks with
  | nil => rfl
  | cons k r ih =>
    show (ikeys (encKs r)).map (k :: ·) = _
    rw [ih]
    rfl
/-! rounds of games, in plain words -/
abbrev Gm := Int × Int
def game (n r k : Int) : Gm := if (if k = 0 then r else k) % 2 = 0 then (if k = 0 then n - 1 else (r + k) % (n - 1), if k = 0 then r else (r - k) % (n - 1)) else (if k = 0 then r else (r - k) % (n - 1), if k = 0 then n - 1 else (r + k) % (n - 1))
def circ (n : Nat) : List (List Gm) := (List.range (n - 1)).map fun (r : Nat) => (List.range (n / 2)).map fun (k : Nat) => game n (r : Int) (k : Int)
def tms (g : List Gm) : List Int := g.flatMap fun p => [p.1, p.2]
def upTo (n : Nat) : List Int := (List.range n).map fun (k : Nat) => (k : Int)
def okR (n : Nat) (g : List Gm) : Prop := (tms g).Perm (upTo n)
def hm (t : Int) (g : List Gm) : Nat := (g.filter fun p => decide (p.1 = t)).length
def aw (t : Int) (g : List Gm) : Nat := (g.filter fun p => decide (p.2 = t)).length
theorem tms_cons (p : Gm) (g : List Gm) : tms (p :: g) = p.1 :: p.2 :: tms g := rfl
theorem count_tms (t : Int) : ∀ g : List Gm, (tms g).count t = hm t g + aw t g
  | [] => rfl
  | p :: g => by
    rw [tms_cons, List.count_cons, List.count_cons, count_tms t g]
    unfold hm aw
    rw [List.filter_cons, List.filter_cons]
    by_cases h1 : p.1 = t <;> by_cases h2 : p.2 = t <;> simp [h1, h2] <;> omega
theorem upTo_nodup (n : Nat) : (upTo n).Nodup := by
  unfold upTo
  refine List.pairwise_map.mpr (List.Pairwise.imp (fun {a b} h e => h (Int.ofNat.inj e)) List.nodup_range)
theorem okR.nodup {n : Nat} {g : List Gm} (h : okR n g) : (tms g).Nodup := h.nodup_iff.mpr (upTo_nodup n)
theorem hm_aw_le {n : Nat} {g : List Gm} (h : okR n g) (t : Int) : hm t g + aw t g ≤ 1 := by
  rw [← count_tms]
  exact List.nodup_iff_count.mp h.nodup t
theorem hm_pos {t : Int} {g : List Gm} : 0 < hm t g ↔ t ∈ g.map (·.1) := by
  unfold hm
  rw [List.length_pos_iff_exists_mem]
  constructor
  · rintro ⟨p, hp⟩
    have := List.mem_filter.mp hp
    exact List.mem_map.mpr ⟨p, this.1, of_decide_eq_true this.2⟩
  · intro h
    obtain ⟨p, hp, e⟩ := List.mem_map.mp h
    exact ⟨p, List.mem_filter.mpr ⟨hp, decide_eq_true e⟩⟩
theorem aw_pos {t : Int} {g : List Gm} {p : Gm} (h : p ∈ g) (e : p.2 = t) : 0 < aw t g := by
  unfold aw
  rw [List.length_pos_iff_exists_mem]
  exact ⟨p, List.mem_filter.mpr ⟨h, decide_eq_true e⟩⟩
/-- the breaks of two rounds of games -/
def bk2 (F S : List Gm) : Nat := (S.filter fun p => decide (p.1 ∈ F.map (·.1))).length + (S.filter fun p => decide (p.2 ∉ F.map (·.1))).length
theorem countP_tms (q : Int → Bool) : ∀ g : List Gm, (tms g).countP q = (g.filter fun p => q p.1).length + (g.filter fun p => q p.2).length
  | [] => rfl
  | p :: g => by
    rw [tms_cons, List.countP_cons, List.countP_cons, countP_tms q g, List.filter_cons, List.filter_cons]
    cases h1 : q p.1 <;> cases h2 : q p.2 <;> simp <;> omega
theorem bk2_teams {n : Nat} {F S : List Gm} (hF : okR n F) (hS : okR n S) : ((upTo n).filter fun t => decide (hm t F = hm t S)).length = bk2 F S := by
  rw [← List.countP_eq_length_filter, ← List.Perm.countP_eq _ hS, countP_tms]
  unfold bk2
  congr 1
  · congr 1
    refine List.filter_congr fun p hp => ?_
    have a := hm_pos.mpr (List.mem_map.mpr ⟨p, hp, rfl⟩)
    have b := hm_aw_le hS p.1
    have c := hm_aw_le hF p.1
    refine decide_eq_decide.mpr ⟨fun e => hm_pos.mp (by omega), fun e => ?_⟩
    have := hm_pos.mpr e
    omega
  · congr 1
    refine List.filter_congr fun p hp => ?_
    have a := aw_pos hp rfl
    have b := hm_aw_le hS p.2
    have c := hm_aw_le hF p.2
    refine decide_eq_decide.mpr ⟨fun e h => ?_, fun e => ?_⟩
    · have := hm_pos.mpr h
      omega
    · have : ¬ 0 < hm p.2 F := fun h => e (hm_pos.mp h)
      omega
/-- the breaks as the program counts them -/
def brk (told : List (List Gm)) : Nat := ((told.zip told.tail).map fun q => bk2 q.1 q.2).sum
/-- equal neighbours -/
def adj (hs : List Nat) : Nat := ((hs.zip hs.tail).filter fun q => decide (q.1 = q.2)).length
/-- the breaks as the law counts them -/
def lbrk (n : Nat) (told : List (List Gm)) : Nat := ((upTo n).map fun t => adj (told.map (hm t))).sum
theorem adj_cons (a b : Nat) (hs : List Nat) : adj (a :: b :: hs) = (if a = b then 1 else 0) + adj (b :: hs) := by
  unfold adj
  show ((((a, b)) :: (b :: hs).zip hs).filter _).length = _ + ((((b :: hs).zip hs)).filter _).length
  rw [List.filter_cons]
  by_cases h : a = b <;> simp [h] <;> omega
theorem sum_add {α : Type} (f g : α → Nat) : ∀ xs : List α, (xs.map fun x => f x + g x).sum = (xs.map f).sum + (xs.map g).sum
  | [] => rfl
  | x :: xs => by simp [sum_add f g xs]; omega
theorem sum_ite {α : Type} (q : α → Bool) : ∀ xs : List α, (xs.map fun x => if q x = true then 1 else 0).sum = (xs.filter q).length
  | [] => rfl
  | x :: xs => by
    rw [List.map_cons, List.sum_cons, sum_ite q xs, List.filter_cons]
    cases h : q x <;> simp <;> omega
theorem lbrk_brk {n : Nat} : ∀ told : List (List Gm), (∀ g ∈ told, okR n g) → lbrk n told = brk told
  | [], _ => by
    unfold lbrk
    show ((upTo n).map fun _ => 0).sum = 0
    induction upTo n with
    | nil => rfl
    | cons x r ih => simpa using ih
  | [F], _ => by
    unfold lbrk
    show ((upTo n).map fun _ => 0).sum = 0
    induction upTo n with
    | nil => rfl
    | cons x r ih => simpa using ih
  | F :: S :: r, h => by
    have ih := lbrk_brk (S :: r) fun g hg => h g (List.mem_cons_of_mem _ hg)
    have b := bk2_teams (h F (by simp)) (h S (by simp))
    have : brk (F :: S :: r) = bk2 F S + brk (S :: r) := rfl
    rw [this, ← ih, ← b]
    unfold lbrk
    rw [show (fun t => adj ((F :: S :: r).map (hm t))) = fun t => (if decide (hm t F = hm t S) = true then 1 else 0) + adj ((S :: r).map (hm t)) from funext fun t => by
      show adj (hm t F :: hm t S :: r.map (hm t)) = _
      rw [adj_cons]
      simp]
    rw [sum_add, sum_ite]
/-- the places of equal neighbours -/
theorem adj_ix : ∀ hs : List Nat, ((List.range (hs.length - 1)).filter fun k => decide (hs[k]? = hs[k + 1]?)).length = adj hs
  | [] => rfl
  | [a] => rfl
  | a :: b :: hs => by
    rw [adj_cons, ← adj_ix (b :: hs)]
    show ((List.range (hs.length + 1)).filter _).length = _ + ((List.range hs.length).filter _).length
    have e : (fun k => decide ((a :: b :: hs)[k]? = (a :: b :: hs)[k + 1]?)) ∘ Nat.succ = fun k => decide ((b :: hs)[k]? = (b :: hs)[k + 1]?) := rfl
    rw [List.range_succ_eq_map, List.filter_cons, List.filter_map, e]
    by_cases h : a = b
    · rw [if_pos (decide_eq_true (show (a :: b :: hs)[0]? = (a :: b :: hs)[0 + 1]? by simp [h])), if_pos h]
      rw [List.length_cons, List.length_map, Nat.add_comm]
    · rw [if_neg (show ¬ decide ((a :: b :: hs)[0]? = (a :: b :: hs)[0 + 1]?) = true from fun z => h (Option.some.inj (of_decide_eq_true z))), if_neg h, List.length_map, Nat.zero_add]
/-- the pair of two teams -/
def pk (p : Gm) : Int × Int := (if p.2 < p.1 then p.2 else p.1, if p.2 > p.1 then p.2 else p.1)
def code (p : Gm) : Nat := (pk p).1.toNat * 20 + (pk p).2.toNat
def goodC (n : Nat) : Bool := (circ n).all (fun g => (tms g).isPerm (upTo n)) && decide ((((circ n).flatMap id).map code).Nodup) && decide ((((circ n).flatMap id)).length = n * (n - 1) / 2) && decide (brk (circ n) = n - 2)
theorem goodC_all : ∀ m ∈ [1, 2, 3, 4, 5, 6, 7, 8, 9, 10], goodC (2 * m) = true := by decide +kernel
/-! ### the program's defs -/
abbrev er (c x : String) : Err := ⟨c, [(Str.ofString "code", .str (Str.ofString x))]⟩
theorem use_e {W : DF} {ds : List D} {e : Err} {Q : DK} {E : Err → Prop} (h : W ds (fun _ => False) fun z => z = e) (q : E e) : up W ds Q E := up_use (R := fun _ => False) (F := fun z => z = e) h (fun _ z => z.elim) fun _ z => z ▸ q
def rdD (g : List Gm) : D := .tup (g.map pairD)
def toldD (t : List (List Gm)) : D := .tup (t.map rdD)
def Tm (n : Nat) : Prop := 2 ≤ n ∧ n ≤ 20 ∧ n % 2 = 0
theorem sp_teams {n : Nat} (h : Tm n) : W_check_teams [.int n] (fun _ => True) fun _ => False := by
  obtain ⟨h1, h2, h3⟩ := h
  simp [W_check_teams_w]
  omega
theorem e_teams {n : Int} (h : n = 0 ∨ n = 1 ∨ n = 3 ∨ n = 22 ∨ n = -2 ∨ n = 21) : W_check_teams [.int n] (fun _ => False) fun z => z = er "JobError" "teams" := by
  rcases h with rfl | rfl | rfl | rfl | rfl | rfl <;> simp [W_check_teams_w] <;> exact okE_lit (by decide)
theorem sp_game {n : Nat} (h : Tm n) (t k : Int) : W_game [.int n, .int t, .int k] (fun r => r = pairD (game n t k)) fun _ => False := by
  obtain ⟨h1, h2, h3⟩ := h
  by_cases c : k = 0
  · subst c
    simp [W_game_w, V_game_0_w]
    simp only [V_game_1_w]
    simp
    simp only [V_game_2_w]
    simp
    by_cases z : t % 2 = 0 <;> simp [z, game, pairD]
  · simp [W_game_w, V_game_0_w, c]
    refine ⟨by omega, ?_⟩
    simp only [V_game_1_w]
    simp [c]
    refine ⟨by omega, ?_⟩
    simp only [V_game_2_w]
    simp [c]
    by_cases z : k % 2 = 0 <;> simp [z, c, game, pairD]
theorem sp_fixtures {n : Nat} (h : Tm n) : W_fixtures [.int n] (fun r => r = toldD (circ n)) fun _ => False := by
  simp [W_fixtures_w, V_fixtures_0_w]
  refine up_use0 (sp_teams h) fun _ _ => ?_
  simp only [V_fixtures_1_w]
  simp
  obtain ⟨h1, h2, h3⟩ := id h
  refine ⟨by omega, by omega, ?_⟩
  refine lcD_list (fun t : Nat => D.int (0 + (t : Int))) (fun t => rdD ((List.range (n / 2)).map fun k : Nat => game n t k)) (List.range (n - 1)) [] (fun t ht A R a => ?_) (by show _ ≤ _; simp [lineMax]; omega) (by simp [toldD, circ, List.map_map])
  simp
  refine ⟨div_ok (by omega) (by omega), by omega, by omega, ?_⟩
  rw [show ((n : Int) / 2).toNat = n / 2 by omega]
  refine lcD_list (fun k : Nat => D.int (0 + (k : Int))) (fun k : Nat => pairD (game n t k)) (List.range (n / 2)) [] (fun k hk A R a => ?_) (by show _ ≤ _; simp [lineMax]; omega) (by rw [rdD, List.map_map] at a; exact a)
  simp
  refine up_use0 (sp_game h _ _) ?_
  rintro _ rfl
  exact a
/-! teams, pairs -/
theorem lc2_tms {s0 s1 s2 s3 s4 : Sl} {Q : List D → Prop} : ∀ (g : List Gm) (acc : List D), acc.length + 2 * g.length ≤ lineMax → Q (acc ++ (tms g).map D.int) → lc2L (gName 5) bYes (iSeq (dVar 5)) (gName 6) bYes (dVar 6) [6] [s0, s1, s2, s3, s4, .no, .no] (g.map pairD) acc Q
  | [], acc, _, q => by
    rw [List.map_nil, lc2_nil]
    simpa [tms] using q
  | p :: g, acc, hl, q => by
    rw [List.map_cons, lc2_cons]
    have hl' : acc.length + 2 * (g.length + 1) ≤ 16777216 := hl
    have hh : lineMax = 16777216 := rfl
    simp [pairD, lcD_cons]
    refine ⟨by omega, by omega, ?_⟩
    exact lc2_tms g _ (by simp; omega) (by simpa [tms_cons] using q)
theorem tms_len : ∀ g : List Gm, (tms g).length = 2 * g.length
  | [] => rfl
  | p :: g => by
    rw [tms_cons]
    simp [tms_len g]
    omega
theorem eqDs_ints : ∀ a b : List Int, eqDs (a.map D.int) (b.map D.int) = decide (a = b)
  | [], [] => rfl
  | [], y :: b => by simp [eqDs]
  | x :: a, [] => by simp [eqDs]
  | x :: a, y :: b => by
    rw [List.map_cons, List.map_cons, eqs_cons, eqDs_ints a b]
    by_cases h : x = y <;> by_cases h2 : a = b <;> simp [h, h2]
theorem rng_upTo (n : Nat) : rng 0 n = (upTo n).map D.int := by
  unfold rng upTo
  rw [List.map_map]
  apply List.map_congr_left
  intro k _
  simp
theorem upTo_sorted (n : Nat) : (upTo n).Pairwise (· ≤ ·) := by
  unfold upTo
  refine List.pairwise_map.mpr (List.Pairwise.imp (fun {a b} h => ?_) List.pairwise_lt_range)
  omega
theorem sort_uniq {a b : List Int} (p : a.Perm b) (ha : a.Pairwise (· ≤ ·)) (hb : b.Pairwise (· ≤ ·)) : a = b :=
  List.Perm.eq_of_pairwise (fun x y _ _ h1 h2 => by omega) ha hb p
/-- sorted(teams) == list(range(n)) -/
theorem sort_ok {n : Nat} {g : List Gm} {ts ns : List Int} (pt : ts.Perm (tms g)) (p : ns.Perm ts) (s : ns.Pairwise (· ≤ ·)) : ns = upTo n ↔ okR n g :=
  ⟨fun e => (e ▸ (p.trans pt)).symm, fun h => sort_uniq ((p.trans pt).trans h) s (upTo_sorted n)⟩
def kp (p : Gm) : List Key := [.inl (pk p).1, .inl (pk p).2]
def putG (acc : List (List Key × D)) (p : Gm) : List (List Key × D) := putD acc (kp p) (.bl true)
def puts (gs : List Gm) : List (List Key × D) := gs.foldl putG []
theorem putD_len {κ : Type} [DecidableEq κ] (kvs : List (κ × D)) (k : κ) (v : D) : (putD kvs k v).length ≤ kvs.length + 1 := by
  unfold putD
  split <;> simp
theorem foldG_len : ∀ (gs : List Gm) (acc : List (List Key × D)), (gs.foldl putG acc).length ≤ acc.length + gs.length
  | [], acc => by simp
  | p :: gs, acc => by
    have h1 := foldG_len gs (putG acc p)
    have h2 : (putG acc p).length ≤ acc.length + 1 := putD_len _ _ _
    simp only [List.foldl_cons, List.length_cons]
    omega
theorem dcT_pairs {s0 s1 s2 s3 s4 s6 : Sl} {Q : List (List Key × D) → Prop} : ∀ (g : List Gm) (acc : List (List Key × D)), acc.length + g.length < 1000000 → Q (g.foldl putG acc) →
    dcTL (gName 5) bYes (aCons (dBlt fMinT (aCons (dVar 5) aNil)) (aCons (dBlt fMaxT (aCons (dVar 5) aNil)) aNil)) (dC (.bl true)) [s0, s1, s2, s3, s4, .no, s6] (g.map pairD) acc Q
  | [], acc, _, q => q
  | p :: g, acc, hl, q => by
    have hl' : acc.length + (g.length + 1) < 1000000 := hl
    have h2 : (putG acc p).length ≤ acc.length + 1 := putD_len _ _ _
    have ih := dcT_pairs (s0 := s0) (s1 := s1) (s2 := s2) (s3 := s3) (s4 := s4) (s6 := s6) g (putG acc p) (by omega) q
    show gName 5 (pairD p) _ _
    simp [pairD]
    refine ⟨by omega, ?_⟩
    simpa [putG, kp, pk, pairD] using ih
theorem kp_inj {p q : Gm} (h : kp p = kp q) : (p.1 = q.1 ∨ p.1 = q.2) := by
  have h1 : (pk p).1 = (pk q).1 := by simpa [kp] using congrArg (fun l : List Key => l.head?) h
  have h2 : (pk p).2 = (pk q).2 := by simpa [kp] using congrArg (fun l : List Key => l.getLast?) h
  unfold pk at h1 h2
  split at h1 <;> split at h1 <;> split at h2 <;> split at h2 <;> simp only at h1 h2 <;> omega
theorem mem_tms {p : Gm} {g : List Gm} (h : p ∈ g) : p.1 ∈ tms g ∧ p.2 ∈ tms g :=
  ⟨List.mem_flatMap.mpr ⟨p, h, by simp⟩, List.mem_flatMap.mpr ⟨p, h, by simp⟩⟩
theorem kp_nodup : ∀ {g : List Gm}, (tms g).Nodup → (g.map kp).Nodup
  | [], _ => by simp
  | p :: g, h => by
    rw [tms_cons, List.nodup_cons, List.nodup_cons] at h
    rw [List.map_cons, List.nodup_cons]
    refine ⟨fun z => ?_, kp_nodup h.2.2⟩
    obtain ⟨q, hq, e⟩ := List.mem_map.mp z
    have m := mem_tms hq
    rcases kp_inj e.symm with w | w
    · exact h.1 (List.mem_cons_of_mem _ (w ▸ m.1))
    · exact h.1 (List.mem_cons_of_mem _ (w ▸ m.2))
/-- with keys that differ, each is put at the end -/
theorem foldG_new : ∀ (g : List Gm) (acc : List (List Key × D)), (g.map kp).Nodup → (∀ p ∈ g, kp p ∉ acc.map (·.1)) → g.foldl putG acc = acc ++ g.map fun p => (kp p, D.bl true)
  | [], acc, _, _ => by simp
  | p :: g, acc, h, hn => by
    rw [List.map_cons, List.nodup_cons] at h
    have e : putG acc p = acc ++ [(kp p, D.bl true)] := by
      unfold putG putD
      rw [if_neg]
      rw [List.any_eq_true]
      rintro ⟨x, hx, z⟩
      exact hn p (by simp) (List.mem_map.mpr ⟨x, hx, of_decide_eq_true z⟩)
    rw [List.foldl_cons, e, foldG_new g _ h.2 fun q hq z => ?_]
    · simp
    · rw [List.map_append, List.mem_append] at z
      rcases z with z | z
      · exact hn q (by simp [hq]) z
      · simp at z
        exact h.1 (z ▸ List.mem_map.mpr ⟨q, hq, rfl⟩)
theorem merge_G {kvs : List (List Key × D)} {g : List Gm} (h : (g.map kp).Nodup) : mergeDT kvs (g.foldl putG []) = g.foldl putG kvs := by
  rw [foldG_new g [] h (by simp), List.nil_append]
  unfold mergeDT
  rw [List.foldl_map]
  rfl
theorem near_G {n : Nat} (hn : n ≤ 20) {g : List Gm} (h : okR n g) : ∀ p ∈ g.foldl putG [], near20 p.1 = true := by
  rw [foldG_new g [] (kp_nodup h.nodup) (by simp), List.nil_append]
  intro p hp
  obtain ⟨q, hq, rfl⟩ := List.mem_map.mp hp
  have m := mem_tms hq
  have lim : ∀ x ∈ tms g, 0 ≤ x ∧ x < 20 := fun x hx => by
    have := h.mem_iff.mp hx
    unfold upTo at this
    obtain ⟨k, hk, rfl⟩ := List.mem_map.mp this
    have := List.mem_range.mp hk
    omega
  have a := lim _ m.1
  have b := lim _ m.2
  have z1 : 0 ≤ (pk q).1 ∧ (pk q).1 < 20 := by
    show 0 ≤ (if q.2 < q.1 then q.2 else q.1) ∧ (if q.2 < q.1 then q.2 else q.1) < 20
    split <;> omega
  have z2 : 0 ≤ (pk q).2 ∧ (pk q).2 < 20 := by
    show 0 ≤ (if q.2 > q.1 then q.2 else q.1) ∧ (if q.2 > q.1 then q.2 else q.1) < 20
    split <;> omega
  show near20 [.inl (pk q).1, .inl (pk q).2] = true
  simp [near20, z1, z2]
theorem nodup_G {g : List Gm} (h : (g.map kp).Nodup) : ((g.foldl putG []).map (·.1)).Nodup := by
  rw [foldG_new g [] h (by simp), List.nil_append, List.map_map]
  exact h
/-! ### takes_fixtures, and the law's own -/
def TK (n : Nat) (told : List (List Gm)) : Prop := told.length = n - 1 ∧ (∀ g ∈ told, okR n g) ∧ ((puts told.flatten).length : Int) = (n : Int) * ((n : Int) - 1) / 2
theorem puts_app (hs : List (List Gm)) (g : List Gm) : puts (hs ++ [g]).flatten = g.foldl putG (puts hs.flatten) := by
  unfold puts
  rw [List.flatten_append, List.foldl_append]
  simp
/-- lists that a round of games is one of -/
structure Told (t : List (List Gm)) : Prop where
  l : t.length ≤ 100
  g : ∀ x ∈ t, x.length ≤ 100
theorem Told.puts {t : List (List Gm)} : ∀ (h : ∀ x ∈ t, x.length ≤ 100), (puts t.flatten).length ≤ 100 * t.length := by
  intro h
  have h1 := foldG_len t.flatten []
  have h2 : t.flatten.length ≤ 100 * t.length := by
    clear h1
    induction t with
    | nil => simp
    | cons x r ih =>
      have := ih fun y hy => h y (by simp [hy])
      have := h x (by simp)
      simp only [List.flatten_cons, List.length_append, List.length_cons]
      omega
  show (t.flatten.foldl putG []).length ≤ _
  simp only [List.length_nil] at h1
  omega
/-- a truth value that tells it -/
def TKr (n : Nat) (told : List (List Gm)) : DK := fun r => ∃ b : Bool, r = .bl b ∧ (b = true ↔ TK n told)
theorem tkr {n : Nat} {told : List (List Gm)} {b : Bool} (h : b = true ↔ TK n told) : TKr n told (.bl b) := ⟨b, rfl, h⟩
theorem tkr_no {n : Nat} {told : List (List Gm)} (h : ¬ TK n told) : TKr n told (.bl false) := ⟨false, rfl, by simpa using h⟩
theorem sp_takes {n : Nat} (h : Tm n) {t : List (List Gm)} (ht : Told t) : W_takes_fixtures [.int n, toldD t] (TKr n t) fun _ => False := by
  simp [W_takes_fixtures_w, V_takes_fixtures_0_w]
  refine up_use0 (sp_teams h) fun _ _ => ?_
  simp only [V_takes_fixtures_1_w]
  obtain ⟨h1, h2, h3⟩ := id h
  have l1 := ht.l
  simp [toldD]
  refine ite2' (fun c => ?_) (fun c => tkr_no fun z => by
    have := z.1
    omega)
  simp only [V_takes_fixtures_2_w]
  simp
  simp only [V_takes_fixtures_3_w]
  simp
  refine forL_hist rdD (fun hs ρ => (∀ g ∈ hs, okR n g) ∧ ∃ s1 s3 s4 s5 s6 : Sl, ρ = [.v (.int n), s1, .o (.dt (puts hs.flatten)), s3, s4, s5, s6]) ⟨by simp, _, _, _, _, _, rfl⟩ ?_ ?_
  · rintro hs g ts ρ nx ex ⟨ok, s1, s3, s4, s5, s6, rfl⟩ hn
    have hg : g ∈ t := by rw [ex]; simp
    have lg := ht.g g hg
    have lp := Told.puts (t := hs) fun x hx => ht.g x (by rw [ex]; simp [hx])
    have lh : hs.length ≤ 100 := by
      have := congrArg List.length ex
      simp at this
      omega
    have hh : lineMax = 16777216 := rfl
    simp
    simp only [V_takes_fixtures_L1_0_w]
    simp [rdD]
    refine lc2_tms g [] (by simp; omega) ?_
    simp
    simp only [V_takes_fixtures_L1_1_w]
    simp
    refine .inl (fSorted_ints fun ns p s => ?_)
    simp
    refine ⟨by unfold rgOk; omega, ?_⟩
    rw [rng_upTo]
    simp
    have so := sort_ok (n := n) (List.Perm.refl _) p s
    rw [eqDs_ints]
    by_cases e : ns = upTo n
    · have ok2 := so.mp e
      simp [e]
      simp only [V_takes_fixtures_L1_2_w]
      simp
      have l2 := foldG_len g []
      simp only [List.length_nil] at l2
      refine dcT_pairs g [] (by simp; omega) ?_
      have kn := kp_nodup ok2.nodup
      refine ⟨.inr ⟨fun a b => near_G (by omega) ok2 (a, b), nodup_G kn⟩, by omega, ?_⟩
      rw [merge_G kn, ← puts_app]
      refine hn _ ⟨fun x hx => ?_, _, _, _, _, _, rfl⟩
      rcases List.mem_append.mp hx with z | z
      · exact ok x z
      · rw [List.mem_singleton.mp z]
        exact ok2
    · simp [e]
      exact tkr_no fun z => e (so.mpr (z.2.1 g hg))
  · rintro ρ ⟨ok, s1, s3, s4, s5, s6, rfl⟩
    have lp := Told.puts (t := t) ht.g
    simp
    simp only [V_takes_fixtures_4_w]
    simp
    refine ⟨by omega, mul_ok (by omega) (by omega) (by omega) (by omega), div_ok (by omega) (by omega), ?_⟩
    refine tkr ?_
    simp only [decide_eq_true_eq]
    refine ⟨fun z => ⟨by omega, ok, z⟩, fun z => z.2.2⟩
theorem tms_split : ∀ g : List Gm, (g.map (·.1) ++ g.map (·.2)).Perm (tms g)
  | [] => .nil
  | p :: g => by
    rw [tms_cons, List.map_cons, List.map_cons, List.cons_append]
    exact ((List.perm_middle).trans ((tms_split g).cons p.2)).cons p.1
theorem sp_ltakes {n : Nat} (h : Tm n) {t : List (List Gm)} (ht : Told t) : W_u_law_takes [.int n, toldD t] (TKr n t) fun _ => False := by
  simp [W_u_law_takes_w, V_u_law_takes_0_w]
  obtain ⟨h1, h2, h3⟩ := id h
  have l1 := ht.l
  simp [toldD]
  refine ite2' (fun c => ?_) (fun c => tkr_no fun z => by
    have := z.1
    omega)
  simp only [V_u_law_takes_1_w]
  simp
  simp only [V_u_law_takes_2_w]
  simp
  refine forL_hist rdD (fun hs ρ => (∀ g ∈ hs, okR n g) ∧ ∃ s1 s3 s4 s5 : Sl, ρ = [.v (.int n), s1, .o (.dt (puts hs.flatten)), s3, s4, s5]) ⟨by simp, _, _, _, _, rfl⟩ ?_ ?_
  · rintro hs g ts ρ nx ex ⟨ok, s1, s3, s4, s5, rfl⟩ hn
    have hg : g ∈ t := by rw [ex]; simp
    have lg := ht.g g hg
    have lp := Told.puts (t := hs) fun x hx => ht.g x (by rw [ex]; simp [hx])
    have lh : hs.length ≤ 100 := by
      have := congrArg List.length ex
      simp at this
      omega
    have hh : lineMax = 16777216 := rfl
    simp
    simp only [V_u_law_takes_L2_0_w]
    simp [rdD]
    refine lcD_list pairD (fun p => D.int p.1) g [] (fun p hp A R a => ?_) (by simp; omega) ?_
    · simp [pairD]
      exact a
    refine lcD_list pairD (fun p => D.int p.2) g [] (fun p hp A R a => ?_) (by simp; omega) ?_
    · simp [pairD]
      exact a
    rw [List.nil_append, List.nil_append, show (g.map fun p => D.int p.1) ++ (g.map fun p => D.int p.2) = (g.map (·.1) ++ g.map (·.2)).map D.int by rw [List.map_append, List.map_map, List.map_map]; rfl]
    simp
    refine ⟨by omega, ?_⟩
    rw [← List.map_map, ← List.map_map, ← List.map_append]
    refine .inl (fSorted_ints fun ns p s => ?_)
    simp
    refine ⟨by unfold rgOk; omega, ?_⟩
    rw [rng_upTo]
    simp
    have so := sort_ok (n := n) (tms_split g) p s
    rw [eqDs_ints]
    by_cases e : ns = upTo n
    · have ok2 := so.mp e
      simp [e]
      simp only [V_u_law_takes_L2_1_w]
      simp
      refine forL_hist pairD (fun hs2 ρ => ∃ s1 s3 s4 s5 : Sl, ρ = [.v (.int n), s1, .o (.dt (hs2.foldl putG (puts hs.flatten))), s3, s4, s5]) ⟨_, _, _, _, rfl⟩ ?_ ?_
      · rintro hs2 p ts2 ρ nx2 ex2 ⟨s1, s3, s4, s5, rfl⟩ hn2
        have l2 := foldG_len hs2 (puts hs.flatten)
        have l3 : hs2.length ≤ g.length := by
          rw [ex2]
          simp
        simp [pairD]
        simp only [V_u_law_takes_L1_0_w]
        simp
        refine ⟨by omega, ?_⟩
        refine hn2 _ ⟨.no, .no, .no, .no, ?_⟩
        rw [List.foldl_append]
        rfl
      · rintro ρ ⟨s1, s3, s4, s5, rfl⟩
        simp
        rw [← puts_app]
        refine hn _ ⟨fun x hx => ?_, _, _, _, _, rfl⟩
        rcases List.mem_append.mp hx with z | z
        · exact ok x z
        · rw [List.mem_singleton.mp z]
          exact ok2
    · simp [e]
      exact tkr_no fun z => e (so.mpr (z.2.1 g hg))
  · rintro ρ ⟨ok, s1, s3, s4, s5, rfl⟩
    have lp := Told.puts (t := t) ht.g
    simp
    simp only [V_u_law_takes_3_w]
    simp
    refine ⟨by omega, mul_ok (by omega) (by omega) (by omega) (by omega), div_ok (by omega) (by omega), ?_⟩
    refine tkr ?_
    simp only [decide_eq_true_eq]
    refine ⟨fun z => ⟨by omega, ok, z⟩, fun z => z.2.2⟩
/-! ### breaks, and the law's own -/
theorem look_ks (ks : List Int) (x : Int) : (lookD (encKs ks) (.inl x)).isSome = decide (x ∈ ks) := by
  unfold lookD encKs
  rw [Bool.eq_iff_iff, decide_eq_true_eq, Option.isSome_map, List.find?_isSome]
  constructor
  · rintro ⟨kv, h1, h2⟩
    obtain ⟨y, hy, rfl⟩ := List.mem_map.mp h1
    simp at h2
    exact h2 ▸ hy
  · exact fun h => ⟨_, List.mem_map.mpr ⟨x, h, rfl⟩, by simp⟩
theorem in_ks {ks : List Int} {x : Int} {Q : DK} : oIn (.int x) (.dk (encKs ks)) Q ↔ Q (.bl (decide (x ∈ ks))) := by
  rw [← look_ks]
  exact ⟨fun h => h, fun h => h⟩
theorem dc_homes {s0 s1 s2 s3 s4 s5 : Sl} {Q : List (Key × D) → Prop} : ∀ (g : List Gm) (ks : List Int), ks.length + g.length ≤ 1000000 → (∀ ks' : List Int, (∀ x, x ∈ ks' ↔ x ∈ ks ∨ x ∈ g.map (·.1)) → Q (encKs ks')) →
    dcL (gName 6) bYes (dOp oIx (dVar 6) (dC (.int 0))) (dC (.bl true)) [s0, s1, s2, s3, s4, s5, .no] (g.map pairD) (encKs ks) Q
  | [], ks, _, q => q ks (by simp)
  | p :: g, ks, hl, q => by
    have hl' : ks.length + (g.length + 1) ≤ 1000000 := hl
    have hlen : (if p.1 ∈ ks then ks else ks ++ [p.1]).length ≤ ks.length + 1 := by split <;> simp
    have ih := dc_homes (s0 := s0) (s1 := s1) (s2 := s2) (s3 := s3) (s4 := s4) (s5 := s5) (Q := Q) g (if p.1 ∈ ks then ks else ks ++ [p.1]) (by omega) fun ks' h => q ks' fun x => by
      rw [h, List.map_cons, List.mem_cons]
      by_cases c : p.1 ∈ ks
      · rw [if_pos c]
        constructor
        · rintro (w | w)
          · exact .inl w
          · exact .inr (.inr w)
        · rintro (w | w | w)
          · exact .inl w
          · exact .inl (w ▸ c)
          · exact .inr w
      · rw [if_neg c, List.mem_append, List.mem_singleton, or_assoc]
    rw [← put_ks] at ih
    show gName 6 (pairD p) _ _
    simp [pairD]
    exact ⟨by unfold encKs; rw [List.length_map]; omega, ih⟩
theorem sp_breaks {n : Nat} (h : Tm n) {t : List (List Gm)} (ht : Told t) : W_breaks [.int n, toldD t] (fun r => r = .int (brk t)) fun _ => False := by
  simp [W_breaks_w, V_breaks_0_w]
  refine up_use0 (sp_teams h) fun _ _ => ?_
  simp only [V_breaks_1_w]
  simp
  simp only [V_breaks_2_w]
  simp [toldD]
  have ez : zipD (t.map rdD) (cutL (t.map rdD) (some 1) none) = (t.zip t.tail).map fun q => D.tup [rdD q.1, rdD q.2] := by
    rw [cutL_from1]
    unfold zipD
    rw [← List.map_drop, List.drop_one, List.zip_map, List.map_map]
    rfl
  rw [ez]
  refine forL_hist (fun q : List Gm × List Gm => D.tup [rdD q.1, rdD q.2]) (fun hs ρ => ∃ s0 s1 s3 s4 s5 s6 : Sl, ρ = [s0, s1, .v (.int (((hs.map fun q => bk2 q.1 q.2).sum : Nat) : Int)), s3, s4, s5, s6]) ⟨_, _, _, _, _, _, rfl⟩ ?_ ?_
  · rintro hs ⟨F, S⟩ ts ρ nx ex ⟨s0, s1, s3, s4, s5, s6, rfl⟩ hn
    have mFS : (F, S) ∈ t.zip t.tail := by rw [ex]; simp
    have lF := ht.g F (List.of_mem_zip mFS).1
    have lS := ht.g S (List.mem_of_mem_tail (List.of_mem_zip mFS).2)
    have hh : lineMax = 16777216 := rfl
    simp
    simp only [V_breaks_L1_0_w]
    simp [rdD]
    refine dc_homes F [] (by simp; omega) fun ks hk => ?_
    simp only [V_breaks_L1_1_w]
    simp
    refine lcD_ft pairD (fun p => decide (p.1 ∈ F.map (·.1))) pairD S (fun p hp A R hA hR => ?_) (by omega) ?_
    · simp [pairD]
      rw [in_ks]
      have e : decide (p.1 ∈ ks) = decide (p.1 ∈ F.map (·.1)) := decide_eq_decide.mpr (by rw [hk]; simp)
      rw [e]
      simp only [gB_b]
      cases c : decide (p.1 ∈ F.map (·.1)) with
      | true => simpa [pairD] using hA c
      | false => simpa using hR c
    simp
    simp only [V_breaks_L1_2_w]
    simp
    refine lcD_ft pairD (fun p => decide (p.2 ∉ F.map (·.1))) pairD S (fun p hp A R hA hR => ?_) (by omega) ?_
    · simp [pairD]
      rw [in_ks]
      have e : decide (p.2 ∈ ks) = decide (p.2 ∈ F.map (·.1)) := decide_eq_decide.mpr (by rw [hk]; simp)
      rw [e]
      simp only [gB_b]
      by_cases c : p.2 ∈ F.map (·.1)
      · have := hR (by simpa using c)
        rw [decide_eq_true c]
        simpa using this
      · have := hA (by simpa using c)
        rw [decide_eq_false c]
        simpa [pairD] using this
    simp
    refine hn _ ⟨.no, .no, .no, .no, .no, .no, ?_⟩
    have e : (S.filter fun p => !decide (p.2 ∈ F.map (·.1))) = S.filter fun p => decide (p.2 ∉ F.map (·.1)) := List.filter_congr fun p _ => by by_cases c : p.2 ∈ F.map (·.1) <;> simp [c]
    have e2 : (((hs.map fun q => bk2 q.1 q.2).sum : Nat) : Int) + ((S.filter fun p => decide (p.1 ∈ F.map (·.1))).length : Int) + ((S.filter fun p => !decide (p.2 ∈ F.map (·.1))).length : Int) = ((((hs ++ [(F, S)]).map fun q => bk2 q.1 q.2).sum : Nat) : Int) := by
      rw [List.map_append, List.sum_append, e]
      show _ = (((hs.map fun q => bk2 q.1 q.2).sum + (bk2 F S + 0) : Nat) : Int)
      unfold bk2
      omega
    exact congrArg (fun z : Int => [Sl.no, .no, .v (.int z), .no, .no, .no, .no]) e2
  · rintro ρ ⟨s0, s1, s3, s4, s5, s6, rfl⟩
    simp
    simp only [V_breaks_3_w]
    simp [brk]
theorem upTo_succ (i : Nat) : upTo (i + 1) = upTo i ++ [(i : Int)] := by
  unfold upTo
  rw [List.range_succ, List.map_append]
  rfl
theorem adj_fm (hs : List Nat) : (((List.range (hs.length - 1)).filterMap fun k => if hs[k]? = hs[k + 1]? then some (D.int 1) else none)).length = adj hs := by
  rw [← adj_ix]
  induction List.range (hs.length - 1) with
  | nil => rfl
  | cons k r ih =>
    by_cases h : hs[k]? = hs[k + 1]?
    · rw [List.filterMap_cons_some (by rw [if_pos h]), List.filter_cons, if_pos (decide_eq_true h)]
      simp [ih]
    · rw [List.filterMap_cons_none (by rw [if_neg h]), List.filter_cons, if_neg (by simpa using h)]
      exact ih
theorem sp_lbreaks {n : Nat} (hn : n ≤ 20) {t : List (List Gm)} (ht : Told t) : W_u_law_breaks [.int n, toldD t] (fun r => r = .int (lbrk n t)) fun _ => False := by
  have hh : lineMax = 16777216 := rfl
  have l1 := ht.l
  simp [W_u_law_breaks_w, V_u_law_breaks_0_w]
  simp only [V_u_law_breaks_1_w]
  simp
  refine ⟨by omega, ?_⟩
  refine forL_rng (fun i ρ => ∃ s0 s3 s4 s5 s6 s7 s8 : Sl, ρ = [s0, .v (toldD t), .v (.int ((((upTo i).map fun x => adj (t.map (hm x))).sum : Nat) : Int)), s3, s4, s5, s6, s7, s8]) ⟨_, _, _, _, _, _, _, rfl⟩ ?_ ?_
  · rintro i ρ nx hi ⟨s0, s3, s4, s5, s6, s7, s8, rfl⟩ hnx
    simp
    simp only [V_u_law_breaks_L1_0_w]
    simp [toldD]
    refine lcD_list rdD (fun g => D.int (hm i g)) t [] (fun g hg A R a => ?_) (by simp; omega) ?_
    · have lg := ht.g g hg
      simp [rdD]
      refine lcD_ft pairD (fun p => decide (p.1 = (i : Int))) (fun _ => D.int 1) g (fun p hp A2 R2 hA hR => ?_) (by omega) ?_
      · simp [pairD]
        refine ite2' (fun c => hA (by simp [c])) (fun c => hR (by simp [c]))
      · simpa [hm] using a
    · rw [List.nil_append]
      simp only [V_u_law_breaks_L1_1_w]
      simp
      refine ⟨by omega, by omega, ?_⟩
      have len : (t.map (hm i)).length = t.length := by simp
      refine lcD_rngF (fun k => if (t.map (hm i))[k]? = (t.map (hm i))[k + 1]? then some (D.int 1) else none) (fun k hk A R hA hR => ?_) (by omega) ?_
      · have k1 : k < t.length := by omega
        have k2 : k + 1 < t.length := by omega
        have e1 : atI (t.map fun g => D.int (hm i g)) ((k : Nat) : Int) = some (.int (hm i t[k])) := by
          rw [atI_nat (by simpa using k1)]
          simp [k1]
        have e2 : atI (t.map fun g => D.int (hm i g)) ((k : Int) + 1) = some (.int (hm i t[k + 1])) := by
          rw [show ((k : Int) + 1) = ((k + 1 : Nat) : Int) by omega, atI_nat (by simpa using k2)]
          simp [k2]
        simp [e1, e2]
        refine ite2' (fun c => hA _ (by simp [k1, k2]; omega)) (fun c => hR (by simp [k1, k2]; omega))
      · have := adj_fm (t.map (hm i))
        rw [len] at this
        generalize ((List.range (t.length - 1)).filterMap _) = ls at this ⊢
        simp [this]
        have e3 : ((((upTo i).map fun x => adj (t.map (hm x))).sum : Nat) : Int) + (adj (t.map (hm i)) : Nat) = ((((upTo (i + 1)).map fun x => adj (t.map (hm x))).sum : Nat) : Int) := by
          rw [upTo_succ, List.map_append, List.sum_append]
          show _ = ((((upTo i).map fun x => adj (t.map (hm x))).sum + (adj (t.map (hm i)) + 0) : Nat) : Int)
          omega
        rw [e3]
        refine hnx _ ⟨.no, .no, .no, .no, .no, .no, .no, rfl⟩
  · rintro ρ ⟨s0, s3, s4, s5, s6, s7, s8, rfl⟩
    simp
    simp only [V_u_law_breaks_2_w]
    simp [lbrk]
theorem sp_lfixtures {n : Nat} (h : Tm n) : W_u_law_fixtures [.int n] (fun r => r = toldD (circ n)) fun _ => False := by
  obtain ⟨h1, h2, h3⟩ := id h
  simp [W_u_law_fixtures_w, V_u_law_fixtures_0_w]
  simp only [V_u_law_fixtures_1_w]
  simp
  refine ⟨by omega, by omega, ?_⟩
  refine forL_rng (fun i ρ => ∃ s2 s3 s4 s5 s6 : Sl, ρ = [.v (.int n), .o (.lst ((List.range i).map fun r : Nat => rdD ((List.range (n / 2)).map fun k : Nat => game n r k))), s2, s3, s4, s5, s6]) ⟨_, _, _, _, _, rfl⟩ ?_ ?_
  · rintro i ρ nx hi ⟨s2, s3, s4, s5, s6, rfl⟩ hnx
    simp
    simp only [V_u_law_fixtures_L2_0_w]
    simp
    have go : ∀ d : D, d = pairD (game n i 0) → V_u_law_fixtures_L2_1 (fun e x => False) { nx := nx, rt := fun r => r = toldD (circ n), bk := V_u_law_fixtures_2 (fun e x => False) { nx := fun x => D.non = toldD (circ n), rt := fun r => r = toldD (circ n) }, ct := nx }
        [.v (.int n), .o (.lst ((List.range i).map fun r : Nat => rdD ((List.range (n / 2)).map fun k : Nat => game n r k))), .v (.int i), .o (.lst [d]), s4, s5, s6] := by
      rintro d rfl
      simp only [V_u_law_fixtures_L2_1_w]
      simp
      refine ⟨div_ok (by omega) (by omega), by omega, ?_⟩
      rw [show ((n : Int) / 2).toNat = n / 2 by omega]
      refine forL_rng (fun j ρ => ∃ s4 s5 s6 : Sl, ρ = [.v (.int n), .o (.lst ((List.range i).map fun r : Nat => rdD ((List.range (n / 2)).map fun k : Nat => game n r k))), .v (.int i), .o (.lst ((List.range (j + 1)).map fun k : Nat => pairD (game n i k))), s4, s5, s6]) ⟨.no, .no, .no, by simp⟩ ?_ ?_
      · rintro j ρ nx2 hj ⟨s4, s5, s6, rfl⟩ hn2
        simp
        simp only [V_u_law_fixtures_L1_0_w]
        simp
        refine ⟨by omega, by omega, ?_⟩
        simp only [V_u_law_fixtures_L1_1_w]
        simp
        have hj0 : ¬ (1 + (j : Int)) = 0 := by omega
        have gm : ∀ d : D, d = pairD (game n i (1 + (j : Int))) → ((List.range (j + 1)).map fun k : Nat => pairD (game n i k)) ++ [d] = (List.range (j + 1 + 1)).map fun k : Nat => pairD (game n i k) := by
          rintro d rfl
          rw [List.range_succ (n := j + 1), List.map_append, show (1 + (j : Int)) = ((j + 1 : Nat) : Int) by omega]
          rfl
        refine ite2' (fun c => ⟨by omega, ?_⟩) (fun c => ⟨by omega, ?_⟩)
        · rw [gm _ (by simp [game, pairD, hj0, c])]
          exact hn2 _ ⟨_, _, _, rfl⟩
        · rw [gm _ (by simp [game, pairD, hj0, c])]
          exact hn2 _ ⟨_, _, _, rfl⟩
      · rintro ρ ⟨s4, s5, s6, rfl⟩
        simp
        simp only [V_u_law_fixtures_L2_2_w]
        simp
        refine ⟨by omega, ?_⟩
        rw [show n / 2 - 1 + 1 = n / 2 by omega]
        refine hnx _ ⟨.no, .no, .no, .no, .no, ?_⟩
        rw [List.range_succ, List.map_append]
        simp [rdD, List.map_map]
    refine ite2' (fun c => go _ ?_) (fun c => go _ ?_)
    · simp [game, pairD, c]
    · simp [game, pairD, c]
  · rintro ρ ⟨s2, s3, s4, s5, s6, rfl⟩
    simp
    simp only [V_u_law_fixtures_2_w]
    simp [toldD, circ]
/-! ### bent rounds -/
theorem at_in {α : Type} {f : α → D} {xs : List α} {i : Int} (h0 : 0 ≤ i) (h1 : i < xs.length) : ∃ x ∈ xs, atI (xs.map f) i = some (f x) := by
  obtain ⟨k, rfl⟩ := Int.eq_ofNat_of_zero_le h0
  have hk : k < xs.length := by omega
  exact ⟨xs[k], List.getElem_mem _, by rw [atI_nat (by simpa using hk)]; simp [hk]⟩
theorem cut_len {α : Type} {xs : List α} {lo hi : Option Int} : (cutL xs lo hi).length ≤ xs.length := by
  unfold cutL
  rw [List.length_take, List.length_drop]
  omega
theorem mem_cut {α : Type} {xs : List α} {lo hi : Option Int} {x : α} (h : x ∈ cutL xs lo hi) : x ∈ xs := List.mem_of_mem_drop (List.mem_of_mem_take h)
/-- a round of games, as it is laid -/
def RT (d : D) : Prop := ∃ g : List Gm, d = rdD g ∧ g.length ≤ 100
def BT : DK := fun d => ∃ t, d = toldD t ∧ Told t
theorem enc_of {α : Type} {f : α → D} : ∀ {xs : List D}, (∀ x ∈ xs, ∃ y, x = f y) → ∃ ys : List α, xs = ys.map f
  | [], _ => ⟨[], rfl⟩
  | x :: xs, h => by
    obtain ⟨y, rfl⟩ := h x (by simp)
    obtain ⟨ys, rfl⟩ := enc_of fun z hz => h z (List.mem_cons_of_mem _ hz)
    exact ⟨y :: ys, rfl⟩
theorem RT_of {xs : List D} (h : ∀ x ∈ xs, ∃ p, x = pairD p) (l : xs.length ≤ 100) : RT (.tup xs) := by
  obtain ⟨g, rfl⟩ := enc_of h
  exact ⟨g, rfl, by simpa using l⟩
theorem BT_of {xs : List D} (h : ∀ x ∈ xs, RT x) (l : xs.length ≤ 100) : BT (.tup xs) := by
  obtain ⟨t, rfl⟩ := enc_of (f := rdD) fun x hx => by
    obtain ⟨g, e, _⟩ := h x hx
    exact ⟨g, e⟩
  refine ⟨t, rfl, by simpa using l, fun g hg => ?_⟩
  obtain ⟨g2, e, l2⟩ := h _ (List.mem_map.mpr ⟨g, hg, rfl⟩)
  have : g.map pairD = g2.map pairD := D.tup.inj e
  have := congrArg List.length this
  simp at this
  omega
theorem in_map {α : Type} {f : α → D} {xs : List α} {lo hi : Option Int} {x : D} (h : x ∈ cutL (xs.map f) lo hi) : ∃ y ∈ xs, x = f y := by
  obtain ⟨y, hy, e⟩ := List.mem_map.mp (mem_cut h)
  exact ⟨y, hy, e.symm⟩
theorem all_app {P : D → Prop} {a b : List D} (ha : ∀ x ∈ a, P x) (hb : ∀ x ∈ b, P x) : ∀ x ∈ a ++ b, P x := fun x h => (List.mem_append.mp h).elim (ha x) (hb x)
theorem all_cons {P : D → Prop} {a : D} {b : List D} (ha : P a) (hb : ∀ x ∈ b, P x) : ∀ x ∈ a :: b, P x := fun x h => (List.mem_cons.mp h).elim (fun e => e ▸ ha) (hb x)
theorem all_nil {P : D → Prop} : ∀ x ∈ ([] : List D), P x := fun x h => by cases h
theorem lg_le {n : Nat} (h : n ≤ 1000) : n.log2 < 9000 := Nat.lt_of_le_of_lt (Nat.log2_le_self n) (by omega)
theorem sp_bent {t : List (List Gm)} {m : Nat} (ht0 : t ≠ []) (htl : t.length ≤ 20) (htg : ∀ g ∈ t, g.length = m) (hm0 : 0 < m) (hm : m ≤ 10) : W_u_law_bent [.st, toldD t] BT fun _ => False := by
  have hh : lineMax = 16777216 := rfl
  have hl0 : 0 < t.length := List.length_pos_iff.mpr ht0
  obtain ⟨g0, hg0, eg0⟩ := at_in (f := rdD) (xs := t) (i := 0) (by omega) (by omega)
  have lg0 := htg g0 hg0
  have el : (t.map rdD).length = t.length := by simp
  have tR : ∀ g ∈ t, RT (rdD g) := fun g hg => ⟨g, rfl, by rw [htg g hg]; omega⟩
  have cT : ∀ lo hi, ∀ x ∈ cutL (t.map rdD) lo hi, RT x := fun lo hi x hx => by
    obtain ⟨g, hg, rfl⟩ := in_map hx
    exact tR g hg
  have cl : ∀ lo hi, (cutL (t.map rdD) lo hi).length ≤ t.length := fun lo hi => by
    have := cut_len (xs := t.map rdD) (lo := lo) (hi := hi)
    rwa [el] at this
  have gT : ∀ (g : List Gm) lo hi, ∀ x ∈ cutL (g.map pairD) lo hi, ∃ p, x = pairD p := fun g lo hi x hx => by
    obtain ⟨p, _, e⟩ := in_map hx
    exact ⟨p, e⟩
  have gl : ∀ g ∈ t, ∀ lo hi, (cutL (g.map pairD) lo hi).length ≤ m := fun g hg lo hi => by
    have := cut_len (xs := g.map pairD) (lo := lo) (hi := hi)
    rw [List.length_map, htg g hg] at this
    exact this
  simp [W_u_law_bent_w, V_u_law_bent_0_w, toldD]
  refine ⟨by omega, lg_le (by omega), fun r r0 r1 => ?_⟩
  rw [eg0]
  simp [rdD, lg0]
  refine ⟨by omega, lg_le (by omega), fun k k0 k1 => ?_⟩
  obtain ⟨g, hg, eg⟩ := at_in (f := rdD) (xs := t) (i := r) r0 r1
  simp only [V_u_law_bent_1_w]
  simp [eg]
  simp only [V_u_law_bent_2_w]
  simp
  intro kind _ _
  simp only [V_u_law_bent_3_w]
  simp
  obtain ⟨fw, hfw, efw⟩ := at_in (f := rdD) (xs := t) (i := (r + 1) % (t.length : Int)) (Int.emod_nonneg _ (by omega)) (Int.emod_lt_of_pos _ (by omega))
  rw [efw]
  refine ⟨hl0, ?_⟩
  have lg := htg g hg
  have lfw := htg fw hfw
  obtain ⟨p, hp, ep⟩ := at_in (f := pairD) (xs := g) (i := k) k0 (by omega)
  obtain ⟨pf, hpf, epf⟩ := at_in (f := pairD) (xs := fw) (i := k) k0 (by omega)
  obtain ⟨p0, hp0, ep0⟩ := at_in (f := pairD) (xs := g) (i := 0) (by omega) (by omega)
  have c1 := cl none (some r)
  have c2 := cl (some (r + 1)) none
  have c3 := cl (some (r + 2)) none
  have c4 := cl (some r) none
  have c5 := cl (some r) (some (r + 1))
  have d1 := gl g hg none (some k)
  have d2 := gl g hg (some (k + 1)) none
  have f1 := gl fw hfw none (some k)
  have f2 := gl fw hfw (some (k + 1)) none
  generalize hc1 : cutL (t.map rdD) none (some r) = C1 at *
  generalize hc2 : cutL (t.map rdD) (some (r + 1)) none = C2 at *
  generalize hc3 : cutL (t.map rdD) (some (r + 2)) none = C3 at *
  generalize hc4 : cutL (t.map rdD) (some r) none = C4 at *
  generalize hc5 : cutL (t.map rdD) (some r) (some (r + 1)) = C5 at *
  generalize hd1 : cutL (g.map pairD) none (some k) = D1 at *
  generalize hd2 : cutL (g.map pairD) (some (k + 1)) none = D2 at *
  generalize hf1 : cutL (fw.map pairD) none (some k) = F1 at *
  generalize hf2 : cutL (fw.map pairD) (some (k + 1)) none = F2 at *
  have r1 : ∀ x ∈ C1, RT x := hc1 ▸ cT _ _
  have r2 : ∀ x ∈ C2, RT x := hc2 ▸ cT _ _
  have r3 : ∀ x ∈ C3, RT x := hc3 ▸ cT _ _
  have r4 : ∀ x ∈ C4, RT x := hc4 ▸ cT _ _
  have r5 : ∀ x ∈ C5, RT x := hc5 ▸ cT _ _
  have t1 : ∀ x ∈ D1, ∃ p, x = pairD p := hd1 ▸ gT g _ _
  have t2 : ∀ x ∈ D2, ∃ p, x = pairD p := hd2 ▸ gT g _ _
  have u1 : ∀ x ∈ F1, ∃ p, x = pairD p := hf1 ▸ gT fw _ _
  have u2 : ∀ x ∈ F2, ∃ p, x = pairD p := hf2 ▸ gT fw _ _
  simp only [V_u_law_bent_4_w]
  simp [hc1, hc2]
  refine ite2' (fun _ => ?_) (fun _ => ?_)
  · refine ⟨by omega, by omega, BT_of ?_ (by simp; omega)⟩
    repeat first | exact r1 | exact r2 | exact tR fw hfw | exact all_nil | apply all_app | apply all_cons
  have h6 : V_u_law_bent_6 (fun e x => False) { nx := fun x => BT D.non, rt := BT } [.v .st, .v (.tup (t.map rdD)), .v (.int r), .v (.int k), .v (rdD g), .v (.int kind), .v (rdD fw), .no, .no] := by
    simp only [V_u_law_bent_6_w]
    simp [hc1, hc2]
    refine ite2' (fun _ => ⟨by omega, BT_of (all_app r1 r2) (by simp; omega)⟩) (fun _ => ?_)
    simp only [V_u_law_bent_7_w]
    simp [hc1, hc2, hd1, hd2, rdD, ep]
    refine ite2' (fun _ => ?_) (fun _ => ?_)
    · simp [pairD]
      refine ⟨by omega, by omega, by omega, by omega, BT_of (all_app r1 (all_cons (RT_of (all_app t1 (all_cons ⟨(p.2, p.1), rfl⟩ t2)) (by simp; omega)) r2)) (by simp; omega)⟩
    simp only [V_u_law_bent_8_w]
    simp [hc1, hc2, hd1, hd2]
    refine ite2' (fun _ => ?_) (fun _ => ?_)
    · refine ⟨by omega, by omega, by omega, BT_of (all_app r1 (all_cons (RT_of (all_app t1 t2) (by simp; omega)) r2)) (by simp; omega)⟩
    simp only [V_u_law_bent_9_w]
    simp [hc1, hc4, hc5]
    refine ite2' (fun _ => ?_) (fun _ => ?_)
    · refine ⟨by omega, by omega, BT_of ?_ (by simp; omega)⟩
      repeat first | exact r1 | exact r4 | exact r5 | apply all_app
    simp only [V_u_law_bent_10_w]
    simp [hc1, hc2, hd1, hd2, ep, ep0]
    refine ite2' (fun _ => ?_) (fun _ => ?_)
    · simp [pairD]
      refine ⟨by omega, by omega, by omega, by omega, BT_of (all_app r1 (all_cons (RT_of (all_app t1 (all_cons ⟨(p.1, p0.2), rfl⟩ t2)) (by simp; omega)) r2)) (by simp; omega)⟩
    simp only [V_u_law_bent_11_w]
    simp
    refine BT_of (fun x hx => ?_) (by simp; omega)
    obtain ⟨y, hy, rfl⟩ := List.mem_map.mp (List.mem_reverse.mp hx)
    exact tR y hy
  simp only [V_u_law_bent_5_w]
  simp
  refine ite2' (fun _ => ite2' (fun c7 => ?_) fun _ => h6) (fun _ => h6)
  simp only [V_u_law_bent_B1_0_w]
  simp [hd1, hd2, hf1, hf2, rdD, epf]
  refine ⟨by omega, by omega, ?_⟩
  simp only [V_u_law_bent_B1_1_w]
  simp [hf1, hf2, ep]
  refine ⟨by omega, by omega, ?_⟩
  simp only [V_u_law_bent_B1_2_w]
  simp [hc1, hc3]
  refine ⟨by omega, by omega, BT_of (all_app r1 (all_cons (RT_of (all_app t1 (all_cons ⟨pf, rfl⟩ t2)) (by simp; omega)) (all_cons (RT_of (all_app u1 (all_cons ⟨p, rfl⟩ u2)) (by simp; omega)) r3))) (by simp; omega)⟩
/-! ### the circle's games are fixtures -/
theorem circ_good {n : Nat} (h : Tm n) : goodC n = true := by
  obtain ⟨h1, h2, h3⟩ := h
  have := goodC_all (n / 2) (by simp; omega)
  rwa [show 2 * (n / 2) = n by omega] at this
theorem circ_len {n : Nat} (h : Tm n) : (circ n).length = n - 1 := by unfold circ; simp
theorem circ_g {n : Nat} : ∀ g ∈ circ n, g.length = n / 2 := fun g hg => by
  unfold circ at hg
  obtain ⟨r, _, rfl⟩ := List.mem_map.mp hg
  simp
theorem circ_told {n : Nat} (h : Tm n) : Told (circ n) := by
  obtain ⟨h1, h2, h3⟩ := id h
  exact ⟨by rw [circ_len h]; omega, fun g hg => by rw [circ_g g hg]; omega⟩
theorem nodup_kp {gs : List Gm} (h : (gs.map code).Nodup) : (gs.map kp).Nodup := by
  have e : gs.map code = (gs.map kp).map (fun ks => match ks with | [.inl a, .inl b] => a.toNat * 20 + b.toNat | _ => 0) := by
    rw [List.map_map]
    rfl
  rw [e] at h
  exact (List.pairwise_map.mp h).imp fun {a b} z w => z (by rw [w])
theorem circ_TK {n : Nat} (h : Tm n) : TK n (circ n) ∧ brk (circ n) = n - 2 := by
  have g := circ_good h
  unfold goodC at g
  rw [Bool.and_eq_true, Bool.and_eq_true, Bool.and_eq_true, List.all_eq_true, decide_eq_true_eq, decide_eq_true_eq, decide_eq_true_eq, List.flatMap_id] at g
  obtain ⟨⟨⟨g1, g2⟩, g3⟩, g4⟩ := g
  obtain ⟨h1, h2, h3⟩ := id h
  refine ⟨⟨circ_len h, fun x hx => List.isPerm_iff.mp (g1 x hx), ?_⟩, g4⟩
  unfold puts
  rw [foldG_new _ [] (nodup_kp g2) (by simp), List.nil_append, List.length_map, g3, show ((n : Int) - 1) = ((n - 1 : Nat) : Int) by omega, Int.natCast_ediv, Int.natCast_mul]
  rfl
/-! ### the law -/
theorem sm_told {t : List (List Gm)} (h : Told t) : smD 3 (toldD t) :=
  ⟨by have := h.l; simp; omega, fun x hx => by
    obtain ⟨g, hg, rfl⟩ := List.mem_map.mp hx
    have := h.g g hg
    refine ⟨by simp; omega, fun y hy => ?_⟩
    obtain ⟨p, _, rfl⟩ := List.mem_map.mp hy
    exact ⟨by simp, fun z hz => by simp at hz; rcases hz with rfl | rfl <;> trivial⟩⟩
theorem law_L1 {n : Nat} (h : Tm n) {nx : DL.Env → Prop} {bk : DL.Env → Prop} {s0 s2 s5 s6 s7 s8 s9 : Sl} (hn : ∀ s0 s2 s5 s6 s7 s8 s9 : Sl, nx [s0, .v .st, s2, .v (.int n), .v (toldD (circ n)), s5, s6, s7, s8, s9]) :
    V_law_L1_0 (fun _ _ => False) { nx := nx, rt := fun d => d = .bl true, bk := bk, ct := nx } [s0, .v .st, s2, .v (.int n), .v (toldD (circ n)), s5, s6, s7, s8, s9] := by
  obtain ⟨h1, h2, h3⟩ := id h
  have cl := circ_len h
  simp only [V_law_L1_0_w]
  simp
  refine up_use0 (sp_bent (m := n / 2) (fun z => by rw [z] at cl; simp at cl; omega) (by omega) circ_g (by omega) (by omega)) ?_
  rintro _ ⟨t, rfl, ht⟩
  simp only [V_law_L1_1_w]
  simp
  refine up_use0 (sp_ltakes h ht) ?_
  rintro _ ⟨b, rfl, hb⟩
  simp only [V_law_L1_2_w]
  simp
  refine up_use0 (sp_takes h ht) ?_
  rintro _ ⟨b2, rfl, hb2⟩
  have eb : b2 = b := by
    cases b <;> cases b2 <;> simp_all
  subst eb
  refine sp_same (n := 0) (by omega) (by trivial) ?_
  simp
  have fin : V_law_L1_3 (fun _ _ => False) { nx := nx, rt := fun d => d = .bl true, bk := bk, ct := nx } [s0, .v .st, s2, .v (.int n), .v (toldD (circ n)), s5, .v (toldD t), .v (.bl b2), s8, s9] := by
    simp only [V_law_L1_3_w]
    simp
    exact hn _ _ _ _ _ _ _
  refine ite2' (fun c => ?_) (fun _ => fin)
  have tk := hb.mp c
  refine up_use0 (sp_breaks h ht) ?_
  rintro _ rfl
  refine up_use0 (sp_lbreaks h2 ht) ?_
  rintro _ rfl
  rw [lbrk_brk t tk.2.1]
  exact sp_same (n := 0) (by omega) (by trivial) (by simpa using fin)
theorem law_L2 {n : Nat} (h : Tm n) {nx : DL.Env → Prop} {bk : DL.Env → Prop} {s0 s2 s4 s5 s6 s7 s8 s9 : Sl} (hn : ∀ s0 s2 s3 s4 s5 s6 s7 s8 s9 : Sl, nx [s0, .v .st, s2, s3, s4, s5, s6, s7, s8, s9]) :
    V_law_L2_1 (fun _ _ => False) { nx := nx, rt := fun d => d = .bl true, bk := bk, ct := nx } [s0, .v .st, s2, .v (.int n), s4, s5, s6, s7, s8, s9] := by
  obtain ⟨h1, h2, h3⟩ := id h
  have ct := circ_told h
  obtain ⟨tk, bc⟩ := circ_TK h
  simp only [V_law_L2_1_w]
  simp
  refine up_use0 (sp_fixtures h) ?_
  rintro _ rfl
  simp only [V_law_L2_2_w]
  simp
  refine up_use0 (sp_lfixtures h) ?_
  rintro _ rfl
  refine sp_same (n := 3) (by omega) (sm_told ct) ?_
  simp
  refine up_use0 (sp_takes h ct) ?_
  rintro _ ⟨b, rfl, hb⟩
  have eb : b = true := hb.mpr tk
  subst eb
  simp
  refine up_use0 (sp_breaks h ct) ?_
  rintro _ rfl
  rw [bc]
  simp
  refine ⟨by omega, ?_⟩
  simp only [V_law_L2_3_w]
  simp
  refine forL_inv (fun _ ρ => ∃ s0 s2 s5 s6 s7 s8 s9 : Sl, ρ = [s0, .v .st, s2, .v (.int n), .v (toldD (circ n)), s5, s6, s7, s8, s9]) ⟨_, _, _, _, _, _, _, rfl⟩ ?_ ?_
  · rintro i x ρ nx2 hx ⟨s0, s2, s5, s6, s7, s8, s9, rfl⟩ hn2
    simp
    exact law_L1 h fun _ _ _ _ _ _ _ => hn2 _ ⟨_, _, _, _, _, _, _, rfl⟩
  · rintro ρ ⟨s0, s2, s5, s6, s7, s8, s9, rfl⟩
    simp
    simp only [V_law_L2_4_w]
    simp
    intro r r0 r1
    have go : ∀ (z : Int) (s0 s2 s5 s6 s7 s9 : Sl), (z = 0 ∨ z = 1 ∨ z = 3 ∨ z = 22 ∨ z = -2 ∨ z = 21) → V_law_L2_5 (fun _ _ => False) { nx := nx, rt := fun d => d = .bl true, bk := bk, ct := nx } [s0, .v .st, s2, .v (.int n), .v (toldD (circ n)), s5, s6, s7, .v (.int z), s9] := by
      intro z s0 s2 s5 s6 s7 s9 hz
      have er3 := e_teams hz
      simp only [V_law_L2_5_w]
      simp
      have e1 : W_fixtures [.int z] (fun _ => False) fun e => e = er "JobError" "teams" := by
        simp [W_fixtures_w, V_fixtures_0_w]
        exact use_e er3 rfl
      have e2 : W_takes_fixtures [.int z, .tup []] (fun _ => False) fun e => e = er "JobError" "teams" := by
        simp [W_takes_fixtures_w, V_takes_fixtures_0_w]
        exact use_e er3 rfl
      have e3 : W_breaks [.int z, .tup []] (fun _ => False) fun e => e = er "JobError" "teams" := by
        simp [W_breaks_w, V_breaks_0_w]
        exact use_e er3 rfl
      have code : ∀ Q : DK, Q (.bl true) → xOp oEq (xFld (Str.ofString "code")) (xC (.str (Str.ofString "teams"))) (er "JobError" "teams") Q := fun Q q => by
        simp [xOp, xFld, xC]
        exact q
      refine use_e e1 ⟨rfl, code _ ⟨rfl, ?_⟩⟩
      refine use_e e2 ⟨rfl, code _ ⟨rfl, ?_⟩⟩
      refine use_e e3 ⟨rfl, code _ ⟨rfl, ?_⟩⟩
      simp only [V_law_L2_6_w]
      simp
      exact hn _ _ _ _ _ _ _ _ _
    have : r = 0 ∨ r = 1 ∨ r = 2 ∨ r = 3 ∨ r = 4 ∨ r = 5 := by omega
    rcases this with rfl | rfl | rfl | rfl | rfl | rfl <;> simp [atI, ixN] <;> exact go _ _ _ _ _ _ _ (by simp)
theorem vc_law : ∀ ns : List Int, ns.length ≤ 63 → W_law [.scr ns] (fun d => d = .bl true) fun _ => False := by
  intro ns hns
  simp [W_law_w, V_law_0_w, hns]
  simp only [V_law_1_w]
  simp
  refine forL_inv (fun _ ρ => ∃ s0 s2 s3 s4 s5 s6 s7 s8 s9 : Sl, ρ = [s0, .v .st, s2, s3, s4, s5, s6, s7, s8, s9]) ⟨_, _, _, _, _, _, _, _, _, rfl⟩ ?_ ?_
  · rintro i x ρ nx hx ⟨s0, s2, s3, s4, s5, s6, s7, s8, s9, rfl⟩ hn
    simp
    simp only [V_law_L2_0_w]
    simp
    intro r r0 r1
    refine ⟨mul_ok (by omega) (by omega) (by omega) (by omega), ?_⟩
    obtain ⟨k, rfl⟩ := Int.eq_ofNat_of_zero_le r0
    rw [show (2 : Int) * (1 + (k : Int)) = ((2 * (1 + k) : Nat) : Int) by omega]
    exact law_L2 (n := 2 * (1 + k)) ⟨by omega, by omega, by omega⟩ fun _ _ _ _ _ _ _ _ _ => hn _ ⟨_, _, _, _, _, _, _, _, _, rfl⟩
  · rintro ρ ⟨s0, s2, s3, s4, s5, s6, s7, s8, s9, rfl⟩
    simp
    simp only [V_law_2_w]
    simp
end K62

/-! DDrawL: a list of draws as one steady object. -/
namespace DL
open PySem L2 PyProof.Rows
variable [TN]
def dlPhi (P : Program) (w : World) (a : Addr) : Heap → Prop := fun h => ∃ ns : List Int, ObjOk P w (fun _ => none) h a (.lst (ns.map V.int))
def dlO (P : Program) (w : World) (a : Addr) : HO := .ext (dlPhi P w a)
def dlS (P : Program) (w : World) : Bool × (Addr → Addr → Nat → HO) := (false, fun a _ _ => dlO P w a)
theorem dl_open {P : Program} {w : World} {H : Hp} {h : Heap} {a : Addr} (ok : HOk P w H h) (e : H a = some (dlO P w a)) : ∃ ns : List Int, HOk P w (upd H a (.lst (ns.map V.int))) h := by
  obtain ⟨⟨ns, d⟩, _, _⟩ := ok a _ e
  exact ⟨ns, hok_upd ok e (fun _ z => by cases z) (fun _ z => by cases z) d⟩
theorem dl_close {P : Program} {w : World} {H : Hp} {h : Heap} {a : Addr} {ns : List Int} (ok : HOk P w H h) (e : H a = some (.lst (ns.map V.int))) : HOk P w (upd H a (dlO P w a)) h := by
  have d := ok a _ e
  refine hok_upd ok e (fun _ z => by cases z) (fun _ z => by cases z) ⟨⟨ns, d⟩, ?_, fun h1 h2 ⟨ns, d⟩ k => ⟨ns, ?_⟩⟩
  · obtain ⟨_, its, n, _, e2⟩ := d
    exact ⟨_, e2⟩
  · obtain ⟨z, its, n, r, e2⟩ := d
    exact ⟨z, its, n, r, k _ e2⟩
theorem reps_int {K : Fg} {cl : Cl} {F : Hp} : ∀ {ns : List Int} {vs : List V}, Reps K cl F vs (ns.map D.int) → vs = ns.map V.int
  | [], _, .nil => rfl
  | _ :: _, _, .cons (.int _) r => by
    rw [reps_int r]
    rfl
/-- a draw's promise over the list -/
def spTake : Sp := fun vs H Q _ => ∃ (a : Addr) (ns : List Int) (b : Int), vs = [.ref a, .int b] ∧ H a = some (.lst (ns.map V.int)) ∧ 0 < b ∧ ∀ r (ns' : List Int), 0 ≤ r → r < b → Q (.int r) (upd H a (.lst (ns'.map V.int)))
theorem upd_back {H : Hp} {a : Addr} {o : HO} (e : H a = some o) : upd H a o = H := by
  funext p
  by_cases hp : p = a
  · subst hp
    rw [upd_same, e]
  · rw [upd_ne hp]
theorem take_view {P : Program} {w : World} {K : Fg} {cl : Cl} {mg : Str → Option Value} {base : Heap} {k : Nat} {f : Addr} {fd : FuncData} (hso : cl.so = dlS P w) (F : FnOk P w K mg base (L2.CX P w) k f fd ["draws", "limit"] spTake) :
    FnOk P w K mg base (L2.CX P w) k f fd ["draws", "limit"] (spD K cl wDraw) := by
  refine fn_view F (fun vs H Q E h => ?_) (fun vs H Q E h hp ok => ?_)
  · obtain ⟨F0, ds, Q', E', _, r, q, _⟩ := h
    match ds, q with
    | [.st, .int b], q => rw [r.length]; rfl
  · obtain ⟨F0, ds, Q', E', s0, r, q, hQ, hE⟩ := h
    match ds, q, r with
    | [.st, .int b], ⟨hb, hb2, q⟩, .cons (.st (a := a) e1 _ _) (.cons (.int _) .nil) =>
      rw [hso] at e1
      have e1 : F0 a = some (dlO P w a) := e1
      have e1' := s0 _ _ e1
      obtain ⟨ns, ok1⟩ := dl_open ok e1'
      refine ⟨_, Sm.upd e1' (fun _ z => by cases z) (fun _ _ z => by cases z) (fun _ z => by cases z), ok1, a, ns, b, rfl, upd_same, hb, fun r ns' h0 h1 => ?_⟩
      refine ⟨H, ?_, fun h ok2 => ?_, hQ _ (q r h0 h1) _ F0 H (Gr.refl s0) (.int _)⟩
      · rw [upd_upd]
        have z := Sm.upd (H := upd H a (.lst (ns'.map V.int))) (a := a) (u := dlO P w a) upd_same (fun _ z => by cases z) (fun _ _ z => by cases z) (fun _ z => by cases z)
        rw [upd_upd, upd_back e1'] at z
        exact z
      · rw [upd_upd] at ok2
        have z := dl_close ok2 upd_same
        rw [upd_upd, upd_back e1'] at z
        exact z
theorem draws_view {P : Program} {w : World} {K : Fg} {cl : Cl} {mg : Str → Option Value} {base : Heap} {k : Nat} {f : Addr} {fd : FuncData} {Wf : DF} (hso : cl.so = dlS P w)
    (hW : ∀ (ns : List Int) (c : Int), ns.length ≤ 63 → 0 ≤ c → c ≤ 1000 → Wf [.scr ns, .int c] (fun r => ∃ ds : List Int, r = .lst (ds.map D.int)) fun _ => False)
    (F : FnOk P w K mg base (L2.CX P w) k f fd ["script", "count"] (spN K cl Wf)) : FnOk P w K mg base (L2.CX P w) k f fd ["script", "count"] (spD K cl wDraws) := by
  refine fn_view F (fun vs H Q E h => ?_) (fun vs H Q E h hp ok => ?_)
  · obtain ⟨F0, ds, Q', E', _, r, q, _⟩ := h
    match ds, q with
    | [.scr ns, .int c], q => rw [r.length]; rfl
  · obtain ⟨F0, ds, Q', E', s0, r, q, hQ, hE⟩ := h
    match ds, q, r with
    | [.scr ns, .int c], ⟨⟨h1, h2, h3⟩, q⟩, r =>
      refine ⟨H, Sm.refl H, ok, F0, _, _, _, s0, r, hW ns c h1 h2 h3, fun d z p F' H' g np nf o => ?_, fun _ z => z.elim⟩
      obtain ⟨ds, rfl⟩ := z
      obtain ⟨vs, ep, rr⟩ := o
      have ev := reps_int rr
      subst ev
      refine ⟨upd H' p (dlO P w p), Sm.upd ep (fun _ z => by cases z) (fun _ _ z => by cases z) (fun _ z => by cases z), fun h ok2 => dl_close ok2 ep, ?_⟩
      have fp : F0 p = none := s0.free np
      refine hQ _ q _ (upd F' p (dlO P w p)) _ ⟨fun b u z => ?_, g.k.put np (.at ep), fun b u z => ?_, fun b z1 z2 => ?_, fun b ps z => ?_, fun b ps z => ?_⟩ (.st (c := p) (ns := []) (by rw [hso]; exact upd_same) (fun z => by rw [hso] at z; cases z) (by simp))
      · rw [upd_ne (ne_of_none z fp)]
        exact g.f b u z
      · by_cases hb : b = p
        · subst hb
          rw [upd_same] at z ⊢
          exact z
        · rw [upd_ne hb] at z ⊢
          exact g.s b u z
      · by_cases hb : b = p
        · subst hb; exact np
        · rw [upd_ne hb] at z1
          exact g.n b z1 z2
      · by_cases hb : b = p
        · subst hb; exact .inl np
        · rw [upd_ne hb] at z
          exact g.w b ps z
      · by_cases hb : b = p
        · rw [hb, upd_same] at z; cases z
        · rw [upd_ne hb] at z
          exact g.v b ps z
end DL

/-! DMut: own lists and dicts changed. -/
namespace DL
open PySem L2 PyProof.Rows
variable [TN]
theorem gOL_out {o : Option Sl} {Q : List D → Prop} (h : gOL o Q) : ∃ xs, o = some (.o (.lst xs)) ∧ Q xs := by
  unfold gOL at h
  split at h
  · exact ⟨_, rfl, h⟩
  · exact h.elim
theorem gOD_out {o : Option Sl} {Q : List (DL.Key × D) → Prop} (h : gOD o Q) : ∃ xs, o = some (.o (.dk xs)) ∧ Q xs := by
  unfold gOD at h
  split at h
  · exact ⟨_, rfl, h⟩
  · exact h.elim
theorem gOL_in {o : Option Sl} {Q : List D → Prop} {xs : List D} (e : o = some (.o (.lst xs))) (h : Q xs) : gOL o Q := by rw [e]; exact h
theorem gOD_in {o : Option Sl} {Q : List (DL.Key × D) → Prop} {xs : List (DL.Key × D)} (e : o = some (.o (.dk xs))) (h : Q xs) : gOD o Q := by rw [e]; exact h
theorem gI_out {d : D} {Q : Int → Prop} (h : gI d Q) : ∃ k, d = .int k ∧ Q k := by
  cases d <;> first | exact ⟨_, rfl, h⟩ | exact h.elim
theorem gK_out {d : D} {Q : DL.Key → Prop} (h : gK d Q) : ∃ k, d = dKey k ∧ Q k := by
  cases d <;> first | exact ⟨.inl _, rfl, h⟩ | exact ⟨.inr _, rfl, h⟩ | exact h.elim
theorem gK_in {k : DL.Key} {Q : DL.Key → Prop} (h : Q k) : gK (dKey k) Q := by cases k <;> exact h
theorem gSm_out {α : Type} {o : Option α} {Q : α → Prop} (h : gSm o Q) : ∃ k, o = some k ∧ Q k := by
  cases o with
  | none => exact h.elim
  | some k => exact ⟨k, rfl, h⟩
theorem gSm_in {α : Type} {o : Option α} {Q : α → Prop} {k : α} (e : o = some k) (h : Q k) : gSm o Q := by rw [e]; exact h
section
variable {K : Fg} {cl : Cl} {W : WX} {F0 H0 F H F' H' : Hp} {σ : L2.St} {ρ : DL.Env}
theorem Reps.set {F : Hp} {v : V} {d : D} (h : Rep K cl F v d) : ∀ (n : Nat) {vs : List V} {ds : List D}, Reps K cl F vs ds → Reps K cl F (vs.set n v) (ds.set n d)
  | _, _, _, .nil => .nil
  | 0, _, _, .cons _ r => .cons h r
  | n + 1, _, _, .cons x r => .cons x (Reps.set h n r)
theorem Reps.erase {F : Hp} : ∀ (n : Nat) {vs : List V} {ds : List D}, Reps K cl F vs ds → Reps K cl F (vs.eraseIdx n) (ds.eraseIdx n)
  | _, _, _, .nil => .nil
  | 0, _, _, .cons _ r => r
  | n + 1, _, _, .cons x r => .cons x (Reps.erase n r)
theorem Reps.rev {F : Hp} {vs : List V} {ds : List D} (r : Reps K cl F vs ds) : Reps K cl F vs.reverse ds.reverse := by
  induction ds generalizing vs with
  | nil => cases r; exact .nil
  | cons d ds ih =>
    cases r with
    | cons h r =>
      rw [List.reverse_cons, List.reverse_cons]
      exact (ih r).append (.cons h .nil)
theorem Reps.dropLast {F : Hp} {vs : List V} {ds : List D} (r : Reps K cl F vs ds) : Reps K cl F vs.dropLast ds.dropLast := by
  rw [List.dropLast_eq_take, List.dropLast_eq_take, r.length]
  exact r.take _
/-- xs[i], read for += -/
def rGetL (K : Fg) : V → V → Hp → VK → Prop := fun x y H Q => ∃ p xs i v, x = .ref p ∧ y = .int i ∧ H p = some (.lst xs) ∧ L2.atI xs i = some v ∧ Q v H
/-- an own list's method over the heap -/
structure RfM (K : Fg) (cl : Cl) (r : V → List V → Hp → VK → Prop) (f : List D → List D → (List D → Prop) → Prop) : Prop where
  mono : ∀ xs ys (P P' : List D → Prop), (∀ d, P d → P' d) → f xs ys P → f xs ys P'
  ok : ∀ F H a vs us xs ys (Q : VK), Same F H → H a = some (.lst vs) → F a = none → Reps K cl F vs xs → Reps K cl F us ys → f xs ys (fun zs => ∀ ws, Reps K cl F ws zs → Q .non (upd H a (.lst ws))) → r (.ref a) us H Q
theorem rfs_lop {i : Nat} {r : V → List V → Hp → VK → Prop} {f : List D → List D → (List D → Prop) → Prop} {ta : TA} {t : DA} (m : RfM K cl r f) (ha : RfA K cl W ta t) : RfS K cl W (tDrop (tBM K "list" r (tVar i) ta)) (sLop f i t) where
  mono2 := fun E E' A B ρ hE l q => by
    obtain ⟨xs, e, q⟩ := gOL_out q
    exact gOL_in e (ha.mono2 E E' ρ _ _ hE (fun ys q => m.mono xs ys _ _ (fun zs q => l.nx _ q) q) q)
  ok := fun F0 H0 F H σ ρ E B A hh le ld q => by
    obtain ⟨xs, e, q⟩ := gOL_out q
    obtain ⟨a, ea, n0, nf, vs, ho, rr⟩ := hh.ownAt e
    refine ⟨.ref a, ea, .inl ⟨rfl, vs, SqL.of ho⟩, ?_⟩
    refine ha.ok F0 H0 F H σ ρ E _ hh le (ha.mono E ρ _ _ (fun ys q us F1 H1 g1 r1 => ?_) q)
    have e1 := g1.k.get ho
    refine m.ok F1 H1 a vs us xs ys _ g1.s e1 (g1.keepNone ho nf) (rr.mono g1.f) r1 (m.mono xs ys _ _ (fun zs q ws rw => ?_) q)
    exact ld.nx _ _ _ _ ((hh.grow g1).mut (d' := .lst zs) ea e ⟨ws, upd_same, rw⟩) q
theorem rfs_lop0 {i : Nat} {r : V → List V → Hp → VK → Prop} {f : List D → List D → (List D → Prop) → Prop} (m : RfM K cl r f) : RfS K cl W (tDrop (tBM0 K "list" r (tVar i))) (sLop f i aNil) where
  mono2 := (rfs_lop (W := W) (i := i) m rfa_nil).mono2
  ok := fun F0 H0 F H σ ρ E B A hh le ld q => (rfs_lop (W := W) (i := i) m rfa_nil).ok F0 H0 F H σ ρ E B A hh le ld q
theorem rfm_ext : RfM K cl rExtend lExt where
  mono := fun xs ys P P' h q => by
    match ys, q with
    | [.lst zs], q => exact ⟨q.1, h _ q.2⟩
  ok := fun F H a vs us xs ys Q s e f r1 r2 q => by
    match ys, q, r2 with
    | [.lst zs], q, .cons (.lst (a := b) (vs := ws) eb rb) .nil =>
      refine ⟨a, b, vs, ws, rfl, rfl, e, s _ _ eb, ?_, q.2 _ (r1.append rb)⟩
      rw [r1.length, rb.length, ← line_eq]
      exact q.1
theorem rfm_ins : RfM K cl (fun x vs H Q => ∃ (l : Addr) (xs : List V) (i : Int) (y : V), x = .ref l ∧ vs = [.int i, y] ∧ H l = some (.lst xs) ∧ xs.length < sizeLine ∧ 0 ≤ i ∧ i < 2 ^ 63 ∧ Q .non (upd H l (.lst (xs.take i.toNat ++ [y] ++ xs.drop i.toNat)))) lIns where
  mono := fun xs ys P P' h q => by
    match ys, q with
    | [.int k, y], q => exact ⟨q.1, h _ q.2⟩
  ok := fun F H a vs us xs ys Q s e f r1 r2 q => by
    match ys, q, r2 with
    | [.int k, y], q, .cons (.int _) (.cons ry .nil) =>
      refine ⟨a, vs, k, _, rfl, rfl, e, ?_, q.1.2.1, q.1.2.2, q.2 _ (((r1.take _).append (.cons ry .nil)).append (r1.drop _))⟩
      rw [r1.length, ← line_eq]
      exact q.1.1
theorem rfm_rev : RfM K cl rReverse lRev where
  mono := fun xs ys P P' h q => ⟨q.1, h _ q.2⟩
  ok := fun F H a vs us xs ys Q s e f r1 r2 q => by
    obtain ⟨rfl, q⟩ := q
    cases r2
    exact ⟨a, vs, rfl, rfl, e, q _ r1.rev⟩
theorem rfm_clr : RfM K cl rClear lClr where
  mono := fun xs ys P P' h q => ⟨q.1, h _ q.2⟩
  ok := fun F H a vs us xs ys Q s e f r1 r2 q => by
    obtain ⟨rfl, q⟩ := q
    cases r2
    exact ⟨a, vs, rfl, rfl, e, q _ .nil⟩
/-- pop by both readings -/
def rPopU : V → List V → Hp → VK → Prop := fun x vs H Q => rPop x vs H Q ∨ rPopAt x vs H Q
theorem lPop_mono {xs ys : List D} {P P' : D → List D → Prop} (h : ∀ d zs, P d zs → P' d zs) (q : lPop xs ys P) : lPop xs ys P' := by
  match ys, q with
  | [], q =>
    obtain ⟨y, e, q⟩ := gSm_out q
    exact gSm_in e (h _ _ q)
  | [.int k], q =>
    obtain ⟨hk, q⟩ := q
    obtain ⟨j, e, q⟩ := gSm_out q
    obtain ⟨y, e2, q⟩ := gSm_out q
    exact ⟨hk, gSm_in e (gSm_in e2 (h _ _ q))⟩
theorem pop_ok {F H : Hp} {a : Addr} {vs us : List V} {xs ys : List D} {Q : VK} (e : H a = some (.lst vs)) (r1 : Reps K cl F vs xs) (r2 : Reps K cl F us ys)
    (q : lPop xs ys fun y zs => ∀ v ws, Rep K cl F v y → Reps K cl F ws zs → Q v (upd H a (.lst ws))) : rPopU (.ref a) us H Q := by
  match ys, q, r2 with
  | [], q, .nil =>
    obtain ⟨y, e1, q⟩ := gSm_out q
    obtain ⟨v, e2, rv⟩ := r1.get e1
    exact .inl ⟨a, vs, v, rfl, rfl, e, by rw [r1.length]; exact e2, q v _ rv r1.dropLast⟩
  | [.int k], q, .cons (.int _) .nil =>
    obtain ⟨hk, q⟩ := q
    obtain ⟨j, e1, q⟩ := gSm_out q
    obtain ⟨y, e2, q⟩ := gSm_out q
    obtain ⟨v, e3, rv⟩ := r1.get e2
    have e1' : L2.ixN vs.length k = some j := by rw [r1.length]; exact e1
    exact .inr ⟨a, vs, k, j, v, rfl, rfl, e, hk.1, hk.2, (ixN_seq e1').1, e3, q v _ rv (r1.erase j)⟩
theorem mt_popU {X : Cx} : MtR X "list.pop" rPopU := MtR.or mt_pop mt_popAt
theorem rfs_pop {i : Nat} {ta : TA} {t : DA} (ha : RfA K cl W ta t) : RfS K cl W (tDrop (tBM K "list" rPopU (tVar i) ta)) (sPop i t) where
  mono2 := fun E E' A B ρ hE l q => by
    obtain ⟨xs, e, q⟩ := gOL_out q
    exact gOL_in e (ha.mono2 E E' ρ _ _ hE (fun ys q => lPop_mono (fun _ zs q => l.nx _ q) q) q)
  ok := fun F0 H0 F H σ ρ E B A hh le ld q => by
    obtain ⟨xs, e, q⟩ := gOL_out q
    obtain ⟨a, ea, n0, nf, vs, ho, rr⟩ := hh.ownAt e
    refine ⟨.ref a, ea, .inl ⟨rfl, vs, SqL.of ho⟩, ?_⟩
    refine ha.ok F0 H0 F H σ ρ E _ hh le (ha.mono E ρ _ _ (fun ys q us F1 H1 g1 r1 => ?_) q)
    have e1 := g1.k.get ho
    refine pop_ok e1 (rr.mono g1.f) r1 (lPop_mono (fun y zs q v ws rv rw => ?_) q)
    exact ld.nx _ _ _ _ ((hh.grow g1).mut (d' := .lst zs) ea e ⟨ws, upd_same, rw⟩) q
theorem rfs_pop0 {i : Nat} : RfS K cl W (tDrop (tBM0 K "list" rPopU (tVar i))) (sPop i aNil) where
  mono2 := (rfs_pop (K := K) (cl := cl) (W := W) (i := i) rfa_nil).mono2
  ok := fun F0 H0 F H σ ρ E B A hh le ld q => (rfs_pop (K := K) (cl := cl) (W := W) (i := i) rfa_nil).ok F0 H0 F H σ ρ E B A hh le ld q
theorem rfs_popTo {i j : Nat} {ta : TA} {t : DA} (ha : RfA K cl W ta t) : RfS K cl W (tAsg (tBM K "list" rPopU (tVar i) ta) (L2.gName j)) (sPopTo i j t) where
  mono2 := fun E E' A B ρ hE l q => by
    obtain ⟨xs, e, q⟩ := gOL_out q
    exact gOL_in e (ha.mono2 E E' ρ _ _ hE (fun ys q => lPop_mono (fun _ zs q => l.nx _ q) q) q)
  ok := fun F0 H0 F H σ ρ E B A hh le ld q => by
    obtain ⟨xs, e, q⟩ := gOL_out q
    obtain ⟨a, ea, n0, nf, vs, ho, rr⟩ := hh.ownAt e
    refine ⟨.ref a, ea, .inl ⟨rfl, vs, SqL.of ho⟩, ?_⟩
    refine ha.ok F0 H0 F H σ ρ E _ hh le (ha.mono E ρ _ _ (fun ys q us F1 H1 g1 r1 => ?_) q)
    have e1 := g1.k.get ho
    refine pop_ok e1 (rr.mono g1.f) r1 (lPop_mono (fun y zs q v ws rv rw => ?_) q)
    exact ld.nx _ _ _ _ (((hh.grow g1).mut (d' := .lst zs) ea e ⟨ws, upd_same, rw⟩).set rv) q
theorem rfs_popTo0 {i j : Nat} : RfS K cl W (tAsg (tBM0 K "list" rPopU (tVar i)) (L2.gName j)) (sPopTo i j aNil) where
  mono2 := (rfs_popTo (K := K) (cl := cl) (W := W) (i := i) (j := j) rfa_nil).mono2
  ok := fun F0 H0 F H σ ρ E B A hh le ld q => (rfs_popTo (K := K) (cl := cl) (W := W) (i := i) (j := j) rfa_nil).ok F0 H0 F H σ ρ E B A hh le ld q
theorem rfs_popApp {i : Nat} {ta : TA} {t : DA} (ha : RfA K cl W ta t) : RfS K cl W (tDrop (tBM K "list" rAppend (tVar i) (tCons (tBM K "list" rPopU (tVar i) ta) tNil))) (sPopApp i t) where
  mono2 := fun E E' A B ρ hE l q => by
    obtain ⟨xs, e, q⟩ := gOL_out q
    exact gOL_in e (ha.mono2 E E' ρ _ _ hE (fun ys q => lPop_mono (fun _ zs q => ⟨q.1, l.nx _ q.2⟩) q) q)
  ok := fun F0 H0 F H σ ρ E B A hh le ld q => by
    obtain ⟨xs, e, q⟩ := gOL_out q
    obtain ⟨a, ea, n0, nf, vs, ho, rr⟩ := hh.ownAt e
    refine ⟨.ref a, ea, .inl ⟨rfl, vs, SqL.of ho⟩, .ref a, ea, .inl ⟨rfl, vs, SqL.of ho⟩, ?_⟩
    refine ha.ok F0 H0 F H σ ρ E _ hh le (ha.mono E ρ _ _ (fun ys q us F1 H1 g1 r1 => ?_) q)
    have e1 := g1.k.get ho
    refine pop_ok e1 (rr.mono g1.f) r1 (lPop_mono (fun y zs q v ws rv rw => ?_) q)
    refine ⟨a, ws, v, rfl, rfl, upd_same, by rw [rw.length, ← line_eq]; exact q.1, ?_⟩
    have h1 := ((hh.grow g1).mut (d' := .lst (zs ++ [y])) (o := .lst (ws ++ [v])) ea e ⟨ws ++ [v], upd_same, rw.append (.cons rv .nil)⟩)
    rw [upd_upd]
    exact ld.nx _ _ _ _ h1 q.2
theorem rfs_setIx {i : Nat} {ta tb : TE} {p q : DT} (ha : RfE K cl W ta p) (hb : RfE K cl W tb q) : RfS K cl W (tAsg tb (gSub (tVar i) ta rSetL)) (sSetIx i p q) where
  mono2 := fun E E' A B ρ hE l q => by
    obtain ⟨xs, e, q⟩ := gOL_out q
    refine gOL_in e (hb.mono2 E E' ρ _ _ hE (fun y q => ha.mono2 E E' ρ _ _ hE (fun k q => ?_) q) q)
    obtain ⟨k, rfl, q⟩ := gI_out q
    obtain ⟨j, ej, q⟩ := gSm_out q
    exact gSm_in ej (l.nx _ q)
  ok := fun F0 H0 F H σ ρ E B A hh le ld q => by
    obtain ⟨xs, e, q⟩ := gOL_out q
    obtain ⟨a, ea, n0, nf, vs, ho, rr⟩ := hh.ownAt e
    refine hb.ok F0 H0 F H σ ρ E _ hh le (hb.mono E ρ _ _ (fun y q v F1 H1 g1 r1 => ?_) q)
    refine ⟨.ref a, ea, ?_⟩
    refine ha.ok F0 H0 F1 H1 σ ρ E _ (hh.grow g1) le (ha.mono E ρ _ _ (fun k q u F2 H2 g2 r2 => ?_) q)
    obtain ⟨k, rfl, q⟩ := gI_out q
    obtain ⟨j, ej, q⟩ := gSm_out q
    cases r2
    have g := g1.trans g2
    have ej' : L2.ixN vs.length k = some j := by rw [rr.length]; exact ej
    refine ⟨a, vs, k, j, rfl, rfl, g.k.get ho, ej', ?_⟩
    exact ld.nx _ _ _ _ ((hh.grow g).mut (d' := .lst (xs.set j y)) ea e ⟨vs.set j v, upd_same, Reps.set (r1.mono g2.f) j (rr.mono g.f)⟩) q
theorem rfs_augIx {i : Nat} {ta tb : TE} {p q : DT} (ha : RfE K cl W ta p) (hb : RfE K cl W tb q) {r : TIp} {f : D → D → DK → Prop} (o : RfIp K cl r f) : RfS K cl W (tAugS (tVar i) ta tb (rGetL K) r rSetL) (sAugIx f i p q) where
  mono2 := fun E E' A B ρ hE l q => by
    obtain ⟨xs, e, q⟩ := gOL_out q
    refine gOL_in e (ha.mono2 E E' ρ _ _ hE (fun k q => ?_) q)
    obtain ⟨k, rfl, q⟩ := gI_out q
    obtain ⟨j, ej, q⟩ := gSm_out q
    obtain ⟨x, ex, q⟩ := gSm_out q
    exact gSm_in ej (gSm_in ex (hb.mono2 E E' ρ _ _ hE (fun y q => o.mono x y _ _ (fun z q => l.nx _ q) q) q))
  ok := fun F0 H0 F H σ ρ E B A hh le ld q => by
    obtain ⟨xs, e, q⟩ := gOL_out q
    obtain ⟨a, ea, n0, nf, vs, ho, rr⟩ := hh.ownAt e
    refine ⟨.ref a, ea, ?_⟩
    refine ha.ok F0 H0 F H σ ρ E _ hh le (ha.mono E ρ _ _ (fun k q u F2 H2 g2 r2 => ?_) q)
    obtain ⟨k, rfl, q⟩ := gI_out q
    obtain ⟨j, ej, q⟩ := gSm_out q
    obtain ⟨x, ex, q⟩ := gSm_out q
    cases r2
    have ej' : L2.ixN vs.length k = some j := by rw [rr.length]; exact ej
    obtain ⟨v, ev, rv⟩ := rr.get ex
    refine ⟨a, vs, k, v, rfl, rfl, g2.k.get ho, by unfold L2.atI; rw [ej']; exact ev, ?_⟩
    refine hb.ok F0 H0 F2 H2 σ ρ E _ (hh.grow g2) le (hb.mono E ρ _ _ (fun y q w F3 H3 g3 r3 => ?_) q)
    refine o.ok F3 H3 v w x y _ g3.s ((rv.mono g2.f).mono g3.f) r3 (o.mono x y _ _ (fun z q v' F' H' g' r' => ?_) q)
    have g := (g2.trans g3).trans g'
    refine ⟨a, vs, k, j, rfl, rfl, g.k.get ho, ej', ?_⟩
    exact ld.nx _ _ _ _ ((hh.grow g).mut (d' := .lst (xs.set j z)) ea e ⟨vs.set j v', upd_same, Reps.set r' j (rr.mono g.f)⟩) q
/-! own dicts -/
theorem KReps.any {F : Hp} (k : DL.Key) : ∀ {ws : List (L2.Key × V)} {kvs : List (DL.Key × D)}, KReps K cl F ws kvs → (ws.any fun kv => decide (kv.1 = k)) = (kvs.any fun kv => decide (kv.1 = k))
  | _, _, .nil => rfl
  | _, _, .cons _ r => by rw [List.any_cons, List.any_cons, KReps.any k r]
theorem KReps.map {F : Hp} {v : V} {d : D} (k : DL.Key) (h : Rep K cl F v d) : ∀ {ws : List (L2.Key × V)} {kvs : List (DL.Key × D)}, KReps K cl F ws kvs → KReps K cl F (ws.map fun kv => if kv.1 = k then (kv.1, v) else kv) (kvs.map fun kv => if kv.1 = k then (kv.1, d) else kv)
  | _, _, .nil => .nil
  | _, _, .cons (k := j) h2 r => by
    rw [List.map_cons, List.map_cons]
    by_cases e : j = k
    · simp only [e, if_true]
      exact .cons h (KReps.map k h r)
    · simp only [e, if_false]
      exact .cons h2 (KReps.map k h r)
theorem KReps.app {F : Hp} : ∀ {ws us : List (L2.Key × V)} {kvs js : List (DL.Key × D)}, KReps K cl F ws kvs → KReps K cl F us js → KReps K cl F (ws ++ us) (kvs ++ js)
  | _, _, _, _, .nil, r => r
  | _, _, _, _, .cons h r, r2 => .cons h (r.app r2)
theorem KReps.put {F : Hp} {v : V} {d : D} (k : DL.Key) (h : Rep K cl F v d) {ws : List (L2.Key × V)} {kvs : List (DL.Key × D)} (r : KReps K cl F ws kvs) : KReps K cl F (putK ws k v) (putD kvs k d) := by
  unfold putK putD
  rw [r.any k]
  split
  · exact r.map k h
  · exact r.app (.cons h .nil)
theorem rep_key {F : Hp} {v : V} {k : DL.Key} (h : Rep K cl F v (dKey k)) : v = kV k := by
  cases k with
  | inl i => cases h; rfl
  | inr x => cases h; rfl
theorem rfn_newK : RfN K cl W tDNewK dNewK where
  mono2 := fun E E' ρ P P' hE h q => h _ q
  ok := fun F0 H0 F H σ ρ E Q hh le q p hp => q p F _ (Gr.h hh.g.s (nx_upd hp)) hp (hh.g.s.free hp) ⟨[], upd_same, .nil⟩
theorem small_line {n : Nat} (h : n < 1000000) : n < sizeLine := by rw [sizeLine_eq]; omega
theorem rfs_putK {i : Nat} {ta tb : TE} {p q : DT} (ha : RfE K cl W ta p) (hb : RfE K cl W tb q) : RfS K cl W (sDPut (tVar i) ta tb) (sPutK i p q) where
  mono2 := fun E E' A B ρ hE l q => by
    obtain ⟨xs, e, q⟩ := gOD_out q
    refine gOD_in e (hb.mono2 E E' ρ _ _ hE (fun y q => ha.mono2 E E' ρ _ _ hE (fun k q => ?_) q) q)
    obtain ⟨k, rfl, qk⟩ := gK_out q
    have q := qk
    exact gK_in ⟨q.1, l.nx _ q.2⟩
  ok := fun F0 H0 F H σ ρ E B A hh le ld q => by
    obtain ⟨xs, e, q⟩ := gOD_out q
    obtain ⟨a, ea, n0, nf, vs, ho, rr⟩ := hh.ownAt e
    refine hb.ok F0 H0 F H σ ρ E _ hh le (hb.mono E ρ _ _ (fun y q v F1 H1 g1 r1 => ?_) q)
    refine ⟨.ref a, ea, ?_⟩
    refine ha.ok F0 H0 F1 H1 σ ρ E _ (hh.grow g1) le (ha.mono E ρ _ _ (fun k q u F2 H2 g2 r2 => ?_) q)
    obtain ⟨k, rfl, qk⟩ := gK_out q
    have q := qk
    have g := g1.trans g2
    refine ⟨a, upd H2 a (.dK (putK vs k v)), rfl, ?_⟩
    rw [rep_key r2]
    refine ⟨DPut.k (g.k.get ho) (by rw [rr.length]; exact small_line q.1), ?_⟩
    exact ld.nx _ _ _ _ ((hh.grow g).mut (d' := .dk (putD xs k y)) ea e ⟨putK vs k v, upd_same, (rr.mono g.f).put k (r1.mono g2.f)⟩) q.2
theorem oGet_out {o : Option D} {Q : DK} (h : oGet o Q) : ∃ d, o = some d ∧ Q d := by
  cases o with
  | none => exact h.elim
  | some d => exact ⟨d, rfl, h⟩
theorem oGet_in {o : Option D} {Q : DK} {d : D} (e : o = some d) (h : Q d) : oGet o Q := by rw [e]; exact h
theorem rfe_ixK {i : Nat} {ta : TE} {p : DT} (ha : RfE K cl W ta p) : RfE K cl W (tDGet (tVar i) ta) (dIxK i p) where
  mono2 := fun E E' ρ P P' hE h q => by
    obtain ⟨xs, e, q⟩ := gOD_out q
    refine gOD_in e (ha.mono2 E E' ρ _ _ hE (fun k q => ?_) q)
    obtain ⟨k, rfl, qk⟩ := gK_out q
    have q := qk
    obtain ⟨d, ed, q⟩ := oGet_out q
    exact gK_in (oGet_in ed (h _ q))
  ok := fun F0 H0 F H σ ρ E Q hh le q => by
    obtain ⟨xs, e, q⟩ := gOD_out q
    obtain ⟨a, ea, n0, nf, vs, ho, rr⟩ := hh.ownAt e
    refine ⟨.ref a, ea, ?_⟩
    refine ha.ok F0 H0 F H σ ρ E _ hh le (ha.mono E ρ _ _ (fun k q u F2 H2 g2 r2 => ?_) q)
    obtain ⟨k, rfl, qk⟩ := gK_out q
    have q := qk
    obtain ⟨d, ed, q⟩ := oGet_out q
    rcases rr.look k with ⟨z, _⟩ | ⟨v, d', z1, z2, z3⟩
    · rw [z] at ed; cases ed
    · rw [ed] at z1
      cases z1
      refine ⟨a, v, rfl, ?_, q v F2 H2 g2 (z3.mono g2.f)⟩
      rw [rep_key r2, ← z2]
      exact DGet.k (g2.k.get ho)
theorem gDk_out {d : D} {Q : List (DL.Key × D) → Prop} (h : gDk d Q) : ∃ kvs, d = .dk kvs ∧ Q kvs := by
  cases d <;> first | exact ⟨_, rfl, h⟩ | exact h.elim
theorem rfe_getK1 {ta tb : TE} {p q : DT} (ha : RfE K cl W ta p) (hb : RfE K cl W tb q) : RfE K cl W (tDGet1 ta tb) (dGetK1 p q) where
  mono2 := fun E E' ρ P P' hE h q => ha.mono2 E E' ρ _ _ hE (fun x q => by
    obtain ⟨kvs, rfl, q⟩ := gDk_out q
    refine hb.mono2 E E' ρ _ _ hE (fun k q => ?_) q
    obtain ⟨k, rfl, qk⟩ := gK_out q
    have q := qk
    exact gK_in (h _ q)) q
  ok := fun F0 H0 F H σ ρ E Q hh le q => by
    refine ha.ok F0 H0 F H σ ρ E _ hh le (ha.mono E ρ _ _ (fun x q v F1 H1 g1 r1 => ?_) q)
    obtain ⟨kvs, rfl, q⟩ := gDk_out q
    cases r1 with
    | dk e1 rr =>
      refine ⟨_, rfl, .inl ⟨_, .inl (g1.s _ _ e1)⟩, ?_⟩
      refine hb.ok F0 H0 F1 H1 σ ρ E _ (hh.grow g1) le (hb.mono E ρ _ _ (fun k q u F2 H2 g2 r2 => ?_) q)
      obtain ⟨k, rfl, qk⟩ := gK_out q
      have q := qk
      rw [rep_key r2]
      refine ⟨_, DGet.k (g2.k.get (g1.s _ _ e1)), ?_⟩
      rcases rr.look k with ⟨z1, z2⟩ | ⟨v, d', z1, z2, z3⟩
      · rw [z1] at q
        rw [z2]
        exact q .non F2 H2 (g1.trans g2) .non
      · rw [z1] at q
        rw [z2]
        exact q v F2 H2 (g1.trans g2) (z3.mono g2.f)
theorem rfe_getK2 {ta tb tc : TE} {p q r : DT} (ha : RfE K cl W ta p) (hb : RfE K cl W tb q) (hc : RfE K cl W tc r) : RfE K cl W (tDGet2 ta tb tc) (dGetK2 p q r) where
  mono2 := fun E E' ρ P P' hE h q => ha.mono2 E E' ρ _ _ hE (fun x q => by
    obtain ⟨kvs, rfl, q⟩ := gDk_out q
    refine hb.mono2 E E' ρ _ _ hE (fun k q => hc.mono2 E E' ρ _ _ hE (fun z q => ?_) q) q
    obtain ⟨k, rfl, qk⟩ := gK_out q
    have q := qk
    exact gK_in (h _ q)) q
  ok := fun F0 H0 F H σ ρ E Q hh le q => by
    refine ha.ok F0 H0 F H σ ρ E _ hh le (ha.mono E ρ _ _ (fun x q v F1 H1 g1 r1 => ?_) q)
    obtain ⟨kvs, rfl, q⟩ := gDk_out q
    cases r1 with
    | dk e1 rr =>
      refine ⟨_, rfl, .inl ⟨_, .inl (g1.s _ _ e1)⟩, ?_⟩
      refine hb.ok F0 H0 F1 H1 σ ρ E _ (hh.grow g1) le (hb.mono E ρ _ _ (fun k q u F2 H2 g2 r2 => ?_) q)
      refine hc.ok F0 H0 F2 H2 σ ρ E _ ((hh.grow g1).grow g2) le (hc.mono E ρ _ _ (fun z q y F3 H3 g3 r3 => ?_) q)
      obtain ⟨k, rfl, qk⟩ := gK_out q
      have q := qk
      rw [rep_key r2]
      have g := (g1.trans g2).trans g3
      refine ⟨_, DGet.k (g3.k.get (g2.k.get (g1.s _ _ e1))), ?_⟩
      rcases rr.look k with ⟨z1, z2⟩ | ⟨v, d', z1, z2, z3⟩
      · rw [z1] at q
        rw [z2]
        exact q y F3 H3 g r3
      · rw [z1] at q
        rw [z2]
        exact q v F3 H3 g ((z3.mono g2.f).mono g3.f)
end
/-! ### the rules over syntax -/
section
variable {X : Cx} {K : Fg} {cl : Cl} {W : WX} {pos : Pos}
theorem get_L : PGet X (rGetL X.K) := by
  intro pins s σ H x y v u Q I rx ry h
  obtain ⟨p, xs, i, z, rfl, rfl, hq, he, q⟩ := h
  cases rx
  obtain ⟨t, rfl⟩ := ry
  obtain ⟨its, r, pl, hz⟩ := I.list (SqL.of hq)
  obtain ⟨j, h1, h2, h3, h4, h5⟩ := atI_get he
  obtain ⟨w, ew, rw'⟩ := r.get h2
  have hl := r.length
  have hn := line63
  have fin : EP X pins σ Q w s := ⟨z, H, I, rw', q⟩
  by_cases h0 : 0 ≤ i
  · have hj : i.toNat = j := by
      rw [seqIndex_of h0 h5] at h1
      exact Option.some.inj h1
    exact wpAny_getItem_list pl.isList h0 (by omega) (by rw [hj]; simpa using ew) fin
  · have hj : (i + (its.toArray.size : Int)).toNat = j := by
      rw [seqIndex_neg (by omega) h4] at h1
      rw [List.size_toArray, ← hl]
      exact Option.some.inj h1
    exact wpAny_getItem_list_neg pl.isList (by omega) (by rw [List.size_toArray] <;> omega) (by omega) (by rw [hj]; simpa using ew) fin
/-- the premises of a call of an own name's method -/
theorem vs_lop1 {i : Nat} {x : Str} {m : Str} {id : String} {r : V → List V → Hp → VK → Prop} {f : List D → List D → (List D → Prop) → Prop} {e : Expr} {es : List Expr} {te : TA} {t : DA} {p1 apos cpos : Pos} (slot : Slot "list" m id) (hty : typeOf (.builtin id) = pure (.type "method_descriptor")) (hm : MtR X id r) (o : RfM K cl r f) (he : VA X K cl W (e :: es) te t) (hN : X.N[i]? = some x := by rfl)
    (hv : Vis X.env.scope x := by first | exact Or.inl rfl | exact Or.inr (Or.inl rfl) | exact Or.inr (Or.inr rfl)) (hd : (x == ("__debug__" : Str)) = false := by decide)
    (hcd : (x == ("__classdict__" : Str)) = false := by decide) (hs1 : starEach (e :: es) X.env = (false, eval e X.env) :: starEach es X.env := by rfl)
    (hbase : attributeBase (.Name x p1) m X.env (eval (.Name x p1) X.env) = eval (.Name x p1) X.env := by rfl)
    (hfew : ((backTo cpos (starEach (e :: es) X.env)).all (fun x => !x.1) && (backToKw cpos (keywordEach [] X.env)).all (fun x => x.1.isSome)
      && decide ((e :: es).length + ([] : List Keyword).length + (if ([] : List Keyword).isEmpty then 0 else 1) < 30)) = true := by rfl)
    (hline : (apos.endLine == cpos.line) = true := by rfl) (hplain : (backTo cpos (starEach es X.env)).any (·.1) = false := by rfl)
    (hs : swapsWith (.Call (.Attribute (.Name x p1) m apos) (e :: es) [] cpos) none pos.line X.env = pure false := by rfl) :
    VS X K cl W (.Expr (.Call (.Attribute (.Name x p1) m apos) (e :: es) [] cpos) pos) (tDrop (tBM K "list" r (tVar i) te)) (sLop f i t) := by
  obtain rfl := he.hK
  exact ⟨ps_expr (pe_bm PySem.F.plainAttrs_list slot hty hm (pe_var hN hv hd hcd) he.pe hbase hfew hline hs1 hplain) hs, rfs_lop o he.rf, rfl⟩
theorem vs_lop0 {i : Nat} {x : Str} {p1 apos cpos : Pos} {m : Str} {id : String} {r : V → List V → Hp → VK → Prop} {f : List D → List D → (List D → Prop) → Prop} (slot : Slot "list" m id) (hty : typeOf (.builtin id) = pure (.type "method_descriptor")) (hm : MtR X id r) (o : RfM K cl r f) (hK : X.K = K := by rfl) (hN : X.N[i]? = some x := by rfl) (hv : Vis X.env.scope x := by first | exact Or.inl rfl | exact Or.inr (Or.inl rfl) | exact Or.inr (Or.inr rfl)) (hd : (x == ("__debug__" : Str)) = false := by decide)
    (hcd : (x == ("__classdict__" : Str)) = false := by decide)
    (hbase : attributeBase (.Name x p1) m X.env (eval (.Name x p1) X.env) = eval (.Name x p1) X.env := by rfl) (hline : (apos.endLine == cpos.line) = true := by rfl)
    (hs : swapsWith (.Call (.Attribute (.Name x p1) m apos) [] [] cpos) none pos.line X.env = pure false := by rfl) :
    VS X K cl W (.Expr (.Call (.Attribute (.Name x p1) m apos) [] [] cpos) pos) (tDrop (tBM0 K "list" r (tVar i))) (sLop f i aNil) := by
  obtain rfl := hK
  exact ⟨ps_expr (pe_bm0 PySem.F.plainAttrs_list slot hty hm (pe_var hN hv hd hcd) hbase hline) hs, rfs_lop0 o, rfl⟩
theorem vs_pop1 {i : Nat} {x : Str} {p1 apos cpos : Pos} {e : Expr} {es : List Expr} {te : TA} {t : DA} (he : VA X K cl W (e :: es) te t) (hN : X.N[i]? = some x := by rfl) (hv : Vis X.env.scope x := by first | exact Or.inl rfl | exact Or.inr (Or.inl rfl) | exact Or.inr (Or.inr rfl)) (hd : (x == ("__debug__" : Str)) = false := by decide)
    (hcd : (x == ("__classdict__" : Str)) = false := by decide) (hs1 : starEach (e :: es) X.env = (false, eval e X.env) :: starEach es X.env := by rfl)
    (hbase : attributeBase (.Name x p1) "pop" X.env (eval (.Name x p1) X.env) = eval (.Name x p1) X.env := by rfl)
    (hfew : ((backTo cpos (starEach (e :: es) X.env)).all (fun x => !x.1) && (backToKw cpos (keywordEach [] X.env)).all (fun x => x.1.isSome)
      && decide ((e :: es).length + ([] : List Keyword).length + (if ([] : List Keyword).isEmpty then 0 else 1) < 30)) = true := by rfl)
    (hline : (apos.endLine == cpos.line) = true := by rfl) (hplain : (backTo cpos (starEach es X.env)).any (·.1) = false := by rfl)
    (hs : swapsWith (.Call (.Attribute (.Name x p1) "pop" apos) (e :: es) [] cpos) none pos.line X.env = pure false := by rfl) : VS X K cl W (.Expr (.Call (.Attribute (.Name x p1) "pop" apos) (e :: es) [] cpos) pos) (tDrop (tBM K "list" rPopU (tVar i) te)) (sPop i t) := by
  obtain rfl := he.hK
  exact ⟨ps_expr (pe_bm PySem.F.plainAttrs_list PySem.F.slot_list_pop PySem.F.type_list_pop mt_popU (pe_var hN hv hd hcd) he.pe hbase hfew hline hs1 hplain) hs, rfs_pop he.rf, rfl⟩
theorem vs_pop0 {i : Nat} {x : Str} {p1 apos cpos : Pos} (hK : X.K = K := by rfl) (hN : X.N[i]? = some x := by rfl) (hv : Vis X.env.scope x := by first | exact Or.inl rfl | exact Or.inr (Or.inl rfl) | exact Or.inr (Or.inr rfl)) (hd : (x == ("__debug__" : Str)) = false := by decide)
    (hcd : (x == ("__classdict__" : Str)) = false := by decide) (hbase : attributeBase (.Name x p1) "pop" X.env (eval (.Name x p1) X.env) = eval (.Name x p1) X.env := by rfl)
    (hline : (apos.endLine == cpos.line) = true := by rfl)
    (hs : swapsWith (.Call (.Attribute (.Name x p1) "pop" apos) [] [] cpos) none pos.line X.env = pure false := by rfl) : VS X K cl W (.Expr (.Call (.Attribute (.Name x p1) "pop" apos) [] [] cpos) pos) (tDrop (tBM0 K "list" rPopU (tVar i))) (sPop i aNil) := by
  obtain rfl := hK
  exact ⟨ps_expr (pe_bm0 PySem.F.plainAttrs_list PySem.F.slot_list_pop PySem.F.type_list_pop mt_popU (pe_var hN hv hd hcd) hbase hline) hs, rfs_pop0, rfl⟩
theorem vs_popTo1 {i : Nat} {x : Str} {p1 apos cpos : Pos} {j : Nat} {y : Str} {p2 : Pos} {e : Expr} {es : List Expr} {te : TA} {t : DA} (hND : X.N.Nodup) (he : VA X K cl W (e :: es) te t) (hN : X.N[i]? = some x := by rfl) (hv : Vis X.env.scope x := by first | exact Or.inl rfl | exact Or.inr (Or.inl rfl) | exact Or.inr (Or.inr rfl)) (hd : (x == ("__debug__" : Str)) = false := by decide)
    (hcd : (x == ("__classdict__" : Str)) = false := by decide) (hs1 : starEach (e :: es) X.env = (false, eval e X.env) :: starEach es X.env := by rfl)
    (hbase : attributeBase (.Name x p1) "pop" X.env (eval (.Name x p1) X.env) = eval (.Name x p1) X.env := by rfl)
    (hfew : ((backTo cpos (starEach (e :: es) X.env)).all (fun x => !x.1) && (backToKw cpos (keywordEach [] X.env)).all (fun x => x.1.isSome)
      && decide ((e :: es).length + ([] : List Keyword).length + (if ([] : List Keyword).isEmpty then 0 else 1) < 30)) = true := by rfl)
    (hline : (apos.endLine == cpos.line) = true := by rfl) (hplain : (backTo cpos (starEach es X.env)).any (·.1) = false := by rfl) (hj : X.N[j]? = some y := by rfl) (hx : Loc X.env.scope y := by first | exact Or.inl rfl | exact Or.inr rfl) (hf : X.fn y = true ∨ X.env.scope.names.lookup y = some .local := by first | exact .inl rfl | exact .inr rfl | assumption)
    (hs : swapsWith (.Call (.Attribute (.Name x p1) "pop" apos) (e :: es) [] cpos) (some (.Name y p2)) pos.line X.env = pure false := by rfl) : VS X K cl W (.Assign [.Name y p2] (.Call (.Attribute (.Name x p1) "pop" apos) (e :: es) [] cpos) pos) (tAsg (tBM K "list" rPopU (tVar i) te) (L2.gName j)) (sPopTo i j t) := by
  obtain rfl := he.hK
  exact ⟨ps_set hND hj hx (pe_bm PySem.F.plainAttrs_list PySem.F.slot_list_pop PySem.F.type_list_pop mt_popU (pe_var hN hv hd hcd) he.pe hbase hfew hline hs1 hplain) hs hf, rfs_popTo he.rf, rfl⟩
theorem vs_popTo0 {i : Nat} {x : Str} {p1 apos cpos : Pos} {j : Nat} {y : Str} {p2 : Pos} (hND : X.N.Nodup) (hK : X.K = K := by rfl) (hN : X.N[i]? = some x := by rfl) (hv : Vis X.env.scope x := by first | exact Or.inl rfl | exact Or.inr (Or.inl rfl) | exact Or.inr (Or.inr rfl)) (hd : (x == ("__debug__" : Str)) = false := by decide)
    (hcd : (x == ("__classdict__" : Str)) = false := by decide) (hbase : attributeBase (.Name x p1) "pop" X.env (eval (.Name x p1) X.env) = eval (.Name x p1) X.env := by rfl)
    (hline : (apos.endLine == cpos.line) = true := by rfl) (hj : X.N[j]? = some y := by rfl) (hx : Loc X.env.scope y := by first | exact Or.inl rfl | exact Or.inr rfl) (hf : X.fn y = true ∨ X.env.scope.names.lookup y = some .local := by first | exact .inl rfl | exact .inr rfl | assumption)
    (hs : swapsWith (.Call (.Attribute (.Name x p1) "pop" apos) [] [] cpos) (some (.Name y p2)) pos.line X.env = pure false := by rfl) : VS X K cl W (.Assign [.Name y p2] (.Call (.Attribute (.Name x p1) "pop" apos) [] [] cpos) pos) (tAsg (tBM0 K "list" rPopU (tVar i)) (L2.gName j)) (sPopTo i j aNil) := by
  obtain rfl := hK
  exact ⟨ps_set hND hj hx (pe_bm0 PySem.F.plainAttrs_list PySem.F.slot_list_pop PySem.F.type_list_pop mt_popU (pe_var hN hv hd hcd) hbase hline) hs hf, rfs_popTo0, rfl⟩
theorem vs_popApp {i : Nat} {x : Str} {p1 apos cpos : Pos} {q1 qa qc : Pos} {e : Expr} {es : List Expr} {te : TA} {t : DA} (he : VA X K cl W (e :: es) te t) (hN : X.N[i]? = some x := by rfl) (hv : Vis X.env.scope x := by first | exact Or.inl rfl | exact Or.inr (Or.inl rfl) | exact Or.inr (Or.inr rfl)) (hd : (x == ("__debug__" : Str)) = false := by decide)
    (hcd : (x == ("__classdict__" : Str)) = false := by decide) (hs1 : starEach (e :: es) X.env = (false, eval e X.env) :: starEach es X.env := by rfl)
    (hbase : attributeBase (.Name x p1) "pop" X.env (eval (.Name x p1) X.env) = eval (.Name x p1) X.env := by rfl)
    (hfew : ((backTo cpos (starEach (e :: es) X.env)).all (fun x => !x.1) && (backToKw cpos (keywordEach [] X.env)).all (fun x => x.1.isSome)
      && decide ((e :: es).length + ([] : List Keyword).length + (if ([] : List Keyword).isEmpty then 0 else 1) < 30)) = true := by rfl)
    (hline : (apos.endLine == cpos.line) = true := by rfl) (hplain : (backTo cpos (starEach es X.env)).any (·.1) = false := by rfl)
    (hsA : starEach [(Expr.Call (.Attribute (.Name x p1) "pop" apos) (e :: es) [] cpos)] X.env = (false, eval (Expr.Call (.Attribute (.Name x p1) "pop" apos) (e :: es) [] cpos) X.env) :: starEach [] X.env := by rfl)
    (hbaseA : attributeBase (.Name x q1) "append" X.env (eval (.Name x q1) X.env) = eval (.Name x q1) X.env := by rfl)
    (hfewA : ((backTo qc (starEach [(Expr.Call (.Attribute (.Name x p1) "pop" apos) (e :: es) [] cpos)] X.env)).all (fun x => !x.1) && (backToKw qc (keywordEach [] X.env)).all (fun x => x.1.isSome)
      && decide ([(Expr.Call (.Attribute (.Name x p1) "pop" apos) (e :: es) [] cpos)].length + ([] : List Keyword).length + (if ([] : List Keyword).isEmpty then 0 else 1) < 30)) = true := by rfl)
    (hlineA : (qa.endLine == qc.line) = true := by rfl) (hplainA : (backTo qc (starEach [] X.env)).any (·.1) = false := by rfl)
    (hs : swapsWith (.Call (.Attribute (.Name x q1) "append" qa) [(Expr.Call (.Attribute (.Name x p1) "pop" apos) (e :: es) [] cpos)] [] qc) none pos.line X.env = pure false := by rfl) :
    VS X K cl W (.Expr (.Call (.Attribute (.Name x q1) "append" qa) [(Expr.Call (.Attribute (.Name x p1) "pop" apos) (e :: es) [] cpos)] [] qc) pos) (tDrop (tBM K "list" rAppend (tVar i) (tCons (tBM K "list" rPopU (tVar i) te) tNil))) (sPopApp i t) := by
  obtain rfl := he.hK
  exact ⟨ps_expr (pe_bm PySem.F.plainAttrs_list PySem.F.slot_list_append PySem.F.type_list_append mt_append (pe_var hN hv hd hcd) (pa_cons (pe_bm PySem.F.plainAttrs_list PySem.F.slot_list_pop PySem.F.type_list_pop mt_popU (pe_var hN hv hd hcd) he.pe hbase hfew hline hs1 hplain) pa_nil hsA) hbaseA hfewA hlineA hsA hplainA) hs, rfs_popApp he.rf, rfl⟩
theorem vs_setIx {i : Nat} {x : Str} {p1 p2 : Pos} {a b : Expr} {ta tb : TE} {p q : DT} (ha : VE X K cl W a ta p) (hb : VE X K cl W b tb q) (hN : X.N[i]? = some x := by rfl) (hv : Vis X.env.scope x := by first | exact Or.inl rfl | exact Or.inr (Or.inl rfl) | exact Or.inr (Or.inr rfl)) (hd : (x == ("__debug__" : Str)) = false := by decide)
    (hcd : (x == ("__classdict__" : Str)) = false := by decide)
    (hs : swapsWithSole [.Subscript (.Name x p1) a p2] b pos.line X.env = pure false := by rfl) (hw : swappedStores [.Subscript (.Name x p1) a p2] b X.env = pure none := by rfl)
    (h1 : (assignEach [.Subscript (.Name x p1) a p2] X.env).map (·.2) = [assign (.Subscript (.Name x p1) a p2) X.env] := by rfl)
    (h2 : ∀ v, assign (.Subscript (.Name x p1) a p2) X.env v = (do
      let ov ← holding [v] (eval (.Name x p1) X.env)
      let iv ← holding [v, ov] (eval a X.env)
      standAt p2
      holding [v, ov, iv] (setItem ov iv v)
      release [v, ov, iv] []) := by intro _; rfl) :
    VS X K cl W (.Assign [.Subscript (.Name x p1) a p2] b pos) (tAsg tb (gSub (tVar i) ta rSetL)) (sSetIx i p q) := by
  obtain rfl := ha.hK
  exact ⟨ps_asg hb.pe (pg_sub (pe_var hN hv hd hcd) ha.pe set_list h2) hs hw h1, rfs_setIx ha.rf hb.rf, rfl⟩
theorem vs_augIxAdd {i : Nat} {x : Str} {p1 p2 : Pos} {a b : Expr} {ta tb : TE} {p q : DT} (ha : VE X K cl W a ta p) (hb : VE X K cl W b tb q) (hN : X.N[i]? = some x := by rfl) (hv : Vis X.env.scope x := by first | exact Or.inl rfl | exact Or.inr (Or.inl rfl) | exact Or.inr (Or.inr rfl)) (hd : (x == ("__debug__" : Str)) = false := by decide)
    (hcd : (x == ("__classdict__" : Str)) = false := by decide)
    (h2 : ∀ ov iv new, augStore a ov iv new = (do holding [new, ov, iv] (setItem ov iv new); release [new, ov, iv] []; pure .next) := by intros; rfl) :
    VS X K cl W (.AugAssign (.Subscript (.Name x p1) a p2) .Add b pos) (tAugS (tVar i) ta tb (rGetL K) (ipI fun i j => i + j) rSetL) (sAugIx oAddI i p q) := by
  obtain rfl := ha.hK
  exact ⟨ps_augS (pe_var hN hv hd hcd) ha.pe get_L hb.pe ip_add set_list h2, rfs_augIx ha.rf hb.rf (rf_ipI (fun _ _ _ => rfl) fun x y Q q => by cases x <;> cases y <;> first | exact ⟨_, _, rfl, rfl⟩ | exact q.elim), rfl⟩
theorem vs_augIxSub {i : Nat} {x : Str} {p1 p2 : Pos} {a b : Expr} {ta tb : TE} {p q : DT} (ha : VE X K cl W a ta p) (hb : VE X K cl W b tb q) (hN : X.N[i]? = some x := by rfl) (hv : Vis X.env.scope x := by first | exact Or.inl rfl | exact Or.inr (Or.inl rfl) | exact Or.inr (Or.inr rfl)) (hd : (x == ("__debug__" : Str)) = false := by decide)
    (hcd : (x == ("__classdict__" : Str)) = false := by decide)
    (h2 : ∀ ov iv new, augStore a ov iv new = (do holding [new, ov, iv] (setItem ov iv new); release [new, ov, iv] []; pure .next) := by intros; rfl) :
    VS X K cl W (.AugAssign (.Subscript (.Name x p1) a p2) .Sub b pos) (tAugS (tVar i) ta tb (rGetL K) (ipI fun i j => i - j) rSetL) (sAugIx oSub i p q) := by
  obtain rfl := ha.hK
  exact ⟨ps_augS (pe_var hN hv hd hcd) ha.pe get_L hb.pe ip_sub set_list h2, rfs_augIx ha.rf hb.rf (rf_ipI (fun _ _ _ => rfl) fun x y Q q => by cases x <;> cases y <;> first | exact ⟨_, _, rfl, rfl⟩ | exact q.elim), rfl⟩
theorem vn_newK (hK : X.K = K := by rfl) : VN X K cl W (.Dict [] [] pos) tDNewK dNewK := by
  obtain rfl := hK
  exact ⟨pe_dnewK, rfn_newK, rfl⟩
theorem vs_putK {i : Nat} {x : Str} {p1 p2 : Pos} {a b : Expr} {ta tb : TE} {p q : DT} (hu : X.A.units + 65 < cLine) (ha : VE X K cl W a ta p) (hb : VE X K cl W b tb q) (hN : X.N[i]? = some x := by rfl) (hv : Vis X.env.scope x := by first | exact Or.inl rfl | exact Or.inr (Or.inl rfl) | exact Or.inr (Or.inr rfl)) (hd : (x == ("__debug__" : Str)) = false := by decide)
    (hcd : (x == ("__classdict__" : Str)) = false := by decide)
    (hs : swapsWith b (some (.Subscript (.Name x p1) a p2)) pos.line X.env = pure false := by rfl) :
    VS X K cl W (.Assign [.Subscript (.Name x p1) a p2] b pos) (sDPut (tVar i) ta tb) (sPutK i p q) := by
  obtain rfl := ha.hK
  exact ⟨ps_dput (by omega) (pe_var hN hv hd hcd) ha.pe hb.pe hs, rfs_putK ha.rf hb.rf, rfl⟩
theorem ve_ixK {i : Nat} {x : Str} {p1 : Pos} {b : Expr} {tb : TE} {q : DT} (hu : X.A.units + 65 < cLine) (hb : VE X K cl W b tb q) (hs : NoSl b := by exact fun _ _ => rfl) (hN : X.N[i]? = some x := by rfl) (hv : Vis X.env.scope x := by first | exact Or.inl rfl | exact Or.inr (Or.inl rfl) | exact Or.inr (Or.inr rfl)) (hd : (x == ("__debug__" : Str)) = false := by decide)
    (hcd : (x == ("__classdict__" : Str)) = false := by decide) :
    VE X K cl W (.Subscript (.Name x p1) b pos) (tDGet (tVar i) tb) (dIxK i q) := by
  obtain rfl := hb.hK
  exact ⟨pe_dget (by omega) (pe_var hN hv hd hcd) hb.pe hs, rfe_ixK hb.rf, rfl⟩
theorem ve_getK1 {apos : Pos} {a b : Expr} {ta tb : TE} {p q : DT} (hu : X.A.units + 65 < cLine) (ha : VE X K cl W a ta p) (hb : VE X K cl W b tb q) (m : M1 X a "get" apos b pos := by exact ⟨rfl, rfl, rfl, rfl⟩) :
    VE X K cl W (.Call (.Attribute a "get" apos) [b] [] pos) (tDGet1 ta tb) (dGetK1 p q) := by
  obtain rfl := ha.hK
  exact ⟨pe_dget1 (by omega) ha.pe hb.pe m, rfe_getK1 ha.rf hb.rf, rfl⟩
theorem ve_getK2 {apos : Pos} {a b c : Expr} {ta tb tc : TE} {p q r : DT} (hu : X.A.units + 65 < cLine) (ha : VE X K cl W a ta p) (hb : VE X K cl W b tb q) (hc : VE X K cl W c tc r) (m : M2 X a "get" apos b c pos := by exact ⟨rfl, rfl, rfl, rfl⟩) :
    VE X K cl W (.Call (.Attribute a "get" apos) [b, c] [] pos) (tDGet2 ta tb tc) (dGetK2 p q r) := by
  obtain rfl := ha.hK
  exact ⟨pe_dget2 (by omega) ha.pe hb.pe hc.pe m, rfe_getK2 ha.rf hb.rf hc.rf, rfl⟩
/-! dict displays -/
structure PReps (K : Fg) (cl : Cl) (F : Hp) (ps : List (V × V)) (ds : List (D × D)) : Prop where
  a : Reps K cl F (ps.map (·.1)) (ds.map (·.1))
  b : Reps K cl F (ps.map (·.2)) (ds.map (·.2))
structure RfP (K : Fg) (cl : Cl) (W : WX) (trs : List (TE × TE)) (t : DPs) : Prop where
  mono2 : ∀ E E' ρ (P P' : List (D × D) → Prop), (∀ e ρ, E e ρ → E' e ρ) → (∀ d, P d → P' d) → t E ρ P → t E' ρ P'
  ok : ∀ F0 H0 F H σ ρ E (Q : List (V × V) → Hp → Prop), Hold K cl F0 H0 F H σ ρ → LinkE K cl F0 H0 W E → t E ρ (fun ds => ∀ ps F' H', Gr F H F' H' → PReps K cl F' ps ds → Q ps H') → tPairs trs σ H Q
theorem RfP.mono {trs : List (TE × TE)} {t : DPs} (h : RfP K cl W trs t) (E : EK) (ρ : DL.Env) (P P' : List (D × D) → Prop) (f : ∀ d, P d → P' d) (q : t E ρ P) : t E ρ P' := h.mono2 E E ρ P P' (fun _ _ z => z) f q
theorem rfp_nil : RfP K cl W [] pNil where
  mono2 := fun E E' ρ P P' hE h q => h _ q
  ok := fun F0 H0 F H σ ρ E Q hh _ q => q [] F H (Gr.refl hh.g.s) ⟨.nil, .nil⟩
theorem rfp_cons {ta tb : TE} {a b : DT} {trs : List (TE × TE)} {r : DPs} (ha : RfE K cl W ta a) (hb : RfE K cl W tb b) (hr : RfP K cl W trs r) : RfP K cl W ((ta, tb) :: trs) (pCons a b r) where
  mono2 := fun E E' ρ P P' hE h q => ha.mono2 E E' ρ _ _ hE (fun x q => hb.mono2 E E' ρ _ _ hE (fun y q => hr.mono2 E E' ρ _ _ hE (fun ps q => h _ q) q) q) q
  ok := fun F0 H0 F H σ ρ E Q hh le q => by
    refine ha.ok F0 H0 F H σ ρ E _ hh le (ha.mono E ρ _ _ (fun x q v F1 H1 g1 r1 => ?_) q)
    refine hb.ok F0 H0 F1 H1 σ ρ E _ (hh.grow g1) le (hb.mono E ρ _ _ (fun y q u F2 H2 g2 r2 => ?_) q)
    refine hr.ok F0 H0 F2 H2 σ ρ E _ ((hh.grow g1).grow g2) le (hr.mono E ρ _ _ (fun ps q us F3 H3 g3 r3 => ?_) q)
    exact q _ F3 H3 ((g1.trans g2).trans g3) ⟨.cons ((r1.mono g2.f).mono g3.f) r3.a, .cons (r2.mono g3.f) r3.b⟩
theorem preps_keys {F : Hp} : ∀ {ds : List (D × D)} {ps : List (V × V)} {kvs : List (DL.Key × D)}, PReps K cl F ps ds → keyV ds = some kvs → ∃ ws : List (L2.Key × V), ps = ws.map (fun kv => (kV kv.1, kv.2)) ∧ KReps K cl F ws kvs
  | [], [], kvs, _, e => by
    cases e
    exact ⟨[], rfl, .nil⟩
  | [], _ :: _, kvs, r, e => by cases r.a
  | (k, d) :: ds, [], kvs, r, e => by cases r.a
  | (k, d) :: ds, (u, v) :: ps, kvs, ⟨.cons ra rra, .cons rb rrb⟩, e => by
    unfold keyV at e
    cases ek : keyOf k with
    | none => rw [ek] at e; cases e
    | some j =>
      cases er : keyV ds with
      | none => rw [ek, er] at e; cases e
      | some js =>
        rw [ek, er] at e
        cases e
        obtain ⟨ws, e1, r1⟩ := preps_keys ⟨rra, rrb⟩ er
        have hk : k = dKey j := by
          cases k <;> first | (cases ek; rfl) | cases ek
        rw [hk] at ra
        have eu : u = kV j := rep_key ra
        exact ⟨(j, v) :: ws, by rw [List.map_cons, ← e1, eu], .cons rb r1⟩
theorem KReps.merges {F : Hp} : ∀ {ws : List (L2.Key × V)} {kvs : List (DL.Key × D)} {us : List (L2.Key × V)} {js : List (DL.Key × D)}, KReps K cl F ws kvs → KReps K cl F us js → KReps K cl F (mergeK us ws) (kvs.foldl (fun acc p => putD acc p.1 p.2) js)
  | _, _, _, _, .nil, r0 => r0
  | _, _, _, _, .cons (k := k) h r1, r2 => by
    have z := KReps.merges r1 (r2.put k h)
    exact z
theorem rfn_disp {trs : List (TE × TE)} {t : DPs} (h : RfP K cl W trs t) : RfN K cl W (tDisp trs) (dDisp t) where
  mono2 := fun E E' ρ P P' hE hh q => h.mono2 E E' ρ _ _ hE (fun ps q => by
    obtain ⟨kvs, e, q⟩ := gSm_out q
    exact gSm_in e ⟨q.1, hh _ q.2⟩) q
  ok := fun F0 H0 F H σ ρ E Q hh le q p hp => by
    have g0 : Gr F H F (upd H p (.dK [])) := Gr.h hh.g.s (nx_upd hp)
    refine h.ok F0 H0 F _ σ ρ E _ (hh.grow g0) le (h.mono E ρ _ _ (fun ds q ps F1 H1 g1 r1 => ?_) q)
    obtain ⟨kvs, e, q⟩ := gSm_out q
    obtain ⟨ws, rfl, rk⟩ := preps_keys r1 e
    have e1 : H1 p = some (.dK []) := g1.k.get upd_same
    have fp : F1 p = none := g1.keepNone upd_same (hh.g.s.free hp)
    refine ⟨e1, ws, rfl, ?_, ?_⟩
    · have := r1.a.length
      simp only [List.length_map] at this
      omega
    · refine q.2 p F1 _ ⟨g1.f, ((nx_upd hp).kp.trans g1.k).put hp (.at e1), fun b o z => ?_, fun b x y => ?_, fun b ps x => ?_, fun b ps x => g1.v b ps x⟩ hp fp ⟨_, upd_same, KReps.merges rk .nil⟩
      · have hb : b ≠ p := ne_of_none z fp
        rw [upd_ne hb]
        exact g1.s _ _ z
      · have := g1.n b x y
        by_cases hb : b = p
        · subst hb; exact hp
        · rwa [upd_ne hb] at this
      · have hb : b ≠ p := ne_of_none x fp
        have := g1.w b ps x
        rwa [upd_ne hb] at this
structure VPr (X : Cx) (K : Fg) (cl : Cl) (W : WX) (pos : Pos) (ks : List (Option Expr)) (vs : List Expr) (trs : List (TE × TE)) (t : DPs) : Prop where
  pe : PPs X pos ks vs trs
  rf : RfP K cl W trs t
  hK : X.K = K
theorem vpr_nil (hK : X.K = K := by rfl) : VPr X K cl W pos [] [] [] pNil := by
  obtain rfl := hK
  exact ⟨pps_nil, rfp_nil, rfl⟩
theorem vpr_cons {k v : Expr} {ks : List (Option Expr)} {vs : List Expr} {ta tb : TE} {a b : DT} {trs : List (TE × TE)} {r : DPs} (ha : VE X K cl W k ta a) (hb : VE X K cl W v tb b) (hr : VPr X K cl W pos ks vs trs r) : VPr X K cl W pos (some k :: ks) (v :: vs) ((ta, tb) :: trs) (pCons a b r) := by
  obtain rfl := ha.hK
  exact ⟨pps_cons ha.pe hb.pe hr.pe, rfp_cons ha.rf hb.rf hr.rf, rfl⟩
theorem vn_disp {ks : List (Option Expr)} {vs : List Expr} {trs : List (TE × TE)} {t : DPs} (h : VPr X K cl W pos ks vs trs t) (hall : ks.all (·.isSome) = true := by rfl) (hl : ks.length = vs.length := by rfl) (h0 : ks ≠ [] := by simp) (h15 : ks.length ≤ 15 := by decide) : VN X K cl W (.Dict ks vs pos) (tDisp trs) (dDisp t) := by
  obtain rfl := h.hK
  exact ⟨pe_disp h.pe hall hl h0 h15, rfn_disp h.rf, rfl⟩
end
end DL

set_option maxHeartbeats 2000000
/-! DExc: an own error class over ValueError whose __init__ says super().__init__(..) and keeps its arguments. -/
namespace DL
open PySem L2 PyProof.Rows
variable [TN]
/-- the scope of such an __init__: parameters, the class's cell, globals -/
structure IScope (ps : List Str) (sc : Scope) : Prop where
  kind : sc.kind = .function
  co : sc.isCoroutine = false
  gen : sc.isGenerator = false
  nd : ps.Nodup
  par : ∀ x ∈ ps, sc.names.lookup x = some .local
  nocell : ∀ x ∈ sc.names, x.2 ≠ .cell
  fr : ∀ x ∈ sc.names, x.2 = .free → x.1 = ("__class__" : Str)
  cls : sc.names.lookup ("__class__" : Str) = some .free
  sup : sc.names.lookup ("super" : Str) = some .globalImplicit
theorem upd_own {H : Hp} {a : Addr} {o : HO} (h : H a = some o) : upd H a o = H := by
  funext p
  by_cases e : p = a
  · rw [e, upd_same, h]
  · rw [upd_ne e]
/-- the context of its body -/
def cxI (P : Program) (w : World) (K : Fg) (mg : Str → Option Value) (base : Heap) (N : List Str) (qual : Str) (scope : Scope) (f : Addr) (cd : Value) (cc : Addr) (A : Around) (outer : List PySem.Env) (s : Shared) (H : Hp) (E : XK) : Cx where
  prog := P
  w := w
  K := K
  mg := mg
  base := base
  A := A.deeper (PySem.W.ksEnv qual scope s.heap.objs.size f cd cc)
  N := N
  s_0 := s
  H_0 := H
  env := PySem.W.ksEnv qual scope s.heap.objs.size f cd cc
  outer := outer
  stack := PySem.W.ksEnv qual scope s.heap.objs.size f cd cc :: outer
  ex := []
  calm := true
  fn := fun _ => false
  pn := []
  xe := fun e s' => wpAny (model P w) (A.deeper (PySem.W.ksEnv qual scope s.heap.objs.size f cd cc)) (leaving (PySem.W.ksEnv qual scope s.heap.objs.size f cd cc) e) (fun _ s'' => L2.CX P w outer H s E e s'') (fun e' s'' => L2.CX P w outer H s E e' s'') s'
theorem rev_look : ∀ {ps : List Str} {us : List Value} {i : Nat} {y : Str} {u : Value}, ps.Nodup → ps[i]? = some y → us[i]? = some u → (ps.zip us).reverse.lookup y = some u := by
  intro ps us i y u nd h1 h2
  have key : ∀ (l : List (Str × Value)), (l.map (·.1)).Nodup → (y, u) ∈ l → l.lookup y = some u := by
    intro l
    induction l with
    | nil => intro _ h; cases h
    | cons p r ih =>
      intro nd h
      obtain ⟨a, b⟩ := p
      simp only [List.map_cons, List.nodup_cons] at nd
      rw [List.lookup_cons]
      by_cases e : y = a
      · subst e
        have : b = u := by
          rcases List.mem_cons.mp h with z | z
          · cases z; rfl
          · exact absurd (List.mem_map_of_mem (f := (·.1)) z) nd.1
        simp [this]
      · have z : (y == a) = false := by simpa using e
        rw [z]
        rcases List.mem_cons.mp h with z | z
        · cases z; exact absurd rfl e
        · exact ih nd.2 z
  have sub : ∀ (ps : List Str) (us : List Value), ps.Nodup → ((ps.zip us).map (·.1)).Nodup := by
    intro ps
    induction ps with
    | nil => intro us _; simp
    | cons p r ih =>
      intro us nd
      cases us with
      | nil => simp
      | cons u us =>
        simp only [List.zip_cons_cons, List.map_cons, List.nodup_cons] at nd ⊢
        refine ⟨fun z => nd.1 ?_, ih us nd.2⟩
        obtain ⟨q, hq, e⟩ := List.mem_map.mp z
        rw [← e]
        exact (List.of_mem_zip hq).1
  apply key
  · rw [List.map_reverse]
    exact List.pairwise_reverse.mpr ((sub ps us nd).imp fun h z => h z.symm)
  · rw [List.mem_reverse, List.mem_iff_getElem?]
    exact ⟨i, List.getElem?_zip_eq_some.mpr ⟨h1, h2⟩⟩
section
variable {P : Program} {w : World} {K : Fg} {mg : Str → Option Value} {base : Heap} {ps : List Str} {qual : Str} {sc : Scope} {f cc C : Addr} {cd : Value} {A : Around} {outer : List PySem.Env} {s : Shared} {H : Hp} {E : XK}
/-- at its start -/
theorem inv_init {us : List Value} {vs : List V} {h1 : Heap} {tk : Nat} {cl : Value} {cld : Option Addr} {csl : Array (Option Value)} (S : IScope ps sc) (hd : A.handled = none) (e0 : Env0 P w K mg base A outer s H) (hl : vs.length = ps.length) (r : Vals vs us)
    (hcell : K.lookup cc = some ⟨cl, cld, .cell (some (.ref C)), csl⟩) (hns : h1.Ns s.heap.objs.size fun y => (ps.zip us).reverse.lookup y) (hk : ∀ b o, s.heap.get? b = some o → h1.get? b = some o) :
    Inv (cxI P w K mg base ps qual sc f cd cc A outer s H E) [] (vs.map some) H { s with heap := h1, toks := tk } := by
  have hc := e0.mod.kin _ _ hcell
  have hc1 := e0.bs _ _ hc
  have noA : ∀ b : Addr, b ∉ (cxI P w K mg base ps qual sc f cd cc A outer s H E).ex := fun b z => absurd (show b ∈ ([] : List Addr) from z) (by simp)
  have one : ∀ x c, (cxI P w K mg base ps qual sc f cd cc A outer s H E).env.cells.lookup x = some c → x = ("__class__" : Str) ∧ c = cc := fun x c z => by
    have z' : ([(("__class__" : Str), cc)] : List (Str × Addr)).lookup x = some c := z
    rw [List.lookup_cons] at z'
    cases e : x == ("__class__" : Str) with
    | true =>
      rw [e] at z'
      exact ⟨by simpa using e, (Option.some.inj z').symm⟩
    | false => rw [e] at z'; cases z'
  refine ⟨⟨e0.mod, S.kind, rfl, rfl, Nat.le_refl _, fun y z c h1 h2 => (one _ _ h1).1.trans (one _ _ h2).1.symm, fun y hy => ?_, fun y c h _ => Bool.noConfusion h, fun _ => hd, Around.frames_deeper e0.frames, .inr ⟨rfl, rfl⟩, fun b z => absurd z (noA b), e0.bs, e0.bsz, fun b _ _ => noA b, fun b z => absurd z (noA b), e0.funs, e0.frf⟩,
    rfl, e0.bare, Un.kept hk, ⟨_, hns, fun i y v h1 h2 h3 => ?_⟩, fun y c h => ?_, e0.hok.fresh (Nat.le_refl _), fun y c h => ?_, fun p hp => absurd (show p ∈ ([] : List (Addr × Obj)) from hp) (by simp), e0.hok.kept hk, ?_⟩
  · have hy : sc.names.lookup y = some .cell ∨ sc.names.lookup y = some .free := hy
    rcases hy with hy | hy
    · exact absurd rfl (S.nocell _ (PySem.mem_of_lookup hy))
    · have e := S.fr _ (PySem.mem_of_lookup hy) rfl
      subst e
      exact ⟨cc, rfl⟩
  · rw [List.getElem?_map] at h2
    cases e : vs[i]? with
    | none => rw [e] at h2; cases h2
    | some a =>
      rw [e] at h2
      cases h2
      obtain ⟨u, hu, rv⟩ := r.get e
      exact ⟨u, rv, .inl ⟨S.par y (List.mem_of_getElem? h1), rev_look S.nd h1 hu⟩⟩
  · obtain ⟨rfl, rfl⟩ := one _ _ h
    exact ⟨_, _, hk _ _ hc1.1, rfl⟩
  · obtain ⟨rfl, rfl⟩ := one _ _ h
    exact hc1.2
  · show (vs.map some).length = ps.length
    rw [List.length_map, hl]
/-- what the written part says of such a class and its __init__ -/
structure ErrC (P : Program) (K : Fg) (C cc cda f : Addr) (fd : FuncData) : Prop where
  oex : OexC K C
  file : ∃ cl od vs sl fi tf, K.lookup cda = some ⟨cl, od, .fields vs, sl⟩ ∧ vs[2]? = some (.str fi tf) ∧ (P.main.file == fi) = true
  fn : ∃ oc od osl, K.lookup f = some ⟨oc, od, .func fd, osl⟩
  cell : ∃ cl od sl, K.lookup cc = some ⟨cl, od, .cell (some (.ref C)), sl⟩
  top : (P.main.scope.names.lookup ("super" : Str)).isSome = false
  opq : PySem.W.nsIn K cStatics "thirdparty.any" = some none
  sup : PySem.W.ks_superIn K C C "__init__" = some (some (.builtin "ValueError.__init__"))
  sub : PySem.W.subIn K (.ref C) (.type "ValueError") = some true
  mro : PySem.W.mroIn K C (.ref C) = some true
/-- the call of the wrapper that super().__init__ is -/
theorem call_mw {X : Cx} {pins : List (Addr × Obj)} {σ : L2.St} {u a : Addr} {us : List Value} {Q : Value → Shared → Prop} (T : OexC X.K C) (I : Inv X pins σ H s) (e : H a = some (exo a C none)) (hu : s.heap.get? u = some (PySem.W.kxs_mw "ValueError.__init__" a)) (hl : us.length ≤ sizeLine)
    (h : ∀ s', Inv X pins σ H s' → Q .none s') : wpAny (model X.prog X.w) X.A (call (.ref u) us) Q X.xe s := by
  obtain ⟨nm, qn, N, bs, bm, sn, sub, ab, col, dd, k0, k1, k2, k3, k5, hC, hbm⟩ := T.cls
  obtain ⟨t1, ho⟩ := exo_at I.hok e
  have hC' := I.kIn _ _ hC
  obtain ⟨hp, g, d, tk, os⟩ := s
  refine wpAny_call (codeAny_of_tree ?_)
  show wpAny _ X.A.in1 (callAny (.ref u) { pos := us, kw := [] }) _ _ _
  simp only [callAny]
  refine wpAny_bind (wpAny_load hu ?_)
  simp only [PySem.W.kxs_mw, show (Value.type "method-wrapper" == Value.type "method" || Value.type "method-wrapper" == Value.type "builtin_function_or_method" || Value.type "method-wrapper" == Value.type "method-wrapper") = true by decide, if_true]
  refine PySem.W.KFB.if_so (by decide) ?_
  refine wpAny_bind (PySem.W.check_bound_init F.excBase_ValueError.toExcCallFacts hC' ho rfl ?_)
  refine wpAny_bind (wpAny_pure (wpAny_pure ⟨plainId_quiet F.excBase_ValueError.init.plain _, codeAny_builtin F.excBase_ValueError.initEntry ?_⟩))
  refine PySem.W.exc_init_tree (cls := .ref C) (t0 := t1) (dv := none) (c2 := .none) (c3 := .none) (b4 := .bool false) ho hl fun h' k hx ht => ?_
  have J := I.write (t' := tk) (x := a) (e := a) (o := exo a C none) (by rw [e]; exact True.intro) (.inl rfl) k ⟨_, hx⟩ (exo_ok hx)
  rw [upd_own e] at J
  exact h _ J
/-- super().__init__(e) as a statement -/
theorem super_init {s0 : Shared} {H0 : Hp} {pins : List (Addr × Obj)} {σ : L2.St} {a cda : Addr} {name : Str} {params : Arguments} {body bd : List Stmt} {kV doc pm ct : Value} {an : Option Addr} {ar : Arg} {e : Expr} {te : TE} {p0 p1 p2 p3 p4 : Pos} {pl : Sem Bool} {R : Hp → Prop}
    (S : IScope ps sc) (T : ErrC P K C cc cda f (PySem.W.ksFn name qual params body sc .none kV doc pm an (.ref cda) ct cc))
    (hpar : (params.posonlyargs ++ params.args).head? = some ar) (hN : ps[0]? = some ar.arg) (hm : mg ("super" : Str) = none)
    (I : Inv (cxI P w K mg base ps qual sc f (.ref cda) cc A outer s0 H0 E) pins σ H s) (hs : σ[0]? = some (some (.ref a))) (ha : H a = some (exo a C none)) (he : PE (cxI P w K mg base ps qual sc f (.ref cda) cc A outer s0 H0 E) e te) (q : te σ H fun _ H1 => H1 a = some (exo a C none) ∧ R H1)
    (heval : eval (.Call (.Attribute (.Call (.Name "super" p0) [] [] p1) "__init__" p2) [e] [] p3) (PySem.W.ksEnv qual sc s0.heap.objs.size f (.ref cda) cc) = (do
      let ov ← attributeBase (.Call (.Name "super" p0) [] [] p1) "__init__" (PySem.W.ksEnv qual sc s0.heap.objs.size f (.ref cda) cc) (eval (.Call (.Name "super" p0) [] [] p1) (PySem.W.ksEnv qual sc s0.heap.objs.size f (.ref cda) cc))
      standAt p2.atName
      let (g, first) ← holding [ov] (getMethod ov "__init__" pl)
      callWith p3 g first (backTo p3 (starEach [e] (PySem.W.ksEnv qual sc s0.heap.objs.size f (.ref cda) cc))) []) := by rfl)
    (hint : interactive (PySem.W.ksEnv qual sc s0.heap.objs.size f (.ref cda) cc) = false := by rfl) (hsw : swapsWith (.Call (.Attribute (.Call (.Name "super" p0) [] [] p1) "__init__" p2) [e] [] p3) none p4.line (PySem.W.ksEnv qual sc s0.heap.objs.size f (.ref cda) cc) = pure false := by rfl)
    (hst : starEach [e] (PySem.W.ksEnv qual sc s0.heap.objs.size f (.ref cda) cc) = (false, eval e (PySem.W.ksEnv qual sc s0.heap.objs.size f (.ref cda) cc)) :: starEach [] (PySem.W.ksEnv qual sc s0.heap.objs.size f (.ref cda) cc) := by rfl) :
    _root_.PySem.wpAt (model P w) (A.deeper (PySem.W.ksEnv qual sc s0.heap.objs.size f (.ref cda) cc)) (.func bd (PySem.W.ksEnv qual sc s0.heap.objs.size f (.ref cda) cc)) (exec (.Expr (.Call (.Attribute (.Call (.Name "super" p0) [] [] p1) "__init__" p2) [e] [] p3) p4) (PySem.W.ksEnv qual sc s0.heap.objs.size f (.ref cda) cc))
      (fun fl s' => fl = Flow.next ∧ ∃ H', Inv (cxI P w K mg base ps qual sc f (.ref cda) cc A outer s0 H0 E) pins σ H' s' ∧ R H') (cxI P w K mg base ps qual sc f (.ref cda) cc A outer s0 H0 E).xe s := by
  refine ks_wpAt_Expr_any ?_ hint hsw
  refine ks_wpAt_MethodCall (pl := pl) ?_ heval
  have X := I.kIn
  obtain ⟨cl1, od1, vs1, sl1, fi, tf, hcda, hv2, hfile⟩ := T.file
  obtain ⟨oc, od, osl, hf⟩ := T.fn
  obtain ⟨cl2, od2, sl2, hcc⟩ := T.cell
  obtain ⟨nm, qn, N, bs, bm, sn, sub, ab, col, dd, k0, k1, k2, k3, k5, hC, hbm⟩ := T.oex.cls
  have hcl : PySem.W.clsIn K C = some { name := nm, bases := bs, mro := .ref C :: bm, ns := N, qualname := qn, hasDict := true, slotNames := sn, subclasses := sub, abstract := ab, collection := col, hasDel := false } := by unfold PySem.W.clsIn; rw [hC] <;> rfl
  obtain ⟨t1, ho⟩ := exo_at I.hok ha
  obtain ⟨m, hns, hloc⟩ := I.loc
  have hself : m ar.arg = some (.ref a) := by
    have hmem := List.mem_of_getElem? hN
    obtain ⟨u, ru, lk⟩ := hloc 0 ar.arg _ hN hs (.inl (S.par _ hmem))
    rcases lk with ⟨_, z⟩ | ⟨z | z, _⟩
    · rw [z]
      obtain rfl : u = Value.ref a := ru
      rfl
    · have z' : sc.names.lookup ar.arg = some .cell := z
      rw [S.par _ hmem] at z'
      cases z'
    · have z' : sc.names.lookup ar.arg = some .free := z
      rw [S.par _ hmem] at z'
      cases z'
  have hxC : a ≠ C := fun z => by
    have z2 := X _ _ hC
    rw [← z, ho] at z2
    cases z2
  have hb := I.bs _ _ (I.mod.kin _ _ hC)
  refine ks_wpAt_super_base (env := PySem.W.ksEnv qual sc s0.heap.objs.size f (.ref cda) cc) S.sup S.cls (by decide) rfl (X _ _ hf) rfl hpar rfl (X _ _ hcda) rfl hv2 hfile T.top ?_
  obtain ⟨mb, hmb, hbl⟩ := I.mod.blt
  refine PySem.W.ks_loadName_global S.kind S.sup (Calls.loadGlobal_builtin (env := PySem.W.ksEnv qual sc s0.heap.objs.size f (.ref cda) cc) (I.mod.glob.keeps I.bk) hm (hmb.keeps I.bk) ((hbl _ (by decide)).trans (by decide +kernel)) ⟨rfl, ?_⟩)
  refine wpAny_loadName_free S.kind S.cls rfl ⟨_, X _ _ hcc, rfl⟩ ?_
  refine wpAny_loadName_local S.kind (S.par _ (List.mem_of_getElem? hN)) hns hself ?_
  have hD2 : (excClassObj nm qn C N bs bm true sn sub ab col dd k0 k1 k2 k3 k5 "ValueError.__new__").data = .cls { name := nm, bases := bs, mro := .ref C :: bm, ns := N, qualname := qn, hasDict := true, slotNames := sn, subclasses := sub, abstract := ab, collection := col, hasDel := false } := rfl
  obtain ⟨hp, g, d, tk, os⟩ := s
  refine ks_wpAny_isType_cls (X _ _ hC) hD2 ⟨rfl, ?_⟩
  refine ks_wpAny_call_super (X _ _ hC) hD2 ho rfl (fun c z => by cases z) (PySem.W.looks_mroIn X T.mro) (fun h1 eso k1 => ?_)
  have I1 := I.kept (t' := tk) k1
  obtain ⟨t2, ho2⟩ := exo_at I1.hok ha
  have X1 := I1.kIn
  have Ia : PySem.W.InstAt h1 a { cls := .ref C, dict := none, data := .fields #[.ref t2, .none, .none, .none, .bool false, .none] } C none := ⟨ho2, rfl, rfl, trivial⟩
  have hm2 := T.sup
  unfold PySem.W.ks_superIn at hm2
  rw [hcl] at hm2
  refine PySem.W.kxs_getMethod PySem.W.kxs_ValueError eso (PySem.W.looks_opaque X1 T.opq) (l₀ := .ref C :: bm) ?_ rfl X1 hm2 (Ia.type.andThen (PySem.W.looks_subIn X1 T.sub)) hxC (by decide) ?_
  · exact fun A Q E s k q => wpAny_bind ((PySem.W.looks_clsIn X1 hcl) A _ E s k (wpAny_pure q))
  have k2 : ∀ b o, h1.get? b = some o → (h1.push (PySem.W.kxs_mw "ValueError.__init__" a)).get? b = some o := fun b o z => Heap.get?_push_of_some _ z
  have I2 := I1.kept (t' := tk + 1) k2
  have hu : (h1.push (PySem.W.kxs_mw "ValueError.__init__" a)).get? h1.objs.size = some (PySem.W.kxs_mw "ValueError.__init__" a) := Heap.get?_push_size _ rfl
  have I3 := I2.pins_of (pins' := (h1.objs.size, PySem.W.kxs_mw "ValueError.__init__" a) :: pins) fun p hp => by
    rcases List.mem_cons.mp hp with rfl | hp
    · exact ⟨hu, I1.hok.fresh (Nat.le_refl _), Nat.ne_of_gt I1.lt, I1.nofs (Nat.le_refl _), fun v z => by cases z⟩
    · exact I2.pin p (List.mem_append_right _ hp)
  refine PySem.W.kxs_callWith (i := "ValueError.__init__") (x := a) (by rw [hst]; rfl) ?_
  rw [hst]
  refine Calls.evalArgs_plain (Calls.spliced_cons (thn (he.run _ _ σ H _ I3 q) fun u s4 ⟨v, H4, I4, r4, ha4, qR⟩ => Calls.spliced_nil ?_))
  have hu4 := (I4.pin _ (List.mem_append_right _ List.mem_cons_self)).1
  have J4 := I4.pins_of (pins' := pins) fun p hp => I4.pin p (List.mem_append_right _ (List.mem_cons_of_mem _ hp))
  exact ⟨hu4, call_mw T.oex J4 ha4 hu4 (by show 1 ≤ sizeLine; rw [sizeLine_eq]; omega) fun s' J => ⟨rfl, H4, J, qR⟩⟩
end
/-- the promise of such an __init__: its arguments, texts and small numbers, are kept under the names fs -/
def okArg : V → Prop
  | .str x => x.length ≤ 1000 ∧ (PySem.reprText x).length ≤ 100000
  | .int i => i.natAbs.log2 < 1920
  | _ => False
def spI (K : Fg) (C : Addr) (fs : List Str) : Sp := fun vs H Q _ => ∃ (a : Addr) (us : List V), vs = .ref a :: us ∧ us.length = fs.length ∧ (∀ u ∈ us, okArg u) ∧ H a = some (exo a C none) ∧
  ∀ d, H d = none → d ≠ a → Q .non (upd (upd H d (exd d (fs.zip us).reverse)) a (exo a C (some d)))
section
variable {P : Program} {w : World} {K : Fg} {mg : Str → Option Value} {base : Heap} {ps : List Str} {qual : Str} {sc : Scope} {f cc C : Addr} {cda : Addr}
/-- THE RULE for such an __init__ -/
theorem init_ok {name : Str} {params : Arguments} {rest : List Stmt} {kV doc pm ct : Value} {an : Option Addr} {ar : Arg} {e : Expr} {p0 p1 p2 p3 p4 : Pos} {pl : Addr → Sem Bool} {fs : List Str} {k : Nat}
    (S : IScope ps sc) (T : ErrC P K C cc cda f (PySem.W.ksFn name qual params (.Expr (.Call (.Attribute (.Call (.Name "super" p0) [] [] p1) "__init__" p2) [e] [] p3) p4 :: rest) sc .none kV doc pm an (.ref cda) ct cc)) (hcd : PySem.W.codeIn K (.ref cda) qual = true)
    (hpar : (params.posonlyargs ++ params.args).head? = some ar) (hN : ps[0]? = some ar.arg) (hm : mg ("super" : Str) = none) (hfs : ps.length = fs.length + 1)
    (hbody : ∀ (A : Around) (outer : List PySem.Env) (s : Shared) (H : Hp) (E : XK) (a : Addr) (us : List V) (D : Ends), us.length = fs.length → (∀ u ∈ us, okArg u) → H a = some (exo a C none) → (∀ d, H d = none → d ≠ a → D.nx (some (.ref a) :: us.map some) (upd (upd H d (exd d (fs.zip us).reverse)) a (exo a C (some d)))) →
      ∃ te t, PE (cxI P w K mg base ps qual sc f (.ref cda) cc A outer s H E) e te ∧ PSs (cxI P w K mg base ps qual sc f (.ref cda) cc A outer s H E) rest t ∧ te (some (.ref a) :: us.map some) H fun _ H1 => H1 a = some (exo a C none) ∧ t D (some (.ref a) :: us.map some) H1)
    (heval : ∀ L : Addr, eval (.Call (.Attribute (.Call (.Name "super" p0) [] [] p1) "__init__" p2) [e] [] p3) (PySem.W.ksEnv qual sc L f (.ref cda) cc) = (do
      let ov ← attributeBase (.Call (.Name "super" p0) [] [] p1) "__init__" (PySem.W.ksEnv qual sc L f (.ref cda) cc) (eval (.Call (.Name "super" p0) [] [] p1) (PySem.W.ksEnv qual sc L f (.ref cda) cc))
      standAt p2.atName
      let (g, first) ← holding [ov] (getMethod ov "__init__" (pl L))
      callWith p3 g first (backTo p3 (starEach [e] (PySem.W.ksEnv qual sc L f (.ref cda) cc))) []) := by intro _; rfl)
    (hint : ∀ L : Addr, interactive (PySem.W.ksEnv qual sc L f (.ref cda) cc) = false := by intro _; rfl) (hsw : ∀ L : Addr, swapsWith (.Call (.Attribute (.Call (.Name "super" p0) [] [] p1) "__init__" p2) [e] [] p3) none p4.line (PySem.W.ksEnv qual sc L f (.ref cda) cc) = pure false := by intro _; rfl)
    (hst : ∀ L : Addr, starEach [e] (PySem.W.ksEnv qual sc L f (.ref cda) cc) = (false, eval e (PySem.W.ksEnv qual sc L f (.ref cda) cc)) :: starEach [] (PySem.W.ksEnv qual sc L f (.ref cda) cc) := by intro _; rfl) :
    FnOk P w K mg base (L2.CX P w) (k + 1) f (PySem.W.ksFn name qual params (.Expr (.Call (.Attribute (.Call (.Name "super" p0) [] [] p1) "__init__" p2) [e] [] p3) p4 :: rest) sc .none kV doc pm an (.ref cda) ct cc) ps (spI K C fs) := by
  refine ⟨fun vs H Q E h => ?_, fun A outer s H args us vs Q E hr e0 hb r hsp => ?_⟩
  · obtain ⟨a, us, rfl, hl, _⟩ := h
    rw [List.length_cons, hl, hfs]
  obtain ⟨a, ws, rfl, hl, hok, ha, hq⟩ := hsp
  obtain ⟨oc, od, osl, hf⟩ := T.fn
  obtain ⟨cl2, od2, sl2, hcc⟩ := T.cell
  have KX : K.In s.heap := e0.mod.kin.keeps fun b o z => (e0.bs b o z).1
  have lim : s.heap.NoLimit := e0.mod.nolimit.keeps fun b o z => (e0.bs b o z).1
  refine ks_codeAny_call_defAt (binds := ps.zip us) hr.depth (KX _ _ hf) rfl lim (PySem.W.codeRec_of KX hcd) rfl hb S.nocell (fun x hx => S.par _ (List.of_mem_zip hx).1) (fun h1 hns hk => ?_) S.co S.gen S.kind
  have hlv : (V.ref a :: ws).length = ps.length := by rw [List.length_cons, hl, hfs]
  have I : Inv (cxI P w K mg base ps qual sc f (.ref cda) cc A outer s H E) [] ((V.ref a :: ws).map some) H { s with heap := h1, toks := s.toks + (ps.zip us).length } := inv_init S hr.hd e0 hlv r hcc hns hk
  obtain ⟨te, t, he, ht, q⟩ := hbody A outer s H E a ws { nx := fun _ H' => Q .non H', rt := Q } hl hok ha fun d hd ne => hq d hd ne
  refine ks_wpAt_execs_cons (ks_wpAt_mono (super_init (bd := _) S T hpar hN hm I rfl ha he q (heval _) (hint _) (hsw _) (hst _)) (fun fl s' hs => ?_) fun _ _ z => z)
  obtain ⟨rfl, H1, I1, q1⟩ := hs
  have fin : ∀ {σ' : L2.St} {H' : Hp} {v : V} {u : Value} {s' : Shared}, Inv (cxI P w K mg base ps qual sc f (.ref cda) cc A outer s H E) [] σ' H' s' → RelV v u → Q v H' → CE outer P w H s Q u s' :=
    fun {σ' H' v u s'} J rv q => ⟨v, H', J.os, J.bare, J.base, J.hok, rv, q⟩
  refine ks_wpAt_mono (wpAt_of_wpAny (ht.run [] s' _ H1 _ I1 q1)) (fun fl s2 hs => ?_) fun e s2 hs => hs
  cases fl with
  | ret u =>
    obtain ⟨v, σ', H', J, rv, q⟩ := hs
    exact fin J rv q
  | next =>
    obtain ⟨σ', H', J, q⟩ := hs
    exact fin (v := V.non) (u := Value.none) J rfl q
  | brk =>
    obtain ⟨_, _, _, q⟩ := hs
    exact False.elim q
  | cont =>
    obtain ⟨_, _, _, q⟩ := hs
    exact False.elim q
/-- self.f = its argument, once and twice -/
theorem ost_1 {fn : Str} {a : Addr} {u : V} {H : Hp} {D : Ends} (T : OexC K C) (hno : PySem.W.findIn K (.ref C) fn = some none) (ha : H a = some (exo a C none)) (q : ∀ d, H d = none → d ≠ a → D.nx [some (.ref a), some u] (upd (upd H d (exd d [(fn, u)])) a (exo a C (some d)))) :
    tOst K fn (tVar 0) (tVar 1) D [some (.ref a), some u] H := ⟨u, rfl, .ref a, rfl, a, C, rfl, T, hno, .inl ⟨ha, q⟩⟩
theorem ost_2 {fn gn : Str} {a : Addr} {u v : V} {H : Hp} {D : Ends} (T : OexC K C) (h1 : PySem.W.findIn K (.ref C) fn = some none) (h2 : PySem.W.findIn K (.ref C) gn = some none) (ha : H a = some (exo a C none)) (q : ∀ d, H d = none → d ≠ a → D.nx [some (.ref a), some u, some v] (upd (upd H d (exd d [(gn, v), (fn, u)])) a (exo a C (some d)))) :
    tSeq (tOst K fn (tVar 0) (tVar 1)) (tOst K gn (tVar 0) (tVar 2)) D [some (.ref a), some u, some v] H := by
  refine ⟨u, rfl, .ref a, rfl, a, C, rfl, T, h1, .inl ⟨ha, fun d hd ne => ?_⟩⟩
  refine ⟨v, rfl, .ref a, rfl, a, C, rfl, T, h2, .inr ⟨d, [(fn, u)], upd_same, ?_, by simp, ?_⟩⟩
  · rw [upd_ne ne]
    exact upd_same
  · have := q d hd ne
    have e : upd (upd (upd H d (exd d [(fn, u)])) a (exo a C (some d))) d (exd d [(gn, v), (fn, u)]) = upd (upd H d (exd d [(gn, v), (fn, u)])) a (exo a C (some d)) := by
      funext p
      by_cases hp : p = d
      · subst hp
        rw [upd_same, upd_ne ne, upd_same]
      · rw [upd_ne hp]
        by_cases hq : p = a
        · subst hq
          rw [upd_same, upd_same]
        · rw [upd_ne hq, upd_ne hq, upd_ne hp, upd_ne hp]
    rw [e]
    exact this
end
end DL

set_option maxHeartbeats 2000000
/-! DTry: own errors raised and caught. -/
namespace DL
open PySem L2 PyProof.Rows
variable [TN]
section
variable {K : Fg} {cl : Cl} {W : WX}
theorem okD_arg {F : Hp} {v : V} {d : D} (r : Rep K cl F v d) (h : okE d) : okArg v := by
  cases r with
  | str x => exact ⟨h.1, Nat.le_trans (PySem.StrLaws.reprText_len x h.2) (by have := h.1; omega)⟩
  | int i => exact h
  | _ => exact h.elim
theorem reps_ok {F : Hp} : ∀ {vs : List V} {ds : List D}, Reps K cl F vs ds → (∀ d ∈ ds, okE d) → ∀ v ∈ vs, okArg v
  | _, _, .nil, _, v, hv => by cases hv
  | _, _, .cons h r, q, v, hv => by
    rcases List.mem_cons.mp hv with z | z
    · subst z
      exact okD_arg h (q _ List.mem_cons_self)
    · exact reps_ok r (fun d hd => q d (List.mem_cons_of_mem _ hd)) v z
theorem freps_zip {F : Hp} : ∀ (fs : List Str) {vs : List V} {ds : List D}, Reps K cl F vs ds → FReps K cl F (fs.zip vs) (fs.zip ds)
  | [], _, _, _ => by rw [List.zip_nil_left, List.zip_nil_left]; exact .nil
  | _ :: _, _, _, .nil => by rw [List.zip_nil_right, List.zip_nil_right]; exact .nil
  | _ :: fs, _, _, .cons h r => .cons h (freps_zip fs r)
theorem FReps.append {F : Hp} {ws us : List (Str × V)} {ds es : List (Str × D)} (r : FReps K cl F ws ds) (q : FReps K cl F us es) : FReps K cl F (ws ++ us) (ds ++ es) := by
  induction ds generalizing ws with
  | nil => cases r; exact q
  | cons d ds ih => cases r with
    | cons h r => exact .cons h (ih r)
theorem FReps.reverse {F : Hp} {ws : List (Str × V)} {ds : List (Str × D)} (r : FReps K cl F ws ds) : FReps K cl F ws.reverse ds.reverse := by
  induction ds generalizing ws with
  | nil => cases r; exact .nil
  | cons d ds ih => cases r with
    | cons h r =>
      rw [List.reverse_cons, List.reverse_cons]
      exact (ih r).append (.cons h .nil)
theorem rfs_raise {c : String} {C : Addr} {fs : List Str} {ta : TA} {t : DA} (hC : cl.nm c = some C) (hl : fs.length ≤ 900) (ha : RfA K cl W ta t) :
    RfS K cl W (fun _ σ H => tMkO C (spI K C fs) [] ta σ H fun v d H' => W v d σ H') (sRaise c fs t) where
  mono2 := fun E E' A B ρ hE l q => ha.mono2 E E' ρ _ _ hE (fun xs q => ⟨q.1, q.2.1, hE _ _ q.2.2⟩) q
  ok := fun F0 H0 F H σ ρ E B A hh le ld q => by
    refine ha.ok F0 H0 F H σ ρ E _ hh le (ha.mono E ρ _ _ (fun xs q vs F1 H1 g1 r1 => ?_) q)
    obtain ⟨q1, q2, q3⟩ := q
    have hv : vs.length = fs.length := by rw [r1.length, q1]
    refine ⟨by rw [hv]; omega, fun a hn => ⟨a, vs, by rw [List.append_nil], hv, reps_ok r1 q2, upd_same, fun d hd ne => ?_⟩⟩
    have hd1 : H1 d = none := by rwa [upd_ne ne] at hd
    refine ⟨rfl, d, (fs.zip vs).reverse, upd_same, by rw [upd_ne ne]; exact upd_same, hd1, ?_⟩
    have g2 : Gr F1 H1 (upd F1 d (.xd (fs.zip vs).reverse)) (upd (del (upd (upd (upd H1 a (exo a C none)) d (exd d (fs.zip vs).reverse)) a (exo a C (some d))) a) d (.xd (fs.zip vs).reverse)) := by
      have same : ∀ p o, H1 p = some o → (upd (del (upd (upd (upd H1 a (exo a C none)) d (exd d (fs.zip vs).reverse)) a (exo a C (some d))) a) d (.xd (fs.zip vs).reverse)) p = some o := fun p o e => by
        have n1 : p ≠ a := ne_of_none e hn
        have n2 : p ≠ d := ne_of_none e hd1
        rw [upd_ne n2, del_ne n1, upd_ne n1, upd_ne n2, upd_ne n1]
        exact e
      refine ⟨same_upd (g1.s.free hd1), ⟨fun p o e _ => same p o e, fun P _ C _ t => t.of fun ps h => same _ _ h, fun p e => L2.Same.free (H' := _) same e, fun P ps e => ?_⟩, fun p o e => ?_, fun p x y => ?_, fun p ps x => ?_, fun p ps x => ?_⟩
      · by_cases hp : P = d
        · rw [hp, upd_same] at e; cases e
        · rw [upd_ne hp] at e
          by_cases ha : P = a
          · rw [ha] at e
            unfold del at e
            simp at e
          · rw [del_ne ha, upd_ne ha, upd_ne hp, upd_ne ha] at e
            exact ⟨ps, e⟩
      · by_cases hp : p = d
        · subst hp
          rw [upd_same] at e ⊢
          exact e
        · rw [upd_ne hp] at e
          exact same p o (g1.s _ _ e)
      · by_cases hp : p = d
        · subst hp; exact hd1
        · rw [upd_ne hp] at x
          exact absurd y x
      · by_cases hp : p = d
        · subst hp; exact .inl hd1
        · rw [upd_ne hp] at x
          exact .inr (g1.s _ _ x)
      · by_cases hp : p = d
        · rw [hp, upd_same] at x; cases x
        · rwa [upd_ne hp] at x
    exact le _ ρ σ _ _ _ _ (hh.grow (g1.trans g2)) q3 ⟨C, hC, rfl, _, upd_same, (freps_zip fs (r1.mono g2.f)).reverse⟩
theorem rfs_try {ms os : List String} {c : Value} {tb : WX → TS} {ts : TS} {b s : DS} (hms : ∀ m ∈ ms, ∀ C, cl.nm m = some C → PySem.W.exmOne K (.ref C) c = some true) (hos : ∀ m ∈ os, ∀ C, cl.nm m = some C → PySem.W.exmOne K (.ref C) c = some false)
    (hb : ∀ W : WX, RfS K cl W (tb W) b) (hs : RfS K cl (fun _ _ _ _ => False) ts s) : RfS K cl W (fun D σ H => tb (wOnly K c (fun _ _ _ => ts) W D) D σ H) (sTry ms os b s) where
  mono2 := fun E E' A B ρ hE l q => (hb W).mono2 _ _ A B ρ (fun e ρ' q => by
    have q : if e.cls ∈ ms then s noE A ρ' else e.cls ∈ os ∧ E e ρ' := q
    show if e.cls ∈ ms then s noE B ρ' else e.cls ∈ os ∧ E' e ρ'
    split
    · rename_i h
      rw [if_pos h] at q
      exact hs.mono noE A B ρ' l q
    · rename_i h
      rw [if_neg h] at q
      exact ⟨q.1, hE _ _ q.2⟩) l q
  ok := fun F0 H0 F H σ ρ E B A hh le ld q => by
    refine (hb _).ok F0 H0 F H σ ρ _ B A hh (fun err ρ' σ' F' H' v dx h' q re => ?_) ld q
    have q : if err.cls ∈ ms then s noE B ρ' else err.cls ∈ os ∧ E err ρ' := q
    obtain ⟨C, n, rfl, _⟩ := id re
    by_cases hm : err.cls ∈ ms
    · rw [if_pos hm] at q
      exact ⟨true, hms _ hm C n, fun _ a ha => hs.ok F0 H0 F' H' σ' ρ' noE B A h' (fun _ _ _ _ _ _ _ _ z _ => z.elim) ld q, fun z => by cases z⟩
    · rw [if_neg hm] at q
      exact ⟨false, hos _ q.1 C n, (fun z => by cases z), fun _ => le _ ρ' σ' F' H' _ dx h' q.2 re⟩
theorem rfs_tryR {m : String} {os : List String} {i : Nat} {f : Str} {C : Addr} {tb : WX → TS} {b : DS} (hC : cl.nm m = some C) (hms : PySem.W.exmOne K (.ref C) (.ref C) = some true) (hos : ∀ m ∈ os, ∀ D, cl.nm m = some D → PySem.W.exmOne K (.ref D) (.ref C) = some false) (hf : cl.fr = false)
    (hb : ∀ W : WX, RfS K cl W (tb W) b) : RfS K cl W (fun D σ H => tb (wAs K (.ref C) i (fun a v d => tRet (tXf a v d C f (tVar i))) W D) D σ H) (sTryR m os i f b) where
  mono2 := fun E E' A B ρ hE l q => (hb W).mono2 _ _ A B ρ (fun e ρ' q => by
    have q : if e.cls = m then i < ρ'.length ∧ (match e.fs.lookup f with | some d => A.rt d | none => False) else e.cls ∈ os ∧ E e ρ' := q
    show if e.cls = m then i < ρ'.length ∧ (match e.fs.lookup f with | some d => B.rt d | none => False) else e.cls ∈ os ∧ E' e ρ'
    split
    · rename_i h
      rw [if_pos h] at q
      refine ⟨q.1, ?_⟩
      have q := q.2
      cases z : e.fs.lookup f with
      | none => rw [z] at q; exact q
      | some d => rw [z] at q; exact l.rt d q
    · rename_i h
      rw [if_neg h] at q
      exact ⟨q.1, hE _ _ q.2⟩) l q
  ok := fun F0 H0 F H σ ρ E B A hh le ld q => by
    refine (hb _).ok F0 H0 F H σ ρ _ B A hh (fun err ρ' σ' F' H' v dx h' q re => ?_) ld q
    have q : if err.cls = m then i < ρ'.length ∧ (match err.fs.lookup f with | some d => B.rt d | none => False) else err.cls ∈ os ∧ E err ρ' := q
    obtain ⟨C', n, rfl, hx⟩ := id re
    by_cases hm : err.cls = m
    · rw [if_pos hm] at q
      obtain ⟨qi, q⟩ := q
      rw [hm, hC] at n
      cases n
      refine ⟨true, hms, fun _ a ha => ⟨.ref a, List.getElem?_set_self (by rw [h'.len]; exact qi), rfl, rfl, ?_⟩, fun z => by cases z⟩
      cases dx with
      | none =>
        have hx : err.fs = [] := hx
        rw [hx] at q
        exact q.elim
      | some d =>
        obtain ⟨ws, hx1, hx2⟩ := hx
        rcases hx2.look f with ⟨z, _⟩ | ⟨v, y, z1, z2, z3⟩
        · rw [z] at q; exact q.elim
        · rw [z1] at q
          exact ⟨d, ws, v, rfl, h'.g.s _ _ hx1, z2, ld.rt F' H' v y h'.g (fun _ => z3) (fun z => by rw [hf] at z; cases z) q⟩
    · rw [if_neg hm] at q
      exact ⟨false, hos _ q.1 C' n, (fun z => by cases z), fun _ => le _ ρ' σ' F' H' _ dx h' q.2 re⟩
end
section
variable {X : Cx} {K : Fg} {cl : Cl} {W : WX}
theorem vs_raise {c : String} {C fI : Addr} {fs : List Str} {k : Nat} {fd : FuncData} {ps : List Str} {x : Str} {e : Expr} {es : List Expr} {p cp pos : Pos} {t : TA} {q : DA} (T : OexC X.K C) (iC : PySem.W.findIn X.K (.ref C) "__init__" = some (some (.ref fI))) (tI : PySem.W.typeIn X.K (.ref fI) = some (.type "function"))
    (F1 : FnOk X.prog X.w X.K X.mg X.base (L2.CX X.prog X.w) k fI fd ps (spI X.K C fs)) (hr : Room (k + 1) X.A) (hb : Binds X.K fd ps []) (hg : Gl X x) (hm : X.mg x = some (.ref C)) (hC : cl.nm c = some C) (tk : Takes X W) (hc : X.calm = true) (ha : VA X K cl W (e :: es) t q)
    (hl : fs.length ≤ 900 := by decide) (hdb : (x == ("__debug__" : Str)) = false := by decide) (he : starEach (e :: es) X.env = (false, eval e X.env) :: starEach es X.env := by rfl) (hpl : (backTo cp (starEach es X.env)).any (·.1) = false := by rfl) :
    VS X K cl W (.Raise (some (.Call (.Name x p) (e :: es) [] cp)) none pos) (fun _ σ H => tMkO C (spI K C fs) [] t σ H fun v d H' => W v d σ H') (sRaise c fs q) := by
  obtain rfl := ha.hK
  exact ⟨ps_raise hc tk (pmk_oex T iC tI F1 hr hb .nil pass_no hg hm ha.pe hdb he hpl), rfs_raise hC hl ha.rf, rfl⟩
/-- some wish takes what W says -/
theorem any_takes {X : Cx} (hs : X.stack = X.env :: X.outer) (hf : X.env.frame = some X.env.locals) (W : WX) : ∃ (pn : List (Addr × Obj)) (xe : Value → Shared → Prop), Takes (X.tr pn xe) W ∧ PassesOwn (model X.prog X.w) X.A X.env xe := by
  refine ⟨[], fun e s₁ => wpAny (model X.prog X.w) X.A (noteFrame e X.env) (fun _ s₂ => wpAny (model X.prog X.w) X.A (setFlight e none) (fun _ _ => True) (fun _ _ => True) s₂) (fun _ _ => True) s₁, fun u s' xx => ?_, PassesOwn.looking (K := (fun e s₂ => wpAny (model X.prog X.w) X.A (setFlight e none) (fun _ _ => True) (fun _ _ => True) s₂)) (E₁ := fun _ _ => True)⟩
  obtain ⟨a, B, sI, pins', σ', H', cls, d, rfl, J', nb, up, sky, na, os, ag, w⟩ := xx
  have hfr : X.A.frames = some (X.env :: X.outer) := by
    have := J'.ok.frames
    rw [← hs]
    exact this
  have sky' : Sky B (X.env :: X.outer) a (Zc cls d) X.env.locals s'.heap := by rw [← hs]; exact sky
  show wpAny (model X.prog X.w) X.A (noteFrame (.ref a) X.env) (fun _ s₂ => wpAny (model X.prog X.w) X.A (setFlight (.ref a) none) (fun _ _ => True) (fun _ _ => True) s₂) (fun _ _ => True) s'
  exact Sky.land (Q := fun _ _ => True) Zc.steady hfr hf sky' fun h3 fl3 up3 => True.intro
theorem vs_try {ms os : List String} {x : Str} {c : Value} {body suite : List Stmt} {b₀ : Stmt} {np pos pos' : Pos} {tb : WX → TS} {ts : TS} {b s : DS} (hs : X.stack = X.env :: X.outer) (hf : X.env.frame = some X.env.locals) (hc : Names X x c) (tk : Takes X W)
    (hms : ∀ m ∈ ms, ∀ C, cl.nm m = some C → PySem.W.exmOne K (.ref C) c = some true) (hos : ∀ m ∈ os, ∀ C, cl.nm m = some C → PySem.W.exmOne K (.ref C) c = some false)
    (hb : ∀ (W : WX) (pn : List (Addr × Obj)) (xe : Value → Shared → Prop), Takes (X.tr pn xe) W → PassesOwn (model X.prog X.w) X.A X.env xe → VSs (X.tr pn xe) K cl W body (tb W) b)
    (hsu : ∀ (a : Addr) (oe : Obj) (pn : List (Addr × Obj)), VSs (X.suite a ((a, oe) :: pn)) K cl (fun _ _ _ _ => False) (b₀ :: suite) ts s) (hK : X.K = K := by rfl) :
    VS X K cl W (.Try body [.ExceptHandler (some (.Name x np)) none (b₀ :: suite) pos'] [] [] pos) (fun D σ H => tb (wOnly K c (fun _ _ _ => ts) W D) D σ H) (sTry ms os b s) := by
  obtain rfl := hK
  exact ⟨ps_try_only hs hf hc tk (fun W pn xe t p => (hb W pn xe t p).pe) (fun a oe v d pn _ _ => (hsu a oe pn).pe), rfs_try hms hos (fun W => (any_takes hs hf W).elim fun pn z => z.elim fun xe z => (hb W pn xe z.1 z.2).rf) (hsu 0 ⟨.none, none, .cell none, #[]⟩ []).rf, rfl⟩
theorem vs_tryR {m : String} {os : List String} {i : Nat} {f n x : Str} {C : Addr} {body : List Stmt} {np np2 pa pr pos pos' : Pos} {tb : WX → TS} {b : DS} (hs : X.stack = X.env :: X.outer) (hf : X.env.frame = some X.env.locals) (hN : X.N.Nodup) (hi : X.N[i]? = some n) (hln : X.env.kindOf n = some .local) (hc : Names X x (.ref C)) (tk : Takes X W)
    (hC : cl.nm m = some C) (T : XfC K C) (hno : PySem.W.findIn K (.ref C) f = some none) (hms : PySem.W.exmOne K (.ref C) (.ref C) = some true) (hos : ∀ m ∈ os, ∀ D, cl.nm m = some D → PySem.W.exmOne K (.ref D) (.ref C) = some false) (hfr : cl.fr = false)
    (hb : ∀ (W : WX) (pn : List (Addr × Obj)) (xe : Value → Shared → Prop), Takes (X.tr pn xe) W → PassesOwn (model X.prog X.w) X.A X.env xe → VSs (X.tr pn xe) K cl W body (tb W) b)
    (hdb : (n == ("__debug__" : Str)) = false := by decide) (hcd : (n == ("__classdict__" : Str)) = false := by decide) (hab : attributeBase (.Name n np2) f X.env (eval (.Name n np2) X.env) = eval (.Name n np2) X.env := by rfl) (hK : X.K = K := by rfl) :
    VS X K cl W (.Try body [.ExceptHandler (some (.Name x np)) (some n) [.Return (some (.Attribute (.Name n np2) f pa)) pr] pos'] [] [] pos) (fun D σ H => tb (wAs K (.ref C) i (fun a v d => tRet (tXf a v d C f (tVar i))) W D) D σ H) (sTryR m os i f b) := by
  obtain rfl := hK
  exact ⟨ps_try_as hs hf hN hi hln hc tk (fun W pn xe t p => (hb W pn xe t p).pe) (fun a oe v d pn hz hv => pss_one (ps_ret (pe_xf T hno hz hv (pe_var hi (.inl hln) hdb hcd) hab))), rfs_tryR hC hms hos hfr (fun W => (any_takes hs hf W).elim fun pn z => z.elim fun xe z => (hb W pn xe z.1 z.2).rf), rfl⟩
end
/-- whether an except clause takes it -/
theorem exm_mk {K : Fg} {cls : Value} {C : Addr} {b : Bool} (h1 : PySem.W.subIn K (.ref C) (.type "BaseException") = some true) (h2 : PySem.W.isClsIn K C = true) (h3 : PySem.W.typeIn K (.ref C) = some (.type "type")) (h4 : PySem.W.subIn K cls (.ref C) = some b) : PySem.W.exmOne K cls (.ref C) = some b := by
  unfold PySem.W.exmOne PySem.W.kitCls
  unfold PySem.W.isClsIn at h2
  simp only [h1, h2, h3, h4, beq_self_eq_true, Bool.and_self, if_true]
section
variable {P : Program} {w : World} {K : Fg} {mg : Str → Option Value} {base : Heap} {qual : Str} {sc : Scope} {fa cc C cda : Addr}
theorem int_text_len {a : Int} (h : a.natAbs.log2 < 1920) : (Str.ofString (toString a)).length ≤ 1921 := by
  have := PySem.int_text_length_le (a := a) (k := 1920) (by decide) h
  rw [PySem.ofString_length]
  exact this
/-- a text's or a number's part of an f-string -/
theorem js_str {x : Str} {ts : List TE} {acc : Str} {σ : L2.St} {H : Hp} {Q : Str → Hp → Prop} {n m : Nat} (ha : acc.length ≤ n) (hx : x.length ≤ m) (hn : n + m ≤ 16777216) (q : ∀ acc' : Str, acc'.length ≤ n + m → tJs ts acc' σ H Q) : tJs (tC (.str x) :: ts) acc σ H Q :=
  have e : (acc ++ x).length ≤ n + m := by rw [PySem.strLen_append]; omega
  ⟨x, rfl, by rw [sizeLine_eq]; omega, q _ e⟩
theorem js_fmtR {u : V} {i : Nat} {ts : List TE} {acc : Str} {σ : L2.St} {H : Hp} {Q : Str → Hp → Prop} {n : Nat} (hu : okArg u) (hi : σ[i]? = some (some u)) (ha : acc.length ≤ n) (hn : n + 100000 ≤ 16777216) (q : ∀ acc' : Str, acc'.length ≤ n + 100000 → tJs ts acc' σ H Q) : tJs (tFmtR (tVar i) :: ts) acc σ H Q := by
  refine ⟨u, hi, ?_⟩
  cases u with
  | str x =>
    have hx : x.length ≤ 1000 ∧ (PySem.reprText x).length ≤ 100000 := hu
    have e : (acc ++ PySem.reprText x).length ≤ n + 100000 := by rw [PySem.strLen_append]; omega
    exact .inl ⟨x, rfl, by rw [sizeLine_eq]; omega, _, rfl, by rw [sizeLine_eq]; omega, q _ e⟩
  | int j =>
    have hj : j.natAbs.log2 < 1920 := hu
    have l := int_text_len hj
    have e : (acc ++ (toString j : Str)).length ≤ n + 100000 := by rw [PySem.strLen_append]; omega
    exact .inr ⟨j, rfl, hj, _, rfl, by rw [sizeLine_eq]; omega, q _ e⟩
  | _ => exact hu.elim
theorem js_fmt {u : V} {i : Nat} {ts : List TE} {acc : Str} {σ : L2.St} {H : Hp} {Q : Str → Hp → Prop} {n : Nat} (hu : okArg u) (hi : σ[i]? = some (some u)) (ha : acc.length ≤ n) (hn : n + 100000 ≤ 16777216) (q : ∀ acc' : Str, acc'.length ≤ n + 100000 → tJs ts acc' σ H Q) : tJs (tFmt (tVar i) :: ts) acc σ H Q := by
  refine ⟨u, hi, ?_⟩
  cases u with
  | str x =>
    have hx : x.length ≤ 1000 ∧ (PySem.reprText x).length ≤ 100000 := hu
    have e : (acc ++ x).length ≤ n + 100000 := by rw [PySem.strLen_append]; omega
    exact .inl ⟨x, rfl, by rw [sizeLine_eq]; omega, _, rfl, by rw [sizeLine_eq]; omega, q _ e⟩
  | int j =>
    have hj : j.natAbs.log2 < 1920 := hu
    have l := int_text_len hj
    have e : (acc ++ (toString j : Str)).length ≤ n + 100000 := by rw [PySem.strLen_append]; omega
    exact .inr ⟨j, rfl, hj, _, rfl, by rw [sizeLine_eq]; omega, q _ e⟩
  | _ => exact hu.elim
theorem err1R {name : Str} {params : Arguments} {kV doc pm ct : Value} {an : Option Addr} {ar : Arg} {x pre : Str} {j0 : Nat} {p0 p1 p2 p3 p4 q4 q0a q0b q0c r0a r0b r0c r0d : Pos} {k : Nat} {pl : Addr → Sem Bool}
    (S : IScope ["self", x] sc) (T : ErrC P K C cc cda fa (PySem.W.ksFn name qual params (.Expr (.Call (.Attribute (.Call (.Name "super" p0) [] [] p1) "__init__" p2) [.JoinedStr [.Constant (.str pre) j0 q0a, .FormattedValue (.Name x q0b) 114 none q0c] q4] [] p3) p4 :: [.Assign [.Attribute (.Name "self" r0a) x r0b] (.Name x r0c) r0d]) sc .none kV doc pm an (.ref cda) ct cc)) (hcd : PySem.W.codeIn K (.ref cda) qual = true) (hpar : (params.posonlyargs ++ params.args).head? = some ar) (har : ar.arg = ("self" : Str)) (hm : mg ("super" : Str) = none) (hno0 : PySem.W.findIn K (.ref C) x = some none) (hp0 : pre.length ≤ 1000) (hd0 : (x == ("__debug__" : Str)) = false) (hc0 : (x == ("__classdict__" : Str)) = false) (heval : ∀ L : Addr, eval (.Call (.Attribute (.Call (.Name "super" p0) [] [] p1) "__init__" p2) [.JoinedStr [.Constant (.str pre) j0 q0a, .FormattedValue (.Name x q0b) 114 none q0c] q4] [] p3) (PySem.W.ksEnv qual sc L fa (.ref cda) cc) = (do
      let ov ← attributeBase (.Call (.Name "super" p0) [] [] p1) "__init__" (PySem.W.ksEnv qual sc L fa (.ref cda) cc) (eval (.Call (.Name "super" p0) [] [] p1) (PySem.W.ksEnv qual sc L fa (.ref cda) cc))
      standAt p2.atName
      let (g, first) ← holding [ov] (getMethod ov "__init__" (pl L))
      callWith p3 g first (backTo p3 (starEach [.JoinedStr [.Constant (.str pre) j0 q0a, .FormattedValue (.Name x q0b) 114 none q0c] q4] (PySem.W.ksEnv qual sc L fa (.ref cda) cc))) []) := by intro _; rfl) :
    FnOk P w K mg base (L2.CX P w) (k + 1) fa (PySem.W.ksFn name qual params (.Expr (.Call (.Attribute (.Call (.Name "super" p0) [] [] p1) "__init__" p2) [.JoinedStr [.Constant (.str pre) j0 q0a, .FormattedValue (.Name x q0b) 114 none q0c] q4] [] p3) p4 :: [.Assign [.Attribute (.Name "self" r0a) x r0b] (.Name x r0c) r0d]) sc .none kV doc pm an (.ref cda) ct cc) ["self", x] (spI K C [x]) := by
  refine init_ok S T hcd hpar (by rw [har]; rfl) hm rfl (fun A outer s H E a us D hl hok ha q => ?_) (heval := heval) (hint := fun L => by show (sc.kind == .module && _) = false; rw [S.kind]; rfl)
  obtain ⟨u, rfl⟩ := List.length_eq_one_iff.mp hl
  refine ⟨_, _, pe_joined (.cons pe_str (.cons (pe_fmtR (pe_var (i := 1) rfl (.inl (S.par _ (by simp))) hd0 hc0)) .nil)), (pss_one (ps_ost (pe_var (i := 0) rfl (.inl (S.par _ (by simp))) (by decide) (by decide)) (pe_var (i := 1) rfl (.inl (S.par _ (by simp))) hd0 hc0))), ?_⟩
  exact js_str (n := 0) (m := 1000) (Nat.le_refl _) hp0 (by omega) fun a1 h1 => js_fmtR (hok u (by simp)) rfl h1 (by omega) fun a2 h2 => ⟨ha, ost_1 T.oex hno0 ha q⟩
theorem err1N {name : Str} {params : Arguments} {kV doc pm ct : Value} {an : Option Addr} {ar : Arg} {x pre : Str} {j0 : Nat} {p0 p1 p2 p3 p4 q4 q0a q0b q0c r0a r0b r0c r0d : Pos} {k : Nat} {pl : Addr → Sem Bool}
    (S : IScope ["self", x] sc) (T : ErrC P K C cc cda fa (PySem.W.ksFn name qual params (.Expr (.Call (.Attribute (.Call (.Name "super" p0) [] [] p1) "__init__" p2) [.JoinedStr [.Constant (.str pre) j0 q0a, .FormattedValue (.Name x q0b) (-1) none q0c] q4] [] p3) p4 :: [.Assign [.Attribute (.Name "self" r0a) x r0b] (.Name x r0c) r0d]) sc .none kV doc pm an (.ref cda) ct cc)) (hcd : PySem.W.codeIn K (.ref cda) qual = true) (hpar : (params.posonlyargs ++ params.args).head? = some ar) (har : ar.arg = ("self" : Str)) (hm : mg ("super" : Str) = none) (hno0 : PySem.W.findIn K (.ref C) x = some none) (hp0 : pre.length ≤ 1000) (hd0 : (x == ("__debug__" : Str)) = false) (hc0 : (x == ("__classdict__" : Str)) = false) (heval : ∀ L : Addr, eval (.Call (.Attribute (.Call (.Name "super" p0) [] [] p1) "__init__" p2) [.JoinedStr [.Constant (.str pre) j0 q0a, .FormattedValue (.Name x q0b) (-1) none q0c] q4] [] p3) (PySem.W.ksEnv qual sc L fa (.ref cda) cc) = (do
      let ov ← attributeBase (.Call (.Name "super" p0) [] [] p1) "__init__" (PySem.W.ksEnv qual sc L fa (.ref cda) cc) (eval (.Call (.Name "super" p0) [] [] p1) (PySem.W.ksEnv qual sc L fa (.ref cda) cc))
      standAt p2.atName
      let (g, first) ← holding [ov] (getMethod ov "__init__" (pl L))
      callWith p3 g first (backTo p3 (starEach [.JoinedStr [.Constant (.str pre) j0 q0a, .FormattedValue (.Name x q0b) (-1) none q0c] q4] (PySem.W.ksEnv qual sc L fa (.ref cda) cc))) []) := by intro _; rfl) :
    FnOk P w K mg base (L2.CX P w) (k + 1) fa (PySem.W.ksFn name qual params (.Expr (.Call (.Attribute (.Call (.Name "super" p0) [] [] p1) "__init__" p2) [.JoinedStr [.Constant (.str pre) j0 q0a, .FormattedValue (.Name x q0b) (-1) none q0c] q4] [] p3) p4 :: [.Assign [.Attribute (.Name "self" r0a) x r0b] (.Name x r0c) r0d]) sc .none kV doc pm an (.ref cda) ct cc) ["self", x] (spI K C [x]) := by
  refine init_ok S T hcd hpar (by rw [har]; rfl) hm rfl (fun A outer s H E a us D hl hok ha q => ?_) (heval := heval) (hint := fun L => by show (sc.kind == .module && _) = false; rw [S.kind]; rfl)
  obtain ⟨u, rfl⟩ := List.length_eq_one_iff.mp hl
  refine ⟨_, _, pe_joined (.cons pe_str (.cons (pe_fmt (pe_var (i := 1) rfl (.inl (S.par _ (by simp))) hd0 hc0)) .nil)), (pss_one (ps_ost (pe_var (i := 0) rfl (.inl (S.par _ (by simp))) (by decide) (by decide)) (pe_var (i := 1) rfl (.inl (S.par _ (by simp))) hd0 hc0))), ?_⟩
  exact js_str (n := 0) (m := 1000) (Nat.le_refl _) hp0 (by omega) fun a1 h1 => js_fmt (hok u (by simp)) rfl h1 (by omega) fun a2 h2 => ⟨ha, ost_1 T.oex hno0 ha q⟩
theorem err2R {name : Str} {params : Arguments} {kV doc pm ct : Value} {an : Option Addr} {ar : Arg} {x y pre mid : Str} {j0 j1 : Nat} {p0 p1 p2 p3 p4 q4 q0a q0b q0c r0a r0b r0c r0d q1a q1b q1c r1a r1b r1c r1d : Pos} {k : Nat} {pl : Addr → Sem Bool}
    (S : IScope ["self", x, y] sc) (T : ErrC P K C cc cda fa (PySem.W.ksFn name qual params (.Expr (.Call (.Attribute (.Call (.Name "super" p0) [] [] p1) "__init__" p2) [.JoinedStr [.Constant (.str pre) j0 q0a, .FormattedValue (.Name x q0b) 114 none q0c, .Constant (.str mid) j1 q1a, .FormattedValue (.Name y q1b) 114 none q1c] q4] [] p3) p4 :: [.Assign [.Attribute (.Name "self" r0a) x r0b] (.Name x r0c) r0d, .Assign [.Attribute (.Name "self" r1a) y r1b] (.Name y r1c) r1d]) sc .none kV doc pm an (.ref cda) ct cc)) (hcd : PySem.W.codeIn K (.ref cda) qual = true) (hpar : (params.posonlyargs ++ params.args).head? = some ar) (har : ar.arg = ("self" : Str)) (hm : mg ("super" : Str) = none) (hno0 : PySem.W.findIn K (.ref C) x = some none) (hp0 : pre.length ≤ 1000) (hd0 : (x == ("__debug__" : Str)) = false) (hc0 : (x == ("__classdict__" : Str)) = false) (hno1 : PySem.W.findIn K (.ref C) y = some none) (hp1 : mid.length ≤ 1000) (hd1 : (y == ("__debug__" : Str)) = false) (hc1 : (y == ("__classdict__" : Str)) = false) (heval : ∀ L : Addr, eval (.Call (.Attribute (.Call (.Name "super" p0) [] [] p1) "__init__" p2) [.JoinedStr [.Constant (.str pre) j0 q0a, .FormattedValue (.Name x q0b) 114 none q0c, .Constant (.str mid) j1 q1a, .FormattedValue (.Name y q1b) 114 none q1c] q4] [] p3) (PySem.W.ksEnv qual sc L fa (.ref cda) cc) = (do
      let ov ← attributeBase (.Call (.Name "super" p0) [] [] p1) "__init__" (PySem.W.ksEnv qual sc L fa (.ref cda) cc) (eval (.Call (.Name "super" p0) [] [] p1) (PySem.W.ksEnv qual sc L fa (.ref cda) cc))
      standAt p2.atName
      let (g, first) ← holding [ov] (getMethod ov "__init__" (pl L))
      callWith p3 g first (backTo p3 (starEach [.JoinedStr [.Constant (.str pre) j0 q0a, .FormattedValue (.Name x q0b) 114 none q0c, .Constant (.str mid) j1 q1a, .FormattedValue (.Name y q1b) 114 none q1c] q4] (PySem.W.ksEnv qual sc L fa (.ref cda) cc))) []) := by intro _; rfl) :
    FnOk P w K mg base (L2.CX P w) (k + 1) fa (PySem.W.ksFn name qual params (.Expr (.Call (.Attribute (.Call (.Name "super" p0) [] [] p1) "__init__" p2) [.JoinedStr [.Constant (.str pre) j0 q0a, .FormattedValue (.Name x q0b) 114 none q0c, .Constant (.str mid) j1 q1a, .FormattedValue (.Name y q1b) 114 none q1c] q4] [] p3) p4 :: [.Assign [.Attribute (.Name "self" r0a) x r0b] (.Name x r0c) r0d, .Assign [.Attribute (.Name "self" r1a) y r1b] (.Name y r1c) r1d]) sc .none kV doc pm an (.ref cda) ct cc) ["self", x, y] (spI K C [x, y]) := by
  refine init_ok S T hcd hpar (by rw [har]; rfl) hm rfl (fun A outer s H E a us D hl hok ha q => ?_) (heval := heval) (hint := fun L => by show (sc.kind == .module && _) = false; rw [S.kind]; rfl)
  obtain ⟨u, v, rfl⟩ : ∃ u v, us = [u, v] := by
    match us, hl with
    | [u, v], _ => exact ⟨u, v, rfl⟩
  refine ⟨_, _, pe_joined (.cons pe_str (.cons (pe_fmtR (pe_var (i := 1) rfl (.inl (S.par _ (by simp))) hd0 hc0)) (.cons pe_str (.cons (pe_fmtR (pe_var (i := 2) rfl (.inl (S.par _ (by simp))) hd1 hc1)) .nil)))), (pss_cons (ps_ost (pe_var (i := 0) rfl (.inl (S.par _ (by simp))) (by decide) (by decide)) (pe_var (i := 1) rfl (.inl (S.par _ (by simp))) hd0 hc0)) (pss_one (ps_ost (pe_var (i := 0) rfl (.inl (S.par _ (by simp))) (by decide) (by decide)) (pe_var (i := 2) rfl (.inl (S.par _ (by simp))) hd1 hc1)))), ?_⟩
  exact js_str (n := 0) (m := 1000) (Nat.le_refl _) hp0 (by omega) fun a1 h1 => js_fmtR (hok u (by simp)) rfl h1 (by omega) fun a2 h2 => js_str (m := 1000) h2 hp1 (by omega) fun a3 h3 => js_fmtR (hok v (by simp)) rfl h3 (by omega) fun a4 h4 => ⟨ha, ost_2 T.oex hno0 hno1 ha q⟩
end
end DL

set_option maxHeartbeats 2000000
/-! DDict: an own dict's keys walked by a comprehension. -/
namespace DL
open PySem L2 PyProof.Rows
variable [TN]
section
variable {K : Fg} {cl : Cl} {W : WX}
/-- while the dict is locked -/
theorem rfn_lcK {i : Nat} {js vs : List Nat} {g : TG} {d : DG} {tt : TT} {t : DB} {te : TE} {e : DT} (hg : RfG K cl js g d) (hn : NoO d) (hjs : ∀ j ∈ js, j ∈ vs)
    (ht : RfB K cl (fun _ _ _ _ => False) tt t) (he : RfE K cl (fun _ _ _ _ => False) te e) : RfN K cl W (tLockE (tLc (iKeys (tVar i)) g tt te vs)) (dLc (iKeyO i) d t e vs) where
  mono2 := fun E E' ρ P P' hE h q => by
    have go : ∀ (xs : List D) (ρ : DL.Env) (acc : List D) (Q Q' : List D → Prop), (∀ r, Q r → Q' r) → lcL d t e ρ xs acc Q → lcL d t e ρ xs acc Q' := by
      intro xs
      induction xs with
      | nil => intro ρ acc Q Q' hQ q; exact hQ _ q
      | cons x r ih =>
        intro ρ acc Q Q' hQ q
        refine hg.mono x ρ _ _ (fun ρ' q => ht.mono noE ρ' _ _ (fun k q => ?_) q) q
        cases k with
        | true => exact he.mono noE ρ' _ _ (fun y q => ⟨q.1, ih ρ _ Q Q' hQ q.2⟩) q
        | false => exact ih ρ _ Q Q' hQ q
    have q : iKeyO i E ρ fun xs => lcL d t e (noOwn (wipeE ρ vs)) xs [] fun r => P (.lst r) := q
    show iKeyO i E' ρ fun xs => lcL d t e (noOwn (wipeE ρ vs)) xs [] fun r => P' (.lst r)
    unfold iKeyO at q ⊢
    cases ez : ρ[i]? with
    | none => rw [ez] at q; exact q.elim
    | some s =>
      rw [ez] at q
      cases s with
      | no => exact q.elim
      | v d => exact q.elim
      | o d => cases d <;> first | exact go _ _ _ _ _ (fun r q => h _ q) q | exact q.elim
  ok := fun F0 H0 F H σ ρ E Q hh le q => by
    have q : iKeyO i E ρ fun xs => lcL d t e (noOwn (wipeE ρ vs)) xs [] fun r => ∀ p F' H', Gr F H F' H' → H p = none → F' p = none → Own K cl F' H' p (.lst r) → Q (.ref p) H' := q
    unfold iKeyO at q
    cases ez : ρ[i]? with
    | none => rw [ez] at q; exact q.elim
    | some s =>
      rw [ez] at q
      cases s with
      | no => exact q.elim
      | v d => exact q.elim
      | o dd =>
        cases dd with
        | dk kvs =>
          obtain ⟨a, ea, n0, nf, ws, ho, rr⟩ := hh.ownAt ez
          obtain ⟨rk, rk2⟩ := kreps_keys rr
          have lks : (kvs.map fun kv => keyD kv.1).length = kvs.length := List.length_map ..
          have lws : ws.length = kvs.length := by
            have := congrArg List.length rk2
            simpa using this
          have q : lcL d t e (noOwn (wipeE ρ vs)) (kvs.map fun kv => keyD kv.1) [] fun r => ∀ p F' H', Gr F H F' H' → H p = none → F' p = none → Own K cl F' H' p (.lst r) → Q (.ref p) H' := q
          revert rk lks q
          generalize (kvs.map fun kv => keyD kv.1) = ks
          intro rk lks q
          refine ⟨a, .dK ws, ho, trivial, fun od => ?_⟩
          have hlk : (upd H a (.frz od (.dK ws))) a = some (.frz od (.dK ws)) := upd_same
          refine ⟨.ref a, ea, a, od, rfl, .inl ⟨ws, hlk, ?_⟩⟩
          intro D0 hD0
          have hDa : D0 ≠ a := fun z => by rw [z, hlk] at hD0; cases hD0
          have hD : H D0 = none := by rwa [upd_ne hDa] at hD0
          -- locked
          have s1 : Same F (upd H a (.frz od (.dK ws))) := fun b u z => by
            rw [upd_ne (ne_of_none z nf)]
            exact hh.g.s b u z
          have h1 : Hold K cl F (upd H a (.frz od (.dK ws))) F (upd H a (.frz od (.dK ws))) (L2.wipe σ vs) (noOwn (wipeE ρ vs)) := by
            have hb := hh.wipe (vs := vs)
            obtain ⟨θ, hs, hd⟩ := hb.sl
            refine ⟨Gr.refl s1, hb.tb.put (.at ho), hb.len, θ, fun j s z => ?_, fun j k dj dk z _ => absurd z (noOwn_o j dj), fun j a d _ z => absurd z (noOwn_o j d)⟩
            have := hs j s z
            cases s with
            | no => trivial
            | v d => exact this
            | o d => exact absurd z (noOwn_o j d)
          have hF1 : F D0 = none := hh.g.s.free hD
          have leN : ∀ {A B : Hp}, LinkE K cl A B (fun _ _ _ _ => False) noE := fun {A B} err ρ σ F H c dx _ z _ => z.elim
          have fin : ∀ r F' H' D1, Gr F (upd H a (.frz od (.dK ws))) F' H' → (upd H a (.frz od (.dK ws))) D1 = none → F' D1 = none → Own K cl F' H' D1 (.lst r) → (∀ p F' H', Gr F H F' H' → H p = none → F' p = none → Own K cl F' H' p (.lst r) → Q (.ref p) H') →
              H' a = some (.frz od (.dK ws)) ∧ Q (.ref D1) (upd H' a (.dK ws)) := fun r F' H' D1 g hD1 hf w k => by
            have ea' := g.k.get hlk
            have nD : D1 ≠ a := fun z => by rw [z, hlk] at hD1; cases hD1
            have fa : F' a = none := g.keepNone hlk nf
            obtain ⟨us, hu, ru⟩ := w
            refine ⟨ea', k D1 F' _ ⟨g.f, ⟨fun b u z n => ?_, fun P hm C hC t => ?_, fun b z => ?_, fun P ps z => ?_⟩, fun b u z => ?_, fun p x y => ?_, fun p ps x => ?_, fun p ps x => g.v p ps x⟩ (by rwa [upd_ne nD] at hD1) hf ⟨us, by rw [upd_ne nD]; exact hu, ru⟩⟩
            · by_cases hb : b = a
              · subst hb
                rw [upd_same]
                rw [ho] at z
                exact z
              · rw [upd_ne hb]
                exact g.k.o b u (by rw [upd_ne hb]; exact z) n
            · have nP : P ≠ a := fun z => by
                obtain ⟨ps, e, _⟩ := t
                rw [z, ho] at e
                cases e
              refine (g.k.t P hm C (fun c h => hC c ?_) (t.of fun ps e => by rw [upd_ne nP]; exact e)).of fun ps e => by rw [upd_ne nP]; exact e
              rw [upd_ne (fun z => by rw [z, ea'] at h; unfold LamX.CodeO at h; cases h)]
              exact h
            · by_cases hb : b = a
              · rw [hb, upd_same] at z
                cases z
              · rw [upd_ne hb] at z
                have := g.k.f b z
                rwa [upd_ne hb] at this
            · by_cases hb : P = a
              · rw [hb, upd_same] at z
                cases z
              · rw [upd_ne hb] at z
                have := g.k.b P ps z
                rwa [upd_ne hb] at this
            · rw [upd_ne (ne_of_none z fa)]
              exact g.s b u z
            · have := g.n p x y
              by_cases hp : p = a
              · subst hp
                rw [hlk] at this
                cases this
              · rwa [upd_ne hp] at this
            · have := g.w p ps x
              by_cases hp : p = a
              · subst hp
                rw [fa] at x
                cases x
              · rwa [upd_ne hp] at this
          refine ⟨fun k m H2 => m = kvs.length - k ∧ k ≤ kvs.length ∧ ∃ F2 acc accd, Hold K cl F (upd H a (.frz od (.dK ws))) F2 H2 (L2.wipe σ vs) (noOwn (wipeE ρ vs)) ∧ F2 D0 = none ∧ H2 D0 = some (.lst acc) ∧ Reps K cl F2 acc accd ∧
            lcL d t e (noOwn (wipeE ρ vs)) (ks.drop k) accd (fun r => ∀ p F' H', Gr F H F' H' → H p = none → F' p = none → Own K cl F' H' p (.lst r) → Q (.ref p) H'),
            ⟨kvs.length, by simp, Nat.zero_le _, F, [], [], h1.list (fun i d => noOwn_o i d) hF1 hD0 (.free hD0), hF1, upd_same, .nil, q⟩, ?_⟩
          rintro k m H2 ⟨rfl, hk, F2, acc, accd, h2, hF2, hD2, ra, q2⟩
          have lk := h2.g.k.get hlk
          by_cases hlt : k < kvs.length
          · have hlt' : k < ks.length := by rw [lks]; exact hlt
            have ed : ks.drop k = ks[k] :: ks.drop (k + 1) := List.drop_eq_getElem_cons hlt'
            rw [ed] at q2
            refine .inr ⟨⟨lk, by omega⟩, fun H' => ∃ F3 acc accd, Hold K cl F (upd H a (.frz od (.dK ws))) F3 H' (L2.wipe σ vs) (noOwn (wipeE ρ vs)) ∧ F3 D0 = none ∧ H' D0 = some (.lst acc) ∧ Reps K cl F3 acc accd ∧
              lcL d t e (noOwn (wipeE ρ vs)) (ks.drop (k + 1)) accd (fun r => ∀ p F' H', Gr F H F' H' → H p = none → F' p = none → Own K cl F' H' p (.lst r) → Q (.ref p) H'), fun H' ⟨F', a', ad', x1, x2, x3, x4, x5⟩ => ⟨kvs.length - (k + 1), by omega, rfl, hlt, F', a', ad', x1, x2, x3, x4, x5⟩, ?_⟩
            rintro x H3 ⟨rfl, kk, vv, hkk, rfl⟩
            have rx : Rep K cl F2 (kV kk) ks[k] := by
              obtain ⟨v, e1, rv⟩ := rk.get (List.getElem?_eq_getElem hlt')
              rw [List.getElem?_map, hkk] at e1
              cases e1
              exact rv.mono h2.g.f
            have q2' := hn.k _ _ _ (fun i d => noOwn_o i d) q2
            refine hg.ok F _ F2 H3 _ _ (kV kk) _ _ h2 rx (hg.mono _ _ _ _ (fun ρ4 q4 σ4 h4 ag => ?_) q2')
            obtain ⟨no4, q4⟩ := q4
            refine ⟨(wipe_same ag hjs).trans ?_, ?_⟩
            · exact wipe_same (vs := vs) (js := vs) (σ := σ) (σ' := L2.wipe σ vs) ⟨wipe_length _ _, fun i hi => wipe_out hi⟩ (fun j hj => hj)
            refine ht.ok F _ F2 H3 σ4 ρ4 noE _ h4 leN (ht.mono noE ρ4 _ _ (fun kb q F4 H4 g4 => ?_) q4)
            have h4' := h2.grow g4
            have n4 : F4 D0 = none := g4.keepNone hD2 hF2
            have e4 : H4 D0 = some (.lst acc) := g4.k.get hD2
            cases kb with
            | false => exact ⟨F4, acc, accd, h4', n4, e4, ra.mono g4.f, q⟩
            | true =>
              refine he.ok F _ F4 H4 σ4 ρ4 noE _ (h4.grow g4) leN (he.mono noE ρ4 _ _ (fun y q v F5 H5 g5 r5 => ?_) q)
              have n5 : F5 D0 = none := g5.keepNone e4 n4
              have e5 : H5 D0 = some (.lst acc) := g5.k.get e4
              refine ⟨acc, e5, by rw [ra.length, ← line_eq]; exact q.1, F5, acc ++ [v], accd ++ [y], (h4'.grow g5).list (fun i d => noOwn_o i d) n5 hD0 (.at e5), n5, upd_same, ((ra.mono g4.f).mono g5.f).append (.cons r5 .nil), q.2⟩
          · have e : k = kvs.length := by omega
            subst e
            rw [List.drop_of_length_le (by rw [lks]; exact Nat.le_refl _)] at q2
            exact .inl ⟨⟨lk, by omega⟩, fin accd F2 H2 D0 h2.g hD0 hF2 ⟨acc, hD2, ra⟩ q2⟩
        | _ => exact q.elim
end
section
variable {X : Cx} {K : Fg} {cl : Cl} {W : WX} {pos : Pos}
theorem vn_lcK {i : Nat} {x : Str} {px : Pos} {js : List Nat} {elt tg : Expr} {ifs : List Expr} {scope : Scope} {own : List (Str × Nat)} {vs : List Nat} {g : TG} {d : DG} {tt : TT} {t : DB} {te : TE} {e : DT} (hc : X.calm = true) (hN : X.N.Nodup) (ok : BlkOk X.N X.env.scope scope own)
    (hg : ∀ (s : Shared) (H : Hp) (C : Addr) (l : List (Str × Addr)) (fp : List Addr), VT (X.blk s H scope (compEnvC scope l C X.env) fp) K cl js tg g d) (ht : ∀ (s : Shared) (H : Hp) (C : Addr) (l : List (Str × Addr)) (fp : List Addr), VP (X.blk s H scope (compEnvC scope l C X.env) fp) K cl WF ifs tt t)
    (he : ∀ (s : Shared) (H : Hp) (C : Addr) (l : List (Str × Addr)) (fp : List Addr), VE (X.blk s H scope (compEnvC scope l C X.env) fp) K cl WF elt te e) (hi : X.N[i]? = some x := by rfl) (hv : Vis X.env.scope x := by first | exact Or.inl rfl | exact Or.inr (Or.inl rfl) | exact Or.inr (Or.inr rfl)) (hdb : (x == ("__debug__" : Str)) = false := by decide)
    (hcd : (x == ("__classdict__" : Str)) = false := by decide) (hvs : own.map (·.2) = vs := by rfl) (hjs : ∀ j ∈ js, j ∈ own.map (·.2) := by decide) (hs : ∀ y, foldedSetIterable (.Name x px) X.env y = pure y := by intro _; rfl) (hK : X.K = K := by rfl) :
    VN X K cl W (.ListComp elt [⟨tg, .Name x px, ifs, 0⟩] scope pos) (tLockE (tLc (iKeys (tVar i)) g tt te vs)) (dLc (iKeyO i) d t e vs) := by
  obtain rfl := hK
  exact hvs ▸ ⟨pe_lock (pe_lc hc hN (pi_keys (pe_var hi hv hdb hcd)) ok (fun s H C l fp => (hg s H C l fp).pe) (fun s H C l fp => (ht s H C l fp).pe) (fun s H C l fp => (he s H C l fp).pe) hs),
    rfn_lcK (hg X.s_0 X.H_0 0 [] []).rf (hg X.s_0 X.H_0 0 [] []).no hjs (ht X.s_0 X.H_0 0 [] []).rf (he X.s_0 X.H_0 0 [] []).rf, rfl⟩
end
end DL

/-! DMeth: methods of built-in values that leave what they are asked of as it is. -/
namespace DL
open PySem L2 PyProof.Rows
variable [TN]
/-- [x] + xs -/
def rCons (r : V → List V → Hp → VK → Prop) : List V → Hp → VK → Prop := fun vs H Q => ∃ x xs, vs = x :: xs ∧ r x xs H Q
section
variable {K : Fg} {cl : Cl} {W : WX}
theorem rCons_out {r : V → List V → Hp → VK → Prop} {x : V} {xs : List V} {H : Hp} {Q : VK} (h : rCons r (x :: xs) H Q) : r x xs H Q := by
  obtain ⟨y, ys, e, q⟩ := h
  injection e with e1 e2
  subst e1 e2
  exact q
theorem tyD_V {F H : Hp} {T : String} {v : V} {d : D} (s : Same F H) (r : Rep K cl F v d) (h : tyD T d) : tyV K T v H := by
  cases r with
  | str z => exact h
  | lst e rr => exact .inl ⟨h, _, SqL.of (s _ _ e)⟩
  | _ => exact h.elim
theorem rfe_mt {T : String} {r : V → List V → Hp → VK → Prop} {f : List D → DK → Prop} {ta : TE} {tr : TA} {p : DT} {q : DA} (o : RfC K cl (rCons r) f) (hp : RfE K cl W ta p) (hr : RfA K cl W tr q) : RfE K cl W (tBM K T r ta tr) (dMt T f p q) where
  mono2 := fun E E' ρ P P' hE h q => hp.mono2 E E' ρ _ _ hE (fun x q => ⟨q.1, hr.mono2 E E' ρ _ _ hE (fun xs q => o.mono _ P P' h q) q.2⟩) q
  ok := fun F0 H0 F H σ ρ E Q hh le q => by
    refine hp.ok F0 H0 F H σ ρ E _ hh le (hp.mono E ρ _ _ (fun x q v F1 H1 g1 r1 => ?_) q)
    refine ⟨tyD_V g1.s r1 q.1, ?_⟩
    refine hr.ok F0 H0 F1 H1 σ ρ E _ (hh.grow g1) le (hr.mono E ρ _ _ (fun y q u F2 H2 g2 r2 => ?_) q.2)
    refine rCons_out (o.ok F2 H2 (v :: u) (x :: y) Q g2.s (.cons (r1.mono g2.f) r2) (o.mono _ _ _ (fun d q v' F' H' g3 r3 => ?_) q))
    exact q v' F' H' ((g1.trans g2).trans g3) r3
theorem rfe_mt0 {T : String} {r : V → List V → Hp → VK → Prop} {f : List D → DK → Prop} {ta : TE} {p : DT} (o : RfC K cl (rCons r) f) (hp : RfE K cl W ta p) : RfE K cl W (tBM0 K T r ta) (dMt T f p aNil) where
  mono2 := fun E E' ρ P P' hE h q => hp.mono2 E E' ρ _ _ hE (fun x q => ⟨q.1, o.mono _ P P' h q.2⟩) q
  ok := fun F0 H0 F H σ ρ E Q hh le q => by
    refine hp.ok F0 H0 F H σ ρ E _ hh le (hp.mono E ρ _ _ (fun x q v F1 H1 g1 r1 => ?_) q)
    refine ⟨tyD_V g1.s r1 q.1, ?_⟩
    refine rCons_out (o.ok F1 H1 [v] [x] Q g1.s (.cons r1 .nil) (o.mono _ _ _ (fun d q v' F' H' g3 r3 => ?_) q.2))
    exact q v' F' H' (g1.trans g3) r3
theorem Reps.get2 {F : Hp} : ∀ {vs : List V} {ds : List D} {j : Nat} {d : D}, Reps K cl F vs ds → ds[j]? = some d → ∃ v, vs[j]? = some v ∧ Rep K cl F v d
  | _, _, 0, d, .cons r _, e => ⟨_, rfl, by simp at e; exact e ▸ r⟩
  | _, _, j + 1, d, .cons _ rr, e => by
    simp at e
    obtain ⟨v, h1, h2⟩ := rr.get2 e
    exact ⟨v, by simpa using h1, h2⟩
theorem Reps.getV {F : Hp} : ∀ {vs : List V} {ds : List D} {j : Nat} {v : V}, Reps K cl F vs ds → vs[j]? = some v → ∃ d, ds[j]? = some d ∧ Rep K cl F v d
  | _, _, 0, d, .cons r _, e => ⟨_, rfl, by simp at e; exact e ▸ r⟩
  | _, _, j + 1, d, .cons _ rr, e => by
    simp at e
    obtain ⟨v, h1, h2⟩ := rr.getV e
    exact ⟨v, by simpa using h1, h2⟩
theorem all_get {xs : List D} {j : Nat} {z : D} (h : xs.all isFlat = true) (e : xs[j]? = some z) : isFlat z = true := List.all_eq_true.mp h z (List.mem_of_getElem? e)
theorem rf_index : RfC K cl (rCons (rIndex K)) fIndex where
  mono := fun x P P' h q => by
    match x, q with
    | [.lst l, y], ⟨q1, q2, j, q3, q4, q5⟩ => exact ⟨q1, q2, j, q3, q4, h _ q5⟩
  ok := fun F H v x Q s r q => by
    match x, q, r with
    | [.lst l, y], ⟨q1, q2, j, ⟨z, q3, q3'⟩, q4, q5⟩, .cons (.lst e rr) (.cons rb .nil) =>
      obtain ⟨vz, g1, g2⟩ := rr.get2 q3
      refine ⟨_, _, rfl, _, _, _, j, vz, rfl, rfl, SqL.of (s _ _ e), rb.flat1 q1, rr.flat q2, g1, ?_, fun m z' hm hz => ?_, q5 _ F H (Gr.refl s) (.int _)⟩
      · rw [eqV_D g2 rb (all_get q2 q3) q1]
        exact q3'
      · obtain ⟨d, h1, h2⟩ := rr.getV hz
        rw [eqV_D h2 rb (all_get q2 h1) q1]
        exact q4 m d hm h1
/-! texts -/
theorem strs_reps {F : Hp} : ∀ {ds : List D} {ys : List Str} {vs : List V}, strsOf ds = some ys → Reps K cl F vs ds → vs = ys.map V.str
  | [], ys, vs, h, r => by
    cases r
    cases h
    rfl
  | .str x :: ds, ys, vs, h, r => by
    unfold strsOf at h
    cases e : strsOf ds with
    | none => rw [e] at h; cases h
    | some zs =>
      rw [e] at h
      cases h
      cases r with
      | cons hx rr =>
        cases hx
        rw [strs_reps e rr]
        rfl
  | .non :: _, _, _, h, _ => by cases h
  | .bl _ :: _, _, _, h, _ => by cases h
  | .int _ :: _, _, _, h, _ => by cases h
  | .tup _ :: _, _, _, h, _ => by cases h
  | .lst _ :: _, _, _, h, _ => by cases h
  | .dk _ :: _, _, _, h, _ => by cases h
  | .ins _ _ :: _, _, _, h, _ => by cases h
  | .scr _ :: _, _, _, h, _ => by cases h
  | .st :: _, _, _, h, _ => by cases h
theorem rf_s2b {g : Str → Str → Bool} : RfC K cl (rCons fun x xs H Q => ∃ a b, x = .str a ∧ xs = [.str b] ∧ Q (.bl (g a b)) H) (fS2 fun a b => .bl (g a b)) where
  mono := fun x P P' h q => by
    match x, q with
    | [.str a, .str b], q => exact h _ q
  ok := fun F H v x Q s r q => by
    match x, q, r with
    | [.str a, .str b], q, .cons (.str _) (.cons (.str _) .nil) => exact ⟨_, _, rfl, a, b, rfl, rfl, q _ F H (Gr.refl s) (.bl _)⟩
theorem rf_s2i {g : Str → Str → Int} : RfC K cl (rCons fun x xs H Q => ∃ a b, x = .str a ∧ xs = [.str b] ∧ Q (.int (g a b)) H) (fS2 fun a b => .int (g a b)) where
  mono := fun x P P' h q => by
    match x, q with
    | [.str a, .str b], q => exact h _ q
  ok := fun F H v x Q s r q => by
    match x, q, r with
    | [.str a, .str b], q, .cons (.str _) (.cons (.str _) .nil) => exact ⟨_, _, rfl, a, b, rfl, rfl, q _ F H (Gr.refl s) (.int _)⟩
theorem rf_s1b {C : Str → Prop} {g : Str → Bool} : RfC K cl (rCons fun x xs H Q => ∃ a, x = .str a ∧ xs = [] ∧ C a ∧ Q (.bl (g a)) H) (fS1 C fun a => .bl (g a)) where
  mono := fun x P P' h q => by
    match x, q with
    | [.str a], q => exact ⟨q.1, h _ q.2⟩
  ok := fun F H v x Q s r q => by
    match x, q, r with
    | [.str a], q, .cons (.str _) .nil => exact ⟨_, _, rfl, a, rfl, rfl, q.1, q.2 _ F H (Gr.refl s) (.bl _)⟩
theorem rf_s1s {C : Str → Prop} {g : Str → Str} : RfC K cl (rCons fun x xs H Q => ∃ a, x = .str a ∧ xs = [] ∧ C a ∧ Q (.str (g a)) H) (fS1 C fun a => .str (g a)) where
  mono := fun x P P' h q => by
    match x, q with
    | [.str a], q => exact ⟨q.1, h _ q.2⟩
  ok := fun F H v x Q s r q => by
    match x, q, r with
    | [.str a], q, .cons (.str _) .nil => exact ⟨_, _, rfl, a, rfl, rfl, q.1, q.2 _ F H (Gr.refl s) (.str _)⟩
theorem rf_split : RfC K cl (rCons fun x xs H Q => ∃ a b, x = .str a ∧ xs = [.str b] ∧ (b.length == 0) = false ∧ a.length + 2 ≤ sizeLine ∧ rNewStrs (Txt.split a b) H Q) fSplit where
  mono := fun x P P' h q => by
    match x, q with
    | [.str a, .str b], q => exact ⟨q.1, q.2.1, h _ q.2.2⟩
  ok := fun F H v x Q s r q => by
    match x, q, r with
    | [.str a, .str b], q, .cons (.str _) (.cons (.str _) .nil) =>
      exact ⟨_, _, rfl, a, b, rfl, rfl, q.1, q.2.1, fun p hp => q.2.2 _ (upd F p _) _ (Gr.new s hp) (.lst upd_same (reps_strs))⟩
theorem rf_join : RfC K cl (rCons fun x xs H Q => ∃ a p, ∃ ys : List Str, x = .str a ∧ xs = [.ref p] ∧ (SqL K H p (ys.map V.str) ∨ SqT K H p (ys.map V.str)) ∧ (ys.map (·.length)).sum + ys.length * a.length ≤ 16777216 ∧ Q (.str (Txt.join a ys)) H) fJoin where
  mono := fun x P P' h q => by
    match x, q with
    | [.str a, .lst l], q =>
      simp only [fJoin] at q ⊢
      cases e : strsOf l with
      | none => rw [e] at q; exact q.elim
      | some ys => rw [e] at q; exact ⟨q.1, h _ q.2⟩
  ok := fun F H v x Q s r q => by
    match x, q, r with
    | [.str a, .lst l], q, .cons (.str _) (.cons (.lst e rr) .nil) =>
      simp only [fJoin] at q
      cases e1 : strsOf l with
      | none => rw [e1] at q; exact q.elim
      | some ys =>
        rw [e1] at q
        have ev := strs_reps e1 rr
        subst ev
        exact ⟨_, _, rfl, a, _, ys, rfl, rfl, .inl (SqL.of (s _ _ e)), q.1, q.2 _ F H (Gr.refl s) (.str _)⟩
end
/-! the rows -/
section
variable {X : Cx} {K : Fg} {cl : Cl} {W : WX} {pos : Pos}
theorem ve_mt {T id : String} {m : Str} {r : V → List V → Hp → VK → Prop} {f : List D → DK → Prop} {o e : Expr} {es : List Expr} {to : TE} {t : TA} {p : DT} {q : DA} {apos : Pos}
    (pa : PlainAttrs T) (slot : Slot T m id) (hty : typeOf (.builtin id) = pure (.type "method_descriptor")) (hm : MtR X id r) (rf : RfC X.K cl (rCons r) f) (ho : VE X K cl W o to p) (ha : VA X K cl W (e :: es) t q)
    (hbase : attributeBase o m X.env (eval o X.env) = eval o X.env := by rfl)
    (hfew : ((backTo pos (starEach (e :: es) X.env)).all (fun x => !x.1) && (backToKw pos (keywordEach [] X.env)).all (fun x => x.1.isSome)
      && decide ((e :: es).length + ([] : List Keyword).length + (if ([] : List Keyword).isEmpty then 0 else 1) < 30)) = true := by rfl)
    (hline : (apos.endLine == pos.line) = true := by rfl) (hs : starEach (e :: es) X.env = (false, eval e X.env) :: starEach es X.env := by rfl) (hplain : (backTo pos (starEach es X.env)).any (·.1) = false := by rfl) :
    VE X K cl W (.Call (.Attribute o m apos) (e :: es) [] pos) (tBM K T r to t) (dMt T f p q) := by
  obtain rfl := ho.hK
  exact ⟨pe_bm pa slot hty hm ho.pe ha.pe hbase hfew hline hs hplain, rfe_mt rf ho.rf ha.rf, rfl⟩
theorem ve_mt0 {T id : String} {m : Str} {r : V → List V → Hp → VK → Prop} {f : List D → DK → Prop} {o : Expr} {to : TE} {p : DT} {apos : Pos}
    (pa : PlainAttrs T) (slot : Slot T m id) (hty : typeOf (.builtin id) = pure (.type "method_descriptor")) (hm : MtR X id r) (rf : RfC X.K cl (rCons r) f) (ho : VE X K cl W o to p)
    (hbase : attributeBase o m X.env (eval o X.env) = eval o X.env := by rfl) (hline : (apos.endLine == pos.line) = true := by rfl) :
    VE X K cl W (.Call (.Attribute o m apos) [] [] pos) (tBM0 K T r to) (dMt T f p aNil) := by
  obtain rfl := ho.hK
  exact ⟨pe_bm0 pa slot hty hm ho.pe hbase hline, rfe_mt0 rf ho.rf, rfl⟩
end
end DL

/-! DRev: xs[::-1] of tuples and lists. -/
namespace DL
open PySem L2 PyProof.Rows HT
variable [TN]
section
variable {prog : Program} {w : World} {A : Around} {E : Value → Shared → Prop} {s : Shared}
theorem applied_rev {sl : Addr} {vs : Value} {n : Nat} {Q : Int × Int × Nat → Shared → Prop} (hs : s.heap.IsSliceOf sl .none .none vs) (ps : IsPart vs (some (-1)))
    (h : Q ((n : Int) - 1, -1, n) s) : wpAny (model prog w) A (Builtin.Slice.sliceApplied (.ref sl) (pure (n : Int))) Q E s := by
  obtain ⟨os, hos, hcs, hds⟩ := id hs
  unfold Builtin.Slice.sliceApplied
  unfold Builtin.Slice.sliceFields
  refine wpAny_bind (wpAny_bind (wpAny_field hos hds (x := Value.none) rfl (wpAny_bind ?_)))
  refine wpAny_field hos hds (x := Value.none) rfl (wpAny_bind ?_)
  refine wpAny_field hos hds (x := vs) rfl (wpAny_pure ?_)
  refine wpAny_bind (slicePart_ ps ?_)
  have e1 : Builtin.Slice.sliceAdjust none none (-1) (n : Int) = ((n : Int) - 1, -1) := rfl
  have e2 : Builtin.Slice.slicePlaces ((n : Int) - 1) (-1) (-1) = n := by
    unfold Builtin.Slice.slicePlaces
    rw [if_neg (by decide)]
    by_cases c : (n : Int) - 1 > -1
    · rw [if_pos c, show (-(-1) : Int) = 1 from rfl, Int.ediv_one]
      omega
    · rw [if_neg c]
      simp
      omega
  show wpAny _ _ (do
    let a ← Builtin.Slice.slicePartIndex Value.none
    let b ← Builtin.Slice.slicePartIndex Value.none
    let c ← pure (n : Int)
    match Builtin.Slice.sliceAdjust a b (-1) c with
      | (lo, hi) => pure (lo, (-1 : Int), Builtin.Slice.slicePlaces lo hi (-1))) Q E s
  refine wpAny_bind (slicePart_none (wpAny_bind (slicePart_none (wpAny_bind (wpAny_pure ?_)))))
  rw [e1]
  show wpAny _ _ (pure ((n : Int) - 1, (-1 : Int), Builtin.Slice.slicePlaces ((n : Int) - 1) (-1) (-1))) Q E s
  rw [e2]
  exact wpAny_pure h
theorem pick_rev (xs : Array Value) : ((List.range xs.size).filterMap fun m : Nat => xs[((xs.size : Int) - 1 + (m : Int) * -1).toNat]?).toArray = xs.toList.reverse.toArray := by
  congr 1
  have e : ∀ m, m ∈ List.range xs.size → xs[((xs.size : Int) - 1 + (m : Int) * -1).toNat]? = xs.toList.reverse[m]? := fun m hm => by
    have hm := List.mem_range.mp hm
    have z : ((xs.size : Int) - 1 + (m : Int) * -1).toNat = xs.size - 1 - m := by omega
    rw [z, List.getElem?_reverse (by simpa using hm)]
    simp
  have fc : ∀ (l : List Nat) (f g : Nat → Option Value), (∀ m, m ∈ l → f m = g m) → l.filterMap f = l.filterMap g := by
    intro l f g
    induction l with
    | nil => intro _; rfl
    | cons x l ih => intro z; rw [List.filterMap_cons, List.filterMap_cons, z x List.mem_cons_self, ih fun m hm => z m (List.mem_cons_of_mem _ hm)]
  rw [fc _ _ _ e]
  have : xs.size = xs.toList.reverse.length := by simp
  rw [this]
  generalize xs.toList.reverse = l
  clear e fc
  induction l with
  | nil => rfl
  | cons x l ih =>
    rw [List.length_cons, List.range_succ_eq_map, List.filterMap_cons]
    simp
    exact ih
theorem getItem_tup_rev {t sl : Addr} {items : Array Value} {vs : Value} {Q : Value → Shared → Prop} (ht : IsTup s.heap t items) (hs : s.heap.IsSliceOf sl .none .none vs) (ps : IsPart vs (some (-1)))
    (h : Q (.ref s.heap.objs.size) { s with heap := s.heap.push { cls := .type "tuple", data := .seq items.toList.reverse.toArray } }) (hsz : items.size ≤ sizeLine) : wpAny (model prog w) A (getItem (.ref t) (.ref sl)) Q E s := by
  have fits : sizeOk (.seq items.toList.reverse.toArray) := by
    show items.toList.reverse.toArray.size ≤ sizeLine
    simpa using hsz
  obtain ⟨os, hos, hcs, hds⟩ := id hs
  have isS : s.TypeIs (.ref sl) "slice" := ⟨os, hos, hcs⟩
  unfold getItem
  try with_reducible refine wpAny_holding ?_
  first | refine wpAny_bind (wpAny_pure ?_) | skip
  refine wpAny_bind (wpAny_sequenceKey ht.typeIs (by decide) (wpAny_bind ?_))
  refine wpAny_callSpecial?_slot (name := Str.ofString "__getitem__") ht.typeIs PyProof.Rows.slot_tuple_getitem (wpAny_call_entry PyProof.Rows.slot_tuple_getitem ht.typeIs entry_tuple_getitem ?_ (args_tuple_getitem _ _))
  show wpAny _ _ (Builtin.Tuple.tupleItemsOf (.ref t) >>= _) _ _ s
  refine wpAny_bind (tupleItemsOf_ ht (wpAny_bind (wpAny_typeOf isS ?_)))
  rw [if_pos (by decide)]
  refine wpAny_bind (applied_rev hs ps ?_)
  have no : ¬ (((items.size : Int) - 1 == 0 && (-1 : Int) == 1 && items.size == items.size) = true) := by
    rw [show ((-1 : Int) == 1) = false from rfl, Bool.and_false, Bool.false_and]
    exact Bool.false_ne_true
  show wpAny _ _ (@ite _ (((items.size : Int) - 1 == 0 && (-1 : Int) == 1 && items.size == items.size) = true) _ _ _) _ _ s
  rw [if_neg no]
  have pr := pick_rev items
  refine wpAny_bind ?_
  show wpAny _ _ (Builtin.Tuple.tupleExact _) _ _ s
  rw [pr]
  first
    | exact wpAny_newObj_type (wpAny_pure ⟨_, rfl, wpAny_pure h⟩) fits
    | exact wpAny_newObj_type (wpAny_bind (wpAny_pure (wpAny_pure ⟨_, rfl, wpAny_pure h⟩))) fits
end
/-- xs[::-1] -/
def tRevT (K : Fg) (te : TE) : TE := fun σ H Q => te σ H fun x H1 => ∃ a xs, x = .ref a ∧ ((SqL K H1 a xs ∧ ∀ p, H1 p = none → Q (.ref p) (upd H1 p (.lst xs.reverse))) ∨ (SqT K H1 a xs ∧ ∀ p, H1 p = none → Q (.ref p) (upd H1 p (.tup xs.reverse))))
section
variable {X : Cx} {K : Fg} {cl : Cl} {W : WX}
theorem pe_rev {e : Expr} {te : TE} {k : Nat} {p1 p2 p3 pos : Pos} (he : PE X e te) : PE X (.Subscript e (.Slice none none (some (.UnaryOp .USub (.Constant (.int 1) k p1) p2)) p3) pos) (tRevT X.K te) := by
  refine ⟨fun pins s σ H Q I h => ?_⟩
  refine Subscript_ (thn (he.run pins s σ H _ I h) fun v s1 ⟨x, H1, I1, r1, q1⟩ => ?_)
  obtain ⟨a, xs, ex, q⟩ := q1
  subst ex
  cases r1
  have st : PO X (some (.UnaryOp .USub (.Constant (.int 1) k p1) p2)) (tPart (tUn (rU fun i => .int (-i)) (tC (.int 1)))) := po_some (pe_un un_neg pe_int)
  refine wpAny_Slice (thn (po_none.run pins s1 σ H1 (fun o H2 => o = none ∧ H2 = H1) I1 ⟨rfl, rfl⟩) fun v1 s2 ⟨l, H2, I2, pl, el, e2⟩ => ?_)
  subst el e2
  refine thn (po_none.run pins s2 σ H2 (fun o H3 => o = none ∧ H3 = H2) I2 ⟨rfl, rfl⟩) fun v2 s3 ⟨u, H3, I3, pu, eu, e3⟩ => ?_
  subst eu e3
  refine thn (st.run pins s3 σ H3 (fun o H4 => o = some (-1) ∧ H4 = H3) I3 ⟨1, rfl, -1, rfl, rfl, rfl⟩) fun v3 s4 ⟨o, H4, I4, ps, eo, e4⟩ => ?_
  subst eo e4
  cases pl
  cases pu
  have I5 : Inv X pins σ H4 { s4 with heap := s4.heap.push { cls := .type "slice", data := .fields #[.none, .none, v3] } } := I4.kept (t' := s4.toks) fun b ob q => Heap.get?_push_of_some _ q
  rcases q with ⟨hx, q⟩ | ⟨hx, q⟩
  · obtain ⟨its, r, ht, hz⟩ := I5.list hx
    refine tail_any (ops := [.ref a, .ref s4.heap.objs.size]) ht.isList.typeIs (PySem.slot_list_getitem.lookup) ?_ (by with_unfolding_all rfl)
    refine wpAny_getItem_list_slice ht.isList (Heap.IsSliceOf.new _ _ _ v3) .none .none ps (by decide) ?_ (by have := r.length; rw [List.size_toArray]; omega)
    rw [PySem.W.krv_pick]
    refine ⟨.ref _, _, I5.laid (t' := s4.toks) (o := .lst xs.reverse) (fun b ob q => Heap.get?_push_of_some _ q) (Nat.le_refl _) ?_, rfl, q _ (I5.hok.fresh (Nat.le_refl _))⟩
    exact ⟨by rw [List.length_reverse]; exact hz, _, 0, r.reverse, Heap.get?_push_size _ rfl⟩
  · obtain ⟨its, r, ht, hz⟩ := I5.tuple hx
    refine tail_any (ops := [.ref a, .ref s4.heap.objs.size]) ht.typeIs (PyProof.Rows.slot_tuple_getitem.lookup) ?_ (by with_unfolding_all rfl)
    refine getItem_tup_rev ht (Heap.IsSliceOf.new _ _ _ v3) ps ?_ (by have := r.length; rw [List.size_toArray]; omega)
    refine ⟨.ref _, _, I5.laid (t' := s4.toks) (o := .tup xs.reverse) (fun b ob q => Heap.get?_push_of_some _ q) (Nat.le_refl _) ?_, rfl, q _ (I5.hok.fresh (Nat.le_refl _))⟩
    exact ⟨by rw [List.length_reverse]; exact hz, _, r.reverse, ⟨_, Heap.get?_push_size _ rfl, rfl, 0, rfl⟩⟩
theorem rfe_rev {te : TE} {t : DT} (h : RfE K cl W te t) : RfE K cl W (tRevT K te) (dRev t) where
  mono2 := fun E E' ρ P P' hE l q => h.mono2 E E' ρ _ _ hE (fun x q => by cases x <;> first | exact l _ q | exact q.elim) q
  ok := fun F0 H0 F H σ ρ E Q hh le q => by
    refine h.ok F0 H0 F H σ ρ E _ hh le (h.mono E ρ _ _ (fun x q v F1 H1 g1 r1 => ?_) q)
    cases r1 with
    | lst e rr => exact ⟨_, _, rfl, .inl ⟨SqL.of (g1.s _ _ e), fun p hp => q _ (upd F1 p (.lst _)) _ (g1.trans (Gr.new g1.s hp)) (.lst upd_same (rr.rev.mono (same_upd (g1.s.free hp))))⟩⟩
    | tup e rr => exact ⟨_, _, rfl, .inr ⟨same_t g1.s e, fun p hp => q _ (upd F1 p (.tup _)) _ (g1.trans (Gr.new g1.s hp)) (.tup (SqT.of upd_same) (rr.rev.mono (same_upd (g1.s.free hp))))⟩⟩
    | _ => exact q.elim
theorem ve_rev {e : Expr} {te : TE} {t : DT} {k : Nat} {p1 p2 p3 pos : Pos} (h : VE X K cl W e te t) : VE X K cl W (.Subscript e (.Slice none none (some (.UnaryOp .USub (.Constant (.int 1) k p1) p2)) p3) pos) (tRevT K te) (dRev t) := by
  obtain rfl := h.hK
  exact ⟨pe_rev h.pe, rfe_rev h.rf, rfl⟩
end
end DL

/-! DDc: dict comprehensions. -/
namespace DL
open PySem L2 PyProof.Rows
variable [TN]
section
variable {K : Fg} {cl : Cl} {W : WX}
theorem dcL_mono {tg : TG} {js : List Nat} {g : DG} {tt : TT} {t : DB} {tk tv : TE} {k e : DT} (hg : RfG K cl js tg g) (ht : RfB K cl (fun _ _ _ _ => False) tt t) (hk : RfE K cl (fun _ _ _ _ => False) tk k) (he : RfE K cl (fun _ _ _ _ => False) tv e) :
    ∀ (xs : List D) (ρ : DL.Env) (acc : List (DL.Key × D)) (Q Q' : List (DL.Key × D) → Prop), (∀ r, Q r → Q' r) → dcL g t k e ρ xs acc Q → dcL g t k e ρ xs acc Q'
  | [], ρ, acc, Q, Q', hQ, q => hQ _ q
  | x :: r, ρ, acc, Q, Q', hQ, q => hg.mono x ρ _ _ (fun ρ' q => ht.mono noE ρ' _ _ (fun b q => by
      cases b with
      | true =>
        refine hk.mono noE ρ' _ _ (fun y q => he.mono noE ρ' _ _ (fun z q => ?_) q) q
        obtain ⟨j, rfl, q1, q2⟩ := gK_out q
        exact gK_in ⟨q1, dcL_mono hg ht hk he r ρ _ Q Q' hQ q2⟩
      | false => exact dcL_mono hg ht hk he r ρ acc Q Q' hQ q) q) q
theorem rfn_dc {js vs : List Nat} {wi : TI} {it : DI} {g : TG} {d : DG} {tt : TT} {t : DB} {tk tv : TE} {k e : DT} (hi : RfI K cl W wi it) (hg : RfG K cl js g d) (hn : NoO d) (hjs : ∀ j ∈ js, j ∈ vs)
    (ht : RfB K cl (fun _ _ _ _ => False) tt t) (hk : RfE K cl (fun _ _ _ _ => False) tk k) (he : RfE K cl (fun _ _ _ _ => False) tv e) : RfN K cl W (tDc wi g tt tk tv vs) (dDc it d t k e vs) where
  mono2 := fun E E' ρ P P' hE h q => hi.mono2 E E' ρ _ _ hE (fun xs q => dcL_mono hg ht hk he xs _ _ _ _ (fun r q => h _ q) q) q
  ok := fun F0 H0 F H σ ρ E Q hh le q => by
    refine hi.ok F0 H0 F H σ ρ E _ hh le (hi.mono E ρ _ _ (fun xs q J F1 H1 g1 wk D0 hD => ?_) q)
    have hh1 := hh.grow g1
    have hb := hh1.wipe (vs := vs)
    have hF1 : F1 D0 = none := g1.s.free hD
    have leN : ∀ {A B : Hp}, LinkE K cl A B (fun _ _ _ _ => False) noE := fun {A B} err ρ σ F H c dx _ z _ => z.elim
    let In : Nat → Hp → Prop := fun i H => ∃ F ws acc, Hold K cl F1 H1 F H (wipe σ vs) (noOwn (wipeE ρ vs)) ∧ F D0 = none ∧ H D0 = some (.dK ws) ∧ KReps K cl F ws acc ∧
      dcL d t k e (noOwn (wipeE ρ vs)) (xs.drop i) acc (fun r => ∀ p F' H', Gr F1 H1 F' H' → H1 p = none → F' p = none → Own K cl F' H' p (.dk r) → Q (.ref p) H')
    refine ⟨fun i m H => m = xs.length - i ∧ i ≤ xs.length ∧ In i H, ⟨xs.length, by simp, Nat.zero_le _, F1, [], [], hb.list (fun i d => noOwn_o i d) hF1 hD (.free hD), hF1, upd_same, .nil, ?_⟩, ?_⟩
    · exact dcL_mono hg ht hk he _ _ _ _ _ (fun r q p F' H' g2 h1 h2 h3 => q p F' H' (g1.trans g2) (g1.k.free h1) h2 h3) q
    · rintro i m H2 ⟨rfl, hi2, F2, ws, acc, h2, hF2, hD2, ra, q2⟩
      have w2 := wk F2 H2 h2.g.f h2.g.s
      by_cases hlt : i < xs.length
      · have ed : xs.drop i = xs[i] :: xs.drop (i + 1) := List.drop_eq_getElem_cons hlt
        rw [ed] at q2
        obtain ⟨wg, wy⟩ := w2.2 i xs[i] (List.getElem?_eq_getElem hlt)
        refine .inr ⟨wg, fun H' => In (i + 1) H', fun H' z => ⟨xs.length - (i + 1), by omega, rfl, hlt, z⟩, fun x H3 hy => ?_⟩
        obtain ⟨F3, g3, r3⟩ := wy x H3 hy
        have h3 := h2.grow g3
        have n3 : F3 D0 = none := g3.keepNone hD2 hF2
        have q2' := hn.k _ _ _ (fun i d => noOwn_o i d) q2
        refine hg.ok F1 H1 F3 H3 _ _ x xs[i] _ h3 r3 (hg.mono _ _ _ _ (fun ρ4 q4 σ4 h4 ag => ?_) q2')
        obtain ⟨no4, q4⟩ := q4
        refine ⟨(wipe_same ag hjs).trans ?_, ?_⟩
        · exact wipe_same (vs := vs) (js := vs) (σ := σ) (σ' := wipe σ vs) ⟨wipe_length _ _, fun i hi => wipe_out hi⟩ (fun j hj => hj)
        refine ht.ok F1 H1 F3 H3 σ4 ρ4 noE _ h4 leN (ht.mono noE ρ4 _ _ (fun b q F4 H4 g4 => ?_) q4)
        have h4' := h3.grow g4
        have n4 : F4 D0 = none := g4.keepNone (g3.k.get hD2) n3
        have e4 : H4 D0 = some (.dK ws) := g4.k.get (g3.k.get hD2)
        cases b with
        | false => exact ⟨F4, ws, acc, h4', n4, e4, (ra.mono g3.f).mono g4.f, q⟩
        | true =>
          refine hk.ok F1 H1 F4 H4 σ4 ρ4 noE _ (h4.grow g4) leN (hk.mono noE ρ4 _ _ (fun y q v F5 H5 g5 r5 => ?_) q)
          refine he.ok F1 H1 F5 H5 σ4 ρ4 noE _ ((h4.grow g4).grow g5) leN (he.mono noE ρ4 _ _ (fun z q u F6 H6 g6 r6 => ?_) q)
          obtain ⟨j, rfl, q1, q3⟩ := gK_out q
          have n5 : F5 D0 = none := g5.keepNone e4 n4
          have e5 : H5 D0 = some (.dK ws) := g5.k.get e4
          have n6 : F6 D0 = none := g6.keepNone e5 n5
          have e6 : H6 D0 = some (.dK ws) := g6.k.get e5
          have ra6 := (((ra.mono g3.f).mono g4.f).mono g5.f).mono g6.f
          refine ⟨ws, j, rep_key r5, e6, by rw [ra6.length]; exact small_line q1, F6, _, _, ((h4'.grow g5).grow g6).list (fun i d => noOwn_o i d) n6 hD (.at e6), n6, upd_same, ra6.put j r6, q3⟩
      · have e : i = xs.length := by omega
        subst e
        rw [List.drop_length] at q2
        exact .inl ⟨w2.1, q2 D0 F2 H2 h2.g hD hF2 ⟨ws, hD2, ra⟩⟩
end
section
variable {X : Cx} {K : Fg} {cl : Cl} {W : WX} {pos : Pos}
theorem vn_dc {js : List Nat} {kx vx tg iter : Expr} {ifs : List Expr} {scope : Scope} {own : List (Str × Nat)} {vs : List Nat} {wi : TI} {it : DI} {g : TG} {d : DG} {tt : TT} {t : DB} {tk tv : TE} {k e : DT} (hc : X.calm = true) (hN : X.N.Nodup) (hi : VI X K cl W tg iter wi it) (ok : BlkOk X.N X.env.scope scope own)
    (hg : ∀ (s : Shared) (H : Hp) (C : Addr) (l : List (Str × Addr)) (fp : List Addr), VT (X.blk s H scope (compEnvC scope l C X.env) fp) K cl js tg g d) (ht : ∀ (s : Shared) (H : Hp) (C : Addr) (l : List (Str × Addr)) (fp : List Addr), VP (X.blk s H scope (compEnvC scope l C X.env) fp) K cl (fun _ _ _ _ => False) ifs tt t)
    (hk : ∀ (s : Shared) (H : Hp) (C : Addr) (l : List (Str × Addr)) (fp : List Addr), VE (X.blk s H scope (compEnvC scope l C X.env) fp) K cl (fun _ _ _ _ => False) kx tk k) (he : ∀ (s : Shared) (H : Hp) (C : Addr) (l : List (Str × Addr)) (fp : List Addr), VE (X.blk s H scope (compEnvC scope l C X.env) fp) K cl (fun _ _ _ _ => False) vx tv e)
    (hvs : own.map (·.2) = vs := by rfl) (hjs : ∀ j ∈ js, j ∈ own.map (·.2) := by decide) (hs : ∀ x, foldedSetIterable iter X.env x = pure x := by intro _; rfl) :
    VN X K cl W (.DictComp kx vx [⟨tg, iter, ifs, 0⟩] scope pos) (tDc wi g tt tk tv vs) (dDc it d t k e vs) := by
  obtain rfl := hi.hK
  exact hvs ▸ ⟨pe_dc hc hN hi.pe ok (fun s H C l fp => (hg s H C l fp).pe) (fun s H C l fp => (ht s H C l fp).pe) (fun s H C l fp => (hk s H C l fp).pe) (fun s H C l fp => (he s H C l fp).pe) hs,
    rfn_dc hi.rf (hg X.s_0 X.H_0 0 [] []).rf (hg X.s_0 X.H_0 0 [] []).no hjs (ht X.s_0 X.H_0 0 [] []).rf (hk X.s_0 X.H_0 0 [] []).rf (he X.s_0 X.H_0 0 [] []).rf, rfl⟩
end
end DL

/-! DTryE: except C as e: return what is said of e. -/
namespace DL
open PySem L2 PyProof.Rows
variable [TN]
/-- an exception's dict tells its fields -/
def XdR (K : Fg) (cl : Cl) (F : Hp) (dx : Option Addr) (e : Err) : Prop := match dx with
  | none => e.fs = []
  | some d => ∃ ws, F d = some (.xd ws) ∧ FReps K cl F ws e.fs
/-- what is said of an exception at a, told by σ[i] -/
structure RfX (K : Fg) (cl : Cl) (i : Nat) (C : Addr) (th : Addr → Value → Option Addr → TE) (R : Err → DK → Prop) : Prop where
  mono : ∀ e (P P' : DK), (∀ d, P d → P' d) → R e P → R e P'
  ok : ∀ (F H : Hp) (σ : L2.St) (a : Addr) (dx : Option Addr) (e : Err) (Q : VK), Same F H → σ[i]? = some (some (.ref a)) → XdR K cl F dx e → R e (fun y => ∀ v F' H', Gr F H F' H' → Rep K cl F' v y → Q v H') → th a (.ref C) dx σ H Q
structure RfXA (K : Fg) (cl : Cl) (i : Nat) (C : Addr) (th : Addr → Value → Option Addr → TA) (R : Err → (List D → Prop) → Prop) : Prop where
  mono : ∀ e (P P' : List D → Prop), (∀ d, P d → P' d) → R e P → R e P'
  ok : ∀ (F H : Hp) (σ : L2.St) (a : Addr) (dx : Option Addr) (e : Err) (Q : List V → Hp → Prop), Same F H → σ[i]? = some (some (.ref a)) → XdR K cl F dx e → R e (fun ys => ∀ vs F' H', Gr F H F' H' → Reps K cl F' vs ys → Q vs H') → th a (.ref C) dx σ H Q
theorem xd_grow {K : Fg} {cl : Cl} {F F' : Hp} {dx : Option Addr} {e : Err} (f : Same F F') (h : XdR K cl F dx e) : XdR K cl F' dx e := by
  cases dx with
  | none => exact h
  | some d =>
    obtain ⟨ws, h1, h2⟩ := h
    exact ⟨ws, f _ _ h1, h2.mono f⟩
section
variable {K : Fg} {cl : Cl} {i : Nat} {C : Addr}
theorem rx_fld {f : Str} : RfX K cl i C (fun a v d => tXf a v d C f (tVar i)) (xFld f) where
  mono := fun e P P' h q => by
    simp only [xFld] at q ⊢
    cases z : e.fs.lookup f with
    | none => rw [z] at q; exact q
    | some d => rw [z] at q; exact h d q
  ok := fun F H σ a dx e Q s hi hx q => by
    refine ⟨.ref a, hi, rfl, rfl, ?_⟩
    simp only [xFld] at q
    cases dx with
    | none =>
      have hx : e.fs = [] := hx
      rw [hx] at q
      exact q.elim
    | some d =>
      obtain ⟨ws, h1, h2⟩ := hx
      rcases h2.look f with ⟨z, _⟩ | ⟨v, y, z1, z2, z3⟩
      · rw [z] at q; exact q.elim
      · rw [z1] at q
        exact ⟨d, ws, v, rfl, s _ _ h1, z2, q v F H (Gr.refl s) z3⟩
theorem rx_c {x : V} {d : D} (h : ∀ F, Rep K cl F x d) : RfX K cl i C (fun _ _ _ => tC x) (xC d) where
  mono := fun e P P' h q => h _ q
  ok := fun F H σ a dx e Q s hi hx q => q x F H (Gr.refl s) (h F)
theorem rx_nil : RfXA K cl i C (fun _ _ _ => tNil) xNil where
  mono := fun e P P' h q => h _ q
  ok := fun F H σ a dx e Q s hi hx q => q [] F H (Gr.refl s) .nil
theorem rx_cons {ta : Addr → Value → Option Addr → TE} {tr : Addr → Value → Option Addr → TA} {p : Err → DK → Prop} {r : Err → (List D → Prop) → Prop} (ha : RfX K cl i C ta p) (hr : RfXA K cl i C tr r) : RfXA K cl i C (fun a v d => tCons (ta a v d) (tr a v d)) (xCons p r) where
  mono := fun e P P' h q => ha.mono e _ _ (fun x q => hr.mono e _ _ (fun xs q => h _ q) q) q
  ok := fun F H σ a dx e Q s hi hx q => by
    refine ha.ok F H σ a dx e _ s hi hx (ha.mono e _ _ (fun x q v F1 H1 g1 r1 => ?_) q)
    refine hr.ok F1 H1 σ a dx e _ g1.s hi (xd_grow g1.f hx) (hr.mono e _ _ (fun xs q vs F2 H2 g2 r2 => ?_) q)
    exact q _ F2 H2 (g1.trans g2) (.cons (r1.mono g2.f) r2)
theorem rx_tup {tr : Addr → Value → Option Addr → TA} {r : Err → (List D → Prop) → Prop} (hr : RfXA K cl i C tr r) : RfX K cl i C (fun a v d => tTup (tr a v d)) (xTup r) where
  mono := fun e P P' h q => hr.mono e _ _ (fun xs q => ⟨q.1, h _ q.2⟩) q
  ok := fun F H σ a dx e Q s hi hx q => by
    refine hr.ok F H σ a dx e _ s hi hx (hr.mono e _ _ (fun xs q vs F1 H1 g1 r1 => ?_) q)
    refine ⟨by rw [r1.length, ← line_eq]; exact q.1, fun p hp => ?_⟩
    exact q.2 _ (upd F1 p (.tup vs)) _ (g1.trans (Gr.new g1.s hp)) (.tup (SqT.of upd_same) (r1.mono (same_upd (g1.s.free hp))))
theorem rx_op {ta tb : Addr → Value → Option Addr → TE} {p q : Err → DK → Prop} {r : R2} {f : D → D → DK → Prop} (o : RfOp K cl r f) (ha : RfX K cl i C ta p) (hb : RfX K cl i C tb q) : RfX K cl i C (fun a v d => tOp r (ta a v d) (tb a v d)) (xOp f p q) where
  mono := fun e P P' h z => ha.mono e _ _ (fun x z => hb.mono e _ _ (fun y z => o.mono x y _ _ h z) z) z
  ok := fun F H σ a dx e Q s hi hx z => by
    refine ha.ok F H σ a dx e _ s hi hx (ha.mono e _ _ (fun x z v F1 H1 g1 r1 => ?_) z)
    refine hb.ok F1 H1 σ a dx e _ g1.s hi (xd_grow g1.f hx) (hb.mono e _ _ (fun y z u F2 H2 g2 r2 => ?_) z)
    exact o.ok F2 H2 v u x y Q g2.s (r1.mono g2.f) r2 (o.mono x y _ _ (fun d z w F3 H3 g3 r3 => z w F3 H3 ((g1.trans g2).trans g3) r3) z)
theorem rfs_tryE {m : String} {os : List String} {W : WX} {th : Addr → Value → Option Addr → TE} {R : Err → DK → Prop} {tb : WX → TS} {b : DS} (hC : cl.nm m = some C) (hms : PySem.W.exmOne K (.ref C) (.ref C) = some true) (hos : ∀ m ∈ os, ∀ D, cl.nm m = some D → PySem.W.exmOne K (.ref D) (.ref C) = some false) (hf : cl.fr = false)
    (hR : RfX K cl i C th R) (hb : ∀ W : WX, RfS K cl W (tb W) b) : RfS K cl W (fun D σ H => tb (wAs K (.ref C) i (fun a v d => tRet (th a v d)) W D) D σ H) (sTryE m os i R b) where
  mono2 := fun E E' A B ρ hE l q => (hb W).mono2 _ _ A B ρ (fun e ρ' q => by
    have q : if e.cls = m then i < ρ'.length ∧ R e A.rt else e.cls ∈ os ∧ E e ρ' := q
    show if e.cls = m then i < ρ'.length ∧ R e B.rt else e.cls ∈ os ∧ E' e ρ'
    split
    · rename_i h
      rw [if_pos h] at q
      exact ⟨q.1, hR.mono e _ _ l.rt q.2⟩
    · rename_i h
      rw [if_neg h] at q
      exact ⟨q.1, hE _ _ q.2⟩) l q
  ok := fun F0 H0 F H σ ρ E B A hh le ld q => by
    refine (hb _).ok F0 H0 F H σ ρ _ B A hh (fun err ρ' σ' F' H' v dx h' q re => ?_) ld q
    have q : if err.cls = m then i < ρ'.length ∧ R err B.rt else err.cls ∈ os ∧ E err ρ' := q
    obtain ⟨C', n, rfl, hx⟩ := id re
    by_cases hm : err.cls = m
    · rw [if_pos hm] at q
      obtain ⟨qi, q⟩ := q
      rw [hm, hC] at n
      cases n
      refine ⟨true, hms, fun _ a ha => ?_, fun z => by cases z⟩
      refine hR.ok F' H' _ a dx err _ h'.g.s (List.getElem?_set_self (by rw [h'.len]; exact qi)) hx (hR.mono err _ _ (fun y q v F2 H2 g2 r2 => ?_) q)
      exact ld.rt F2 H2 v y (h'.g.trans g2) (fun _ => r2) (fun z => by rw [hf] at z; cases z) q
    · rw [if_neg hm] at q
      exact ⟨false, hos _ q.1 C' n, (fun z => by cases z), fun _ => le _ ρ' σ' F' H' _ dx h' q.2 re⟩
end
section
variable {X : Cx} {K : Fg} {cl : Cl} {W : WX}
/-- what is said of an exception: syntax, reading, words -/
structure VX (X : Cx) (K : Fg) (cl : Cl) (i : Nat) (C : Addr) (e : Expr) (th : Addr → Value → Option Addr → TE) (R : Err → DK → Prop) : Prop where
  pe : ∀ (a : Addr) (oe : Obj) (v : Value) (d : Option Addr) (pn : List (Addr × Obj)), Zc v d oe → (∃ vs, oe.data = .fields vs) → PE (X.suite a ((a, oe) :: pn)) e (th a v d)
  rf : RfX K cl i C th R
structure VXA (X : Cx) (K : Fg) (cl : Cl) (i : Nat) (C : Addr) (e : List Expr) (th : Addr → Value → Option Addr → TA) (R : Err → (List D → Prop) → Prop) : Prop where
  pe : ∀ (a : Addr) (oe : Obj) (v : Value) (d : Option Addr) (pn : List (Addr × Obj)), Zc v d oe → (∃ vs, oe.data = .fields vs) → PA (X.suite a ((a, oe) :: pn)) e (th a v d)
  rf : RfXA K cl i C th R
variable {i : Nat} {C : Addr}
theorem vx_fld {n f : Str} {np pos : Pos} (hi : X.N[i]? = some n) (hln : X.env.kindOf n = some .local) (T : XfC X.K C) (hno : PySem.W.findIn X.K (.ref C) f = some none) (hdb : (n == ("__debug__" : Str)) = false := by decide) (hcd : (n == ("__classdict__" : Str)) = false := by decide)
    (hab : attributeBase (.Name n np) f X.env (eval (.Name n np) X.env) = eval (.Name n np) X.env := by rfl) : VX X K cl i C (.Attribute (.Name n np) f pos) (fun a v d => tXf a v d C f (tVar i)) (xFld f) :=
  ⟨fun a oe v d pn hz hv => pe_xf T hno hz hv (pe_var hi (.inl hln) hdb hcd) hab, rx_fld⟩
theorem vx_str {x : Str} {j : Nat} {pos : Pos} : VX X K cl i C (.Constant (.str x) j pos) (fun _ _ _ => tC (.str x)) (xC (.str x)) := ⟨fun a oe v d pn hz hv => pe_str, rx_c fun _ => .str _⟩
theorem vx_nil : VXA X K cl i C [] (fun _ _ _ => tNil) xNil := ⟨fun a oe v d pn hz hv => pa_nil, rx_nil⟩
theorem vx_cons {e : Expr} {es : List Expr} {ta : Addr → Value → Option Addr → TE} {tr : Addr → Value → Option Addr → TA} {p : Err → DK → Prop} {r : Err → (List D → Prop) → Prop} (ha : VX X K cl i C e ta p) (hr : VXA X K cl i C es tr r) (hs : starEach (e :: es) X.env = (false, eval e X.env) :: starEach es X.env := by rfl) :
    VXA X K cl i C (e :: es) (fun a v d => tCons (ta a v d) (tr a v d)) (xCons p r) := ⟨fun a oe v d pn hz hv => pa_cons (ha.pe a oe v d pn hz hv) (hr.pe a oe v d pn hz hv) hs, rx_cons ha.rf hr.rf⟩
theorem vx_tup {es : List Expr} {x1} {pos : Pos} {tr : Addr → Value → Option Addr → TA} {r : Err → (List D → Prop) → Prop} (h : VXA X K cl i C es tr r) : VX X K cl i C (.Tuple es x1 pos) (fun a v d => tTup (tr a v d)) (xTup r) := ⟨fun a oe v d pn hz hv => pe_tup (h.pe a oe v d pn hz hv), rx_tup h.rf⟩
theorem vs_tryE {m : String} {os : List String} {n x : Str} {hx : Expr} {body : List Stmt} {np pr pos pos' : Pos} {th : Addr → Value → Option Addr → TE} {R : Err → DK → Prop} {tb : WX → TS} {b : DS} (hs : X.stack = X.env :: X.outer) (hf : X.env.frame = some X.env.locals) (hN : X.N.Nodup) (hi : X.N[i]? = some n) (hln : X.env.kindOf n = some .local) (hc : Names X x (.ref C)) (tk : Takes X W)
    (hC : cl.nm m = some C) (hms : PySem.W.exmOne K (.ref C) (.ref C) = some true) (hos : ∀ m ∈ os, ∀ D, cl.nm m = some D → PySem.W.exmOne K (.ref D) (.ref C) = some false) (hfr : cl.fr = false)
    (hR : VX X K cl i C hx th R)
    (hb : ∀ (W : WX) (pn : List (Addr × Obj)) (xe : Value → Shared → Prop), Takes (X.tr pn xe) W → PassesOwn (model X.prog X.w) X.A X.env xe → VSs (X.tr pn xe) K cl W body (tb W) b) (hK : X.K = K := by rfl) :
    VS X K cl W (.Try body [.ExceptHandler (some (.Name x np)) (some n) [.Return (some hx) pr] pos'] [] [] pos) (fun D σ H => tb (wAs K (.ref C) i (fun a v d => tRet (th a v d)) W D) D σ H) (sTryE m os i R b) := by
  obtain rfl := hK
  exact ⟨ps_try_as hs hf hN hi hln hc tk (fun W pn xe t p => (hb W pn xe t p).pe) (fun a oe v d pn hz hv => pss_one (ps_ret (hR.pe a oe v d pn hz hv))), rfs_tryE hC hms hos hfr hR.rf (fun W => (any_takes hs hf W).elim fun pn z => z.elim fun xe z => (hb W pn xe z.1 z.2).rf), rfl⟩
end
end DL

/-! DCall0: a def called without arguments. -/
namespace DL
open PySem L2 PyProof.Rows
variable [TN]
section
variable {X : Cx} {K : Fg} {cl : Cl} {W : WX} {pos : Pos}
theorem ve_call0 {Wf : DF} {k : Nat} {f : Addr} {fd : FuncData} {ps : List Str} {x : Str} {p : Pos} (F : FnOk X.prog X.w X.K X.mg X.base (L2.CX X.prog X.w) k f fd ps (spD X.K cl Wf)) (hr : Room k X.A) (hg : Gl X x) (mg : X.mg x = some (.ref f)) (hk : PySem.W.keepIn X.K (.ref f) = true)
    (hb : Binds X.K fd ps []) (tk : Takes X W) (hdb : (x == ("__debug__" : Str)) = false := by decide) : VE X X.K cl W (.Call (.Name x p) [] [] pos) (tCallSD (spD X.K cl Wf) [] (fun σ => WE W σ) tNil) (dCall Wf aNil) := by
  refine ⟨⟨fun pins s σ H Q I h => ?_⟩, rfe_call0 rfa_nil, rfl⟩
  refine wpAny_Call_Name_kw (ld_glob I hg mg ?_ hdb)
  exact PySem.W.callWith_K0 I.kIn hk (run_fnSD F hr hb .nil (passAt tk σ) I .nil h)
end
end DL

set_option maxHeartbeats 3000000
/-! DLam: several clauses with a name; a lambda given to a def that calls it and tells the error; defs that make lambdas. -/
namespace DL
open PySem L2 PyProof.Rows
variable [TN]
/-! ### clauses with a name, one behind the other -/
/-- what they wish of an exception: slot j is the name's -/
def wList (K : Fg) (j : Nat) (Wo : WX) (D : Ends) : List (Value × (Addr → Value → Option Addr → TS)) → WX
  | [] => Wo
  | (c, ts) :: r => fun k d σ H => ∃ b, PySem.W.exmOne K k c = some b ∧ (b = true → ∀ a, H a = none → ts a k d { nx := fun σ' H' => D.nx (σ'.set j none) H', rt := D.rt, bk := fun σ' H' => D.bk (σ'.set j none) H', ct := fun σ' H' => D.ct (σ'.set j none) H' } (σ.set j (some (.ref a))) H) ∧ (b = false → wList K j Wo D r k d σ H)
/-- the clauses, and what their suites do -/
inductive Cls' (X : Cx) (en : Str) : List ExceptHandler → List (Value × (Addr → Value → Option Addr → TS)) → Prop
  | nil : Cls' X en [] []
  | cons {x : Str} {c : Value} {ts : Addr → Value → Option Addr → TS} {b : Stmt} {bs : List Stmt} {p q : Pos} {hds : List ExceptHandler} {l : List (Value × (Addr → Value → Option Addr → TS))} (nm : Names X x c)
      (st : ∀ (a : Addr) (ob : Obj) (k : Value) (d : Option Addr) (pn : List (Addr × Obj)), Zc k d ob → (∃ vs, ob.data = .fields vs) → PSs (X.suite a ((a, ob) :: pn)) (b :: bs) (ts a k d)) (r : Cls' X en hds l) : Cls' X en (.ExceptHandler (some (.Name x p)) (some en) (b :: bs) q :: hds) ((c, ts) :: l)
section
variable {X : Cx} {en : Str} {j : Nat} {suite : List Stmt} {h1 : ExceptHandler} {hds : List ExceptHandler} {l : List (Value × (Addr → Value → Option Addr → TS))} {pos : Pos} {tb : WX → TS} {Wo : WX}
theorem ps_clauses (sk : X.stack = X.env :: X.outer) (fr : X.env.frame = some X.env.locals) (nd : X.N.Nodup) (ix : X.N[j]? = some en) (lo : X.env.kindOf en = some .local) (tk : Takes X Wo)
    (body : ∀ (W : WX) (pn : List (Addr × Obj)) (xe : Value → Shared → Prop), Takes (X.tr pn xe) W → PassesOwn (model X.prog X.w) X.A X.env xe → PSs (X.tr pn xe) suite (tb W)) (hh : Cls' X en (h1 :: hds) l) :
    PS X (.Try suite (h1 :: hds) [] [] pos) (fun D σ H => tb (wList X.K j Wo D l) D σ H) := by
  refine ⟨fun pins s0 σ0 H0 D I0 hq0 => ?_⟩
  have okX := I0.ok
  have frA : X.A.frames = some (X.env :: X.outer) := by rw [okX.frames, sk]
  have locE : Loc X.env.scope en := .inl lo
  refine wpAny_Try_except (wpAny_mono ((body (wList X.K j Wo D l) (X.pn ++ pins) (fun e t1 => wpAny (model X.prog X.w) X.A (noteFrame e X.env) (fun _ t2 => wpAny (model X.prog X.w) X.A (setFlight e none) (fun _ t3 => wpAny (model X.prog X.w) X.A (handleBy e X.env (h1 :: hds)) (SP X pins D) X.xe t3) X.xe t2) X.xe t1)
    (fun e t raised => ?_) PassesOwn.looking).run [] s0 σ0 H0 D (I0.toTry _) hq0) (fun fl t done => ?_) (fun _ _ z => z))
  · obtain ⟨a, B, tI, pins', σ, H, k, d, rfl, Jt, nb, up, sky, na, os, ag, wish⟩ := raised
    have J : Inv X pins σ H tI := Jt.ofTry okX
    rw [sk] at sky
    change wpAny (model X.prog X.w) X.A (noteFrame (.ref a) X.env) _ _ _
    refine Sky.land Zc.steady frA fr sky fun g3 fl3 up3 => ?_
    have J3 : Inv X pins σ H { t with heap := g3 } := J.landed nb fl3.1 (up.trans up3) os ag
    obtain ⟨ob, vs, ea, ez, ed⟩ := fl3.there
    have far : a ∉ frs (X.env :: X.outer) := fun hm => by
      obtain ⟨_, ob', e', hn⟩ := fl3.2.2.1.mem hm
      cases ea.symm.trans e'
      exact hn _ ed
    have nl : a ≠ X.env.locals := fun z => far (List.mem_filterMap.mpr ⟨X.env, List.mem_cons_self, by rw [fr, z]⟩)
    have nf : a ∉ X.fs := fun hm => (List.mem_filterMap.mp hm).elim fun e ⟨he, q⟩ => far (List.mem_filterMap.mpr ⟨e, List.mem_cons_of_mem _ he, q⟩)
    have S3 := J3.suite ea ed na nl nf
    have each : ∀ {hs' : List ExceptHandler} {l' : List (Value × (Addr → Value → Option Addr → TS))}, Cls' X en hs' l' → wList X.K j Wo D l' k d σ H → wpAny (model X.prog X.w) X.A (handleBy (.ref a) X.env hs') (SP X pins D) X.xe { t with heap := g3 } := by
      intro hs' l' cl
      induction cl with
      | nil =>
        intro out
        refine wpAny_handleBy_nil ?_
        obtain ⟨_, _, _, o2, vs2, T2, oT2, ts2, he2, _, hd2, h12, _⟩ := id fl3
        unfold PySem.passOn
        refine wpAny_bind (wpAny_field he2 hd2 h12 ?_)
        rw [if_neg (show ¬ ((Value.ref T2 == Value.none) = true) by simp)]
        have last : wpAny (model X.prog X.w) X.A (setFlight (.ref a) X.env.frame) (fun _ t4 => wpAny (model X.prog X.w) X.A (throw (.ref a) : Sem Flow) (SP X pins D) X.xe t4) X.xe { t with heap := g3 } := by
          rw [fr]
          exact HandSPX.setFlight_upZ fl3 fun g4 k4 up4 => wpAny_throw (tk _ _ ⟨a, B, tI, pins, σ, H, k, d, rfl, J, nb, (up.trans up3).trans up4, .inr (.inr (by rw [sk]; exact k4)), na, os, ag, out⟩)
        first | exact wpAny_bind (wpAny_pure (wpAny_bind last)) | exact wpAny_bind last
      | @cons x c ts b bs p q hds2 l2 nm st r ih =>
        rintro ⟨yes, em, hy, hn⟩
        refine wpAny_handleBy_cons (codeAny_handlers_test ?_) (fun z => by cases z)
        have lk : PySem.W.Looks (model X.prog X.w) g3 (typeOf (.ref a)) k := fun A Q E t' kp z => wpAny_typeOf_ref (kp _ _ ea) (by rw [ez.1]; exact z)
        have cm := PySem.W.exm_one (M := model X.prog X.w) J3.kIn lk em
        have read : ∀ {Q E : Value → Shared → Prop}, Q c { t with heap := g3 } → wpAny (model X.prog X.w) (X.A.mark (some (.ref a))) (eval (.Name x p) X.env) Q E { t with heap := g3 } := fun {Q E} z => by
          obtain ⟨n1, n2, n3⟩ := nm
          rcases n3 with n3 | ⟨n3, n4, n5⟩
          · exact ld_glob (X := X.suite a ((a, ob) :: (X.pn ++ pins))) S3 n1 n3 z n2
          · exact ld_blt (X := X.suite a ((a, ob) :: (X.pn ++ pins))) S3 n1 n3 n4 z n5 n2
        refine read (cm.here ?_)
        cases yes with
        | false => exact ih (hn rfl)
        | true =>
          refine codeAny_handlers_suite_as (HandSPX.lands_againZ fl3 fun g4 fl4 up4 => ?_)
          have J4 : Inv X pins σ H { t with heap := g4 } := J.landed nb fl4.1 ((up.trans up3).trans up4) os ag
          obtain ⟨o4, v4, ea4, ez4, ed4⟩ := fl4.there
          refine store_ok (X := X.suite a ((a, o4) :: (X.pn ++ pins))) (v := .ref a) (J4.suite ea4 ed4 na nl nf) nd ix locE rfl (fun t5 S5 => ?_) (.inr lo)
          refine wpAny_mono ((st a o4 k d (X.pn ++ pins) ez4 ⟨_, ed4⟩).run [] t5 _ H _ S5 (hy rfl a na)) (fun fl t6 z => ?_) (fun _ _ z => z.elim)
          have shut : ∀ {σ6 : L2.St} {H6 : Hp} {Q : Shared → Prop}, Inv (X.suite a ((a, o4) :: (X.pn ++ pins))) [] σ6 H6 t6 → (∀ t7, Inv X pins (σ6.set j none) H6 t7 → Q t7) → wpAny (model X.prog X.w) X.A (do bindName X.env en .none; unbindBehindTheSuite X.env en q) (fun _ t7 => Q t7) X.xe t6 :=
            fun {σ6 H6 Q} S6 z => gone_ok (S6.unsuite okX) nd ix lo z
          cases fl with
          | next => exact z.elim fun _ ⟨_, S6, z6⟩ => shut S6 fun _ J7 => ⟨_, _, J7, z6⟩
          | brk => exact z.elim fun _ ⟨_, S6, z6⟩ => shut S6 fun _ J7 => ⟨_, _, J7, z6⟩
          | cont => exact z.elim fun _ ⟨_, S6, z6⟩ => shut S6 fun _ J7 => ⟨_, _, J7, z6⟩
          | ret u => exact z.elim fun _ ⟨_, _, S6, r6, z6⟩ => shut S6 fun _ J7 => ⟨_, _, _, J7, r6, z6⟩
    exact each hh wish
  · cases fl with
    | next => exact done.elim fun _ ⟨_, J', z⟩ => wpAny_execs_nil ⟨_, _, J'.ofTry okX, z⟩
    | brk => exact done.elim fun _ ⟨_, J', z⟩ => ⟨_, _, J'.ofTry okX, z⟩
    | cont => exact done.elim fun _ ⟨_, J', z⟩ => ⟨_, _, J'.ofTry okX, z⟩
    | ret u => exact done.elim fun _ ⟨_, _, J', r, z⟩ => ⟨_, _, _, J'.ofTry okX, r, z⟩
end
/-! ### f(lambda: e), where f's body is: try: call() / except A as e: return .. / except B as e: return ..; return a text -/
/-- the clauses with their words -/
inductive Tells (X : Cx) (K : Fg) (cl : Cl) (os : List String) (j : Nat) (en : Str) : List ExceptHandler → List (Value × (Addr → Value → Option Addr → TS)) → List (String × (Err → DK → Prop)) → Prop
  | nil : Tells X K cl os j en [] [] []
  | cons {x : Str} {m : String} {C : Addr} {hx : Expr} {p q pr : Pos} {th : Addr → Value → Option Addr → TE} {R : Err → DK → Prop} {hds : List ExceptHandler} {l : List (Value × (Addr → Value → Option Addr → TS))} {r : List (String × (Err → DK → Prop))}
      (nm : Names X x (.ref C)) (hC : cl.nm m = some C) (me : PySem.W.exmOne K (.ref C) (.ref C) = some true) (no : ∀ m' ∈ os, m' ≠ m → ∀ D, cl.nm m' = some D → PySem.W.exmOne K (.ref D) (.ref C) = some false) (v : VX X K cl j C hx th R) (rest : Tells X K cl os j en hds l r) :
      Tells X K cl os j en (.ExceptHandler (some (.Name x p)) (some en) [.Return (some hx) pr] q :: hds) ((.ref C, fun a v d => tRet (th a v d)) :: l) ((m, R) :: r)
theorem Tells.cls {X : Cx} {K : Fg} {cl : Cl} {os : List String} {j : Nat} {en : Str} {hds : List ExceptHandler} {l : List (Value × (Addr → Value → Option Addr → TS))} {r : List (String × (Err → DK → Prop))} (h : Tells X K cl os j en hds l r) : Cls' X en hds l := by
  induction h with
  | nil => exact .nil
  | cons nm _ _ _ v _ ih => exact .cons nm (fun a ob k d pn hz hv => pss_one (ps_ret (v.pe a ob k d pn hz hv))) ih
theorem Tells.mono {X : Cx} {K : Fg} {cl : Cl} {os : List String} {j : Nat} {en : Str} {hds : List ExceptHandler} {l : List (Value × (Addr → Value → Option Addr → TS))} {r : List (String × (Err → DK → Prop))} (h : Tells X K cl os j en hds l r) (e : Err) (P P' : DK) (hP : ∀ d, P d → P' d) : pick os r e P → pick os r e P' := by
  induction h with
  | nil => exact fun z => z.elim
  | @cons x m C hx p q pr th R hds l r nm hC me no v _ ih =>
    intro z
    unfold pick at z ⊢
    split
    · rename_i c
      rw [if_pos c] at z
      exact v.rf.mono e _ _ hP z
    · rename_i c
      rw [if_neg c] at z
      exact ⟨z.1, ih z.2⟩
/-- the clauses are right -/
theorem Tells.ok {X : Cx} {K : Fg} {cl : Cl} {os : List String} {j : Nat} {en : Str} {hds : List ExceptHandler} {l : List (Value × (Addr → Value → Option Addr → TS))} {r : List (String × (Err → DK → Prop))} (h : Tells X K cl os j en hds l r) {F H : Hp} {e : Err} {c : Value} {dx : Option Addr} {Q : VK} {D : Ends} {σ : L2.St}
    (s : Same F H) (re : RepErr K cl F c dx e) (hj : j < σ.length) (rt : D.rt = Q) (q : pick os r e fun y => ∀ v F' H', Gr F H F' H' → Rep K cl F' v y → Q v H') : wList K j (fun _ _ _ _ => False) D l c dx σ H := by
  induction h with
  | nil => exact q.elim
  | @cons x m C hx p q2 pr th R hds l r nm hC me no v _ ih =>
    obtain ⟨C', n, rfl, hx'⟩ := id re
    unfold pick at q
    by_cases hm : e.cls = m
    · rw [if_pos hm] at q
      rw [hm, hC] at n
      cases n
      refine ⟨true, me, fun _ a ha => ?_, fun z => by cases z⟩
      change th a (.ref C) dx (σ.set j (some (.ref a))) H D.rt
      rw [rt]
      exact v.rf.ok F H _ a dx e Q s (List.getElem?_set_self hj) hx' q
    · rw [if_neg hm] at q
      exact ⟨false, no _ q.1 hm C' n, (fun z => by cases z), fun _ => ih q.2⟩
/-- what the reading of the lambda is asked -/
def TCode (K : Fg) (j n : Nat) (l : List (Value × (Addr → Value → Option Addr → TS))) (z : Str) : (XK → Hp → VK → Prop) → Hp → VK → Prop := fun tl H Q =>
  tl (fun c d H' => ∀ σ : L2.St, σ.length = n → wList K j (fun _ _ _ _ => False) { nx := fun _ H' => Q (.str z) H', rt := Q } l c d σ H') H fun _ H' => Q (.str z) H'
theorem takes_len {X : Cx} {W : WX} (tk : Takes X W) : Takes X fun c d σ H => σ.length = X.N.length → W c d σ H := fun u s' ⟨a, B, sI, ps, σ, H, k, d, e, J, nb, up, sky, na, os, ag, w⟩ =>
  tk u s' ⟨a, B, sI, ps, σ, H, k, d, e, J, nb, up, sky, na, os, ag, w J.len⟩
theorem code_gives {X : Cx} {x a q en z : Str} {j i0 : Nat} {sg : Scope} {g : Addr} {cdg : Value} {Ng : List Str} {h1 : ExceptHandler} {hds : List ExceptHandler} {l : List (Value × (Addr → Value → Option Addr → TS))} {p1 p2 p3 p4 p5 p6 : Pos}
    (nd : Ng.Nodup) (h0 : ∀ f : Addr, (L2.start Ng [V.ref f])[0]? = some (some (V.ref f)))
    (ix : Ng[j]? = some en) (lo : sg.names.lookup en = some .local)
    (hh : ∀ (s : Shared) (H : Hp), Cls' (cxOf C8.CX0 X.prog X.w X.K X.mg X.base Ng x sg g cdg X.A X.stack s H C8.E0).nox en (h1 :: hds) l) :
    LamX.GivesTo X Ng x sg g cdg [.Try [.Expr (.Call (.Name a p1) [] [] p2) p3] (h1 :: hds) [] [] p4, .Return (some (.Constant (.str z) i0 p5)) p6] a q (TCode X.K j Ng.length l z) := by
  intro f c' s H Q tl act hc h
  let Z : Cx := (cxOf C8.CX0 X.prog X.w X.K X.mg X.base Ng x sg g cdg X.A X.stack s H C8.E0).nox
  have kl : Z.env.kindOf en = some .local := lo
  refine ⟨_, pss_cons (ps_clauses (X := Z) (Wo := fun _ _ _ _ => False) (j := j)
    (tb := fun W D σ H => ∃ Ech : XK, (∀ cls d σ' H', Ech cls d H' → σ'.length = Ng.length → W cls d σ' H') ∧ σ[0]? = some (some (.ref f)) ∧ H c' = some (LamX.CodeO c' q) ∧ tl Ech H fun _ H' => D.nx σ H')
    rfl rfl nd ix kl LamX.takes0 (fun W pn xe tk _ => ?_) (hh s H)) (pss_one (ps_ret pe_str)), ?_⟩
  · refine ⟨fun pins s' σ H D I h' => ?_⟩
    obtain ⟨Ech, hW, e1, e2, e3⟩ := h'
    have hp := act (fun c d σ H => σ.length = Ng.length → W c d σ H) pn xe Ech p1 p2 (takes_len tk) (fun c d σ' H' z w => hW c d σ' H' z w)
    exact (pss_one (ps_expr (pos := p3) hp)).run pins s' σ H D I ⟨e1, e2, e3⟩
  · exact ⟨fun c d H' => ∀ σ : L2.St, σ.length = Ng.length → wList X.K j (fun _ _ _ _ => False) { nx := fun _ H' => Q (.str z) H', rt := Q } l c d σ H', fun c d σ' H' w e => w σ' e, h0 f, hc, h⟩
/-! ### the making of a lambda -/
/-- H1 is H, or H with one more code object, told by the table at P -/
def Made (H : Hp) (P : Addr) (q : Str) (H1 : Hp) (c : Addr) : Prop :=
  (H1 = H ∧ H c = some (LamX.CodeO c q)) ∨ ∃ (ps : Array Value) (pos : Pos), H P = some (.tbl ps) ∧ TriplesOk ps.toList ∧ H c = none ∧ H1 = upd (upd H P (.tbl (ps ++ #[rawInt pos.line, rawInt pos.col, .ref c]))) c (LamX.CodeO c q)
theorem Made.code {H H1 : Hp} {P c : Addr} {q : Str} (m : Made H P q H1 c) : H1 c = some (LamX.CodeO c q) := by
  rcases m with ⟨rfl, h⟩ | ⟨_, _, _, _, _, rfl⟩
  · exact h
  · exact upd_same
theorem Made.gr {F H H1 : Hp} {P c : Addr} (m : Made H P (TN.nm P) H1 c) (s : Same F H) (nf : F P = none) : Gr F H F H1 := by
  rcases m with ⟨rfl, _⟩ | ⟨ps, pos, hP, ht, nc, rfl⟩
  · exact Gr.refl s
  · have nP : P ≠ c := ne_of_none hP nc
    have at_ : ∀ b, b ≠ P → b ≠ c → upd (upd H P (.tbl (ps ++ #[rawInt pos.line, rawInt pos.col, .ref c]))) c (LamX.CodeO c (TN.nm P)) b = H b := fun b x y => by rw [upd_ne y, upd_ne x]
    have atP : upd (upd H P (.tbl (ps ++ #[rawInt pos.line, rawInt pos.col, .ref c]))) c (LamX.CodeO c (TN.nm P)) P = some (.tbl (ps ++ #[rawInt pos.line, rawInt pos.col, .ref c])) := by rw [upd_ne nP, upd_same]
    refine Gr.hk s ⟨fun b u e n => ?_, fun P' hm C hC t => ?_, fun b e => ?_, fun P' qs e => ?_⟩ fun b u e => ?_
    · rw [at_ b (fun z => by rw [z, hP] at e; exact n ps (Option.some.inj e).symm) (ne_of_none e nc)]
      exact e
    · by_cases hp : P' = P
      · subst hp
        obtain ⟨ps', h1, h2, h3⟩ := t
        cases hP.symm.trans h1
        have el : (ps ++ #[rawInt pos.line, rawInt pos.col, .ref c]).toList = ps.toList ++ [rawInt pos.line, rawInt pos.col, .ref c] := by simp
        refine ⟨_, atP, by rw [el]; exact PySem.TriplesOk_snoc _ _ _ _ ht, fun p cv hc => ?_⟩
        rw [el] at hc
        rcases LamX.among_app _ ht hc with z | z
        · exact h3 p cv z
        · exact ⟨c, z, hC c upd_same⟩
      · exact t.of fun qs e => by rw [at_ P' hp (ne_of_none e nc)]; exact e
    · by_cases h1 : b = c
      · rw [h1]; exact nc
      · by_cases h2 : b = P
        · rw [h2, atP] at e; cases e
        · rwa [at_ b h2 h1] at e
    · by_cases h1 : P' = c
      · rw [h1, upd_same] at e
        unfold LamX.CodeO at e
        cases e
      · by_cases h2 : P' = P
        · exact ⟨ps, by rw [h2]; exact hP⟩
        · rw [at_ P' h2 h1] at e
          exact ⟨qs, e⟩
    · have h1 := s b u e
      rw [at_ b (fun z => by rw [z, nf] at e; cases e) (ne_of_none h1 nc)]
      exact h1
section
variable {X : Cx} {σ : L2.St} {H : Hp} {s : Shared} {pins : List (Addr × Obj)}
theorem lam_new {c P : Addr} {ar : Arguments} {body : Expr} {sc : Scope} {pos : Pos} {E Q : Value → Shared → Prop} (I : Inv X pins σ H s) (B : LamX.TabB X.base X.mg c P) (hc : X.env.code = .ref c) (hT : LamX.TabS H P (X.env.qual ++ "<lambda>")) (nd : defaultsOf ar X.env = ([], []))
    (fr : ∀ y ∈ sc.names, y.2 = .free → ∃ c, X.env.cells.lookup y.1 = some c)
    (k : ∀ (f c' : Addr) (pm ctv : Value) (H1 : Hp) (s' : Shared), Inv X pins σ H1 s' → Made H P (X.env.qual ++ "<lambda>") H1 c' →
      s'.heap.get? f = some (PySem.W.kla_obj "<lambda>" (X.env.qual ++ "<lambda>") ar body sc (cloFrom X.env.cells sc.names []) pm c' ctv) → H1 f = none → f ∉ frs X.stack → Q (.ref f) s') : wpAny (model X.prog X.w) X.A (eval (.Lambda ar body sc pos) X.env) Q E s := by
  obtain ⟨ps, hP, ht, good⟩ := hT
  have atP : s.heap.get? P = some { cls := .none, data := .fields ps } := I.hok P _ hP
  have bm : s.heap.BuiltinsAt X.mg P := B.bm.keeps I.bk
  have new : ∀ f, s.heap.objs.size ≤ f → f ∉ frs X.stack := fun f hf z => by
    have z2 := List.mem_cons.mp (I.stkSub _ z)
    rcases z2 with e | e
    · have lt := I.lt
      rw [← e] at lt
      exact absurd lt (Nat.not_lt.mpr hf)
    · exact I.nofs hf e
  refine PySem.W.kla_eval nd ?_
  cases am : codeAmong pos ps.toList with
  | some cv =>
    obtain ⟨c', rfl, hco⟩ := good pos cv am
    exact PySem.W.kla_makeFunctionHit (mg := X.mg) (c := c) (P := P) (ps := ps) (closure_ok fr) I.ok.glob (I.mod.glob.keeps I.bk) hc (B.code.keeps I.bk) atP ht am bm fun ctv h' tk kp sz =>
      k h'.objs.size c' ((X.mg "__name__").getD .none) ctv H _ (I.kept fun b o e => Heap.get?_push_of_some _ (kp b o e)) (.inl ⟨rfl, hco⟩) (Heap.get?_push_size _ rfl) (I.hok.fresh sz) (new _ sz)
  | none =>
    refine PySem.W.kla_makeFunction (mg := X.mg) (c := c) (P := P) (ps := ps) (closure_ok fr) I.ok.glob (I.mod.glob.keeps I.bk) hc (B.code.keeps I.bk) atP ht am B.gP bm fun c' ctv h' tk kp ge lt rec_ tb => ?_
    obtain ⟨c2, oc, vs, t, e2, hoc, hd, hv⟩ := rec_
    cases e2
    have nC : H c' = none := I.hok.fresh ge
    have sz : s.heap.objs.size ≤ h'.objs.size := by omega
    have J := LamX.inv_table (t' := tk) (more := #[rawInt pos.line, rawInt pos.col, .ref c']) (q := X.env.qual ++ "<lambda>") (h' := h'.push (PySem.W.kla_obj "<lambda>" (X.env.qual ++ "<lambda>") ar body sc (cloFrom X.env.cells sc.names []) ((X.mg "__name__").getD .none) c' ctv)) I hP
      (fun b o hb e => Heap.get?_push_of_some _ (kp b o hb e)) (Heap.get?_push_of_some _ tb) ge ⟨oc, vs, t, Heap.get?_push_of_some _ hoc, hd, hv⟩
    refine k h'.objs.size c' ((X.mg "__name__").getD .none) ctv _ _ J (.inr ⟨ps, pos, hP, ht, nC, rfl⟩) (Heap.get?_push_size _ rfl) ?_ (new _ sz)
    have lP : P < s.heap.objs.size := Heap.lt_size atP
    rw [upd_ne (Nat.ne_of_gt lt), upd_ne (Nat.ne_of_gt (Nat.lt_of_lt_of_le lP sz))]
    exact I.hok.fresh sz
/-- f(lambda: body) -/
def tLamC (P : Addr) (q : Str) (TT : (XK → Hp → VK → Prop) → Hp → VK → Prop) (t : XK → TE) : TE := fun σ H Q => LamX.TabS H P q ∧ ∀ H1 c, Made H P q H1 c → TT (fun E H' Q' => t E σ H' Q') H1 Q
theorem pe_lam {TT : (XK → Hp → VK → Prop) → Hp → VK → Prop} {x a : Str} {g c P : Addr} {k : Nat} {st : Stmt} {fd : FuncData} {Ng : List Str} {ar : Arguments} {body : Expr} {sc : Scope} {t : XK → TE} {p lp pos : Pos} (hg : Gl X x) (hm : X.mg x = some (.ref g)) (Fn : Fun X.K x x st g fd) (hb : L2.Binds X.K fd [a] []) (Sg : FnScope Ng [a] (defScope st)) (h0 : Ng[0]? = some a) (va : Vis (defScope st) a)
    (hG : ∀ cdg, LamX.GivesTo X Ng x (defScope st) g cdg (defBody st) a (X.env.qual ++ "<lambda>") TT) (B : LamX.TabB X.base X.mg c P) (hc : X.env.code = .ref c) (hr : Room (k + 2) X.A) (L : LamX.LamS X.env.scope sc) (nd : defaultsOf ar X.env = ([], []))
    (hbind : ∀ (q : Str) (cl : List (Str × Addr)) (pm cv ctv : Value), bindArgs (PySem.W.kla_fn "<lambda>" q ar body sc cl pm cv ctv) ⟨[], []⟩ = pure [])
    (hbody : ∀ (A : Around) (outer : List PySem.Env) (s : Shared) (H : Hp) (E : XK) (f c' : Addr), Room k (A.deeper (LamX.lamEnv X sc s.heap.objs.size f c')) → PE (LamX.lamCx X A outer s H E sc f c') body (t E))
    (hdb : (x == ("__debug__" : Str)) = false := by decide) (hd : (a == ("__debug__" : Str)) = false := by decide) (hcd : (a == ("__classdict__" : Str)) = false := by decide) : PE X (.Call (.Name x p) [.Lambda ar body sc lp] [] pos) (tLamC P (X.env.qual ++ "<lambda>") TT t) := by
  obtain ⟨⟨oc, od, kV, doc, pm, an, cdg, ct, osl, rfl, lk, hcg⟩, hk⟩ := Fn
  refine ⟨fun pins s σ H Q I ⟨hT, h⟩ => ?_⟩
  refine wpAny_Call_Name_kw (ld_glob I hg hm (PySem.W.callWith_K (h₀ := X.base) I.ok.mod.kin hk ?_ (by rfl) (by rfl)) hdb)
  change wpAny _ _ (spliced ((false, eval (.Lambda ar body sc lp) X.env) :: backTo pos (starEach [] X.env))) _ _ s
  refine Calls.spliced_cons (lam_new I B hc hT nd (L.has I.ok) fun f c' pm' ctv H1 s1 J md hf hfn hfr => Calls.spliced_nil ⟨J.kIn, wpAny_call (codeAny_mono (R := CR C8.CX0 X.stack X.prog X.w H1 s1 Q C8.E0) ?_ fun r s2 z => ?_)⟩)
  · refine LamX.run_ofS (N := Ng) (ps := [a]) (us := [.ref f]) (vs := [.ref f]) lk hcg Sg hr J.env0 (hb s1 [.ref f] J.kIn rfl) (.cons rfl .nil) rfl fun hr' => ?_
    obtain ⟨t', ht', hq'⟩ := hG cdg f c' s1 H1 Q (fun E H' Q' => t E σ H' Q') (fun W pn xe E p1 p2 tk hW => LamX.pe_act (i := 0) J L hf hfn hfr (hbind _ _ _ _ _) tk hW hr' (fun A outer s H hr2 => hbody A outer s H E f c' hr2) h0 va hd hcd) md.code (h H1 c' md)
    exact ⟨t', ht'.nox, hq'⟩
  · cases r with
    | error e => exact (show False from z).elim
    | ok fl => cases fl with
      | ret u => exact J.after z
      | next => exact False.elim z
      | brk => exact False.elim z
      | cont => exact False.elim z
end
/-! ### its reading -/
section
variable {X Z : Cx} {K : Fg} {cl : Cl} {W : WX} {os : List String} {j n : Nat} {en z : Str} {hds : List ExceptHandler} {l : List (Value × (Addr → Value → Option Addr → TS))} {r : List (String × (Err → DK → Prop))} {P : Addr} {t : XK → TE} {d : DT}
theorem rfe_lam (hh : Tells Z K cl os j en hds l r) (hj : j < n) (hP : P ∈ cl.tabs) (ht : ∀ E : XK, RfE K cl (fun c dx _ H => E c dx H) (t E) d) : RfE K cl W (tLamC P (TN.nm P) (TCode K j n l z) t) (dCode os r z d) where
  mono2 := fun E E' ρ A A' hE hA q => (ht fun _ _ _ => False).mono2 _ _ (noOwn ρ) _ _ (fun e _ w => hh.mono e _ _ hA w) (fun _ w => hA _ w) q
  ok := fun F0 H0 F H σ ρ E Q hh0 le q => by
    obtain ⟨ts, nf, _⟩ := hh0.tb P hP
    refine ⟨ts, fun H1 c md => ?_⟩
    have g := md.gr hh0.g.s nf
    have hb := (hh0.grow g).wipe (vs := [])
    refine (ht _).ok F H1 F H1 σ (noOwn ρ) (fun e _ => pick os r e fun y => ∀ v F' H', Gr F H F' H' → Rep K cl F' v y → Q v H') _ hb (fun err ρ' σ' F' H' cc dx h e re => ?_) ((ht fun _ _ _ => False).mono _ _ _ _ (fun y w v F' H' g' r' => ?_) q)
    · exact fun σ2 hσ => hh.ok h.g.s re (by rw [hσ]; exact hj) rfl (hh.mono err _ _ (fun y w v F2 H2 g2 r2 => w v F2 H2 ((g.trans h.g).trans g2) r2) e)
    · exact w (.str z) F' H' (g.trans g') (.str z)
end
section
variable {X : Cx} {K : Fg} {cl : Cl} {W : WX}
theorem ve_lam {x a en z : Str} {g c P : Addr} {k j i0 : Nat} {st : Stmt} {fd : FuncData} {Ng : List Str} {ar : Arguments} {body : Expr} {sc : Scope} {t : XK → TE} {d : DT} {p lp pos : Pos} {os : List String} {h1 : ExceptHandler} {hds : List ExceptHandler} {l : List (Value × (Addr → Value → Option Addr → TS))}
    {r : List (String × (Err → DK → Prop))} {p1 p2 p3 p4 p5 p6 : Pos} (hg : Gl X x) (hm : X.mg x = some (.ref g)) (Fn : Fun K x x st g fd) (hb : L2.Binds K fd [a] []) (Sg : FnScope Ng [a] (defScope st)) (h0 : Ng[0]? = some a) (va : Vis (defScope st) a) (bd : defBody st = [.Try [.Expr (.Call (.Name a p1) [] [] p2) p3] (h1 :: hds) [] [] p4, .Return (some (.Constant (.str z) i0 p5)) p6])
    (ix : Ng[j]? = some en) (lo : (defScope st).names.lookup en = some .local) (hh : ∀ (cdg : Value) (s : Shared) (H : Hp), Tells (cxOf C8.CX0 X.prog X.w X.K X.mg X.base Ng x (defScope st) g cdg X.A X.stack s H C8.E0).nox K cl os j en (h1 :: hds) l r)
    (B : LamX.TabB X.base X.mg c P) (hc : X.env.code = .ref c) (hP : P ∈ cl.tabs) (hq : X.env.qual ++ "<lambda>" = TN.nm P) (hr : Room (k + 2) X.A) (L : LamX.lamSB X.env.scope sc = true) (nd : defaultsOf ar X.env = ([], []))
    (hbind : ∀ (q : Str) (cl : List (Str × Addr)) (pm cv ctv : Value), bindArgs (PySem.W.kla_fn "<lambda>" q ar body sc cl pm cv ctv) ⟨[], []⟩ = pure [])
    (hbody : ∀ (A : Around) (outer : List PySem.Env) (s : Shared) (H : Hp) (E : XK) (f c' : Addr), Room k (A.deeper (LamX.lamEnv X sc s.heap.objs.size f c')) → VE (LamX.lamCx X A outer s H E sc f c') K cl (fun c dx _ H => E c dx H) body (t E) d)
    (hdb : (x == ("__debug__" : Str)) = false := by decide) (hd : (a == ("__debug__" : Str)) = false := by decide) (hcd : (a == ("__classdict__" : Str)) = false := by decide) (hK : X.K = K := by rfl) :
    VE X K cl W (.Call (.Name x p) [.Lambda ar body sc lp] [] pos) (tLamC P (TN.nm P) (TCode K j Ng.length l z) t) (dCode os r z d) := by
  obtain rfl := hK
  have hj : j < Ng.length := (List.getElem?_eq_some_iff.mp ix).1
  refine ⟨hq ▸ pe_lam hg hm Fn hb Sg h0 va (fun cdg => ?_) B hc hr (LamX.lamS_by L) nd hbind (fun A outer s H E f c' hr => (hbody A outer s H E f c' hr).pe) hdb hd hcd, rfe_lam (hh .none X.s_0 X.H_0) hj hP (fun E => (hbody X.A X.stack X.s_0 X.H_0 E 0 0 ((hr.deeper _).mono (by omega))).rf), rfl⟩
  rw [bd]
  exact code_gives Sg.nd (fun f => by
    cases Ng with
    | nil => cases h0
    | cons y ys => rfl) ix lo fun s H => (hh cdg s H).cls
end
/-! ### defs that make lambdas, and their callers -/
def spL (K : Fg) (cl : Cl) (Wf : DF) : Sp := fun vs H Q E => ∃ F ds Q' E', Same F H ∧ TabF cl F H ∧ Reps K cl F vs ds ∧ Wf ds Q' E' ∧ (∀ d, Q' d → ∀ v F' H', Gr F H F' H' → Rep K cl F' v d → Q v H') ∧ ∀ err, E' err → ∀ c dx F' H', Gr F H F' H' → RepErr K cl F' c dx err → E c dx H'
section
variable {P : Program} {w : World} {K : Fg} {cl : Cl} {mg : Str → Option Value} {base : Heap}
/-- a def whose code object is told -/
structure FunC (K : Fg) (x qual : Str) (st : Stmt) (f : Addr) (fd : FuncData) (c : Addr) : Prop where
  ex : ∃ (oc : Value) (od : Option Addr) (kV doc pm : Value) (an : Option Addr) (ct : Value) (osl : Array (Option Value)), fd = PySem.W.fnOf x qual (defArgs st) (defBody st) (defScope st) .none kV doc pm an (.ref c) ct ∧ K.lookup f = some ⟨oc, od, .func fd, osl⟩ ∧ PySem.W.codeIn K (.ref c) qual = true
theorem fn_okL {x qual : Str} {st : Stmt} {f c : Addr} {fd : FuncData} {N ps : List Str} {k : Nat} {b : DS} (F : FunC K x qual st f fd c) (S : FnScope N ps (defScope st)) (hp : ps.length ≤ N.length)
    (hb : ∀ (A : Around) (outer : List PySem.Env) (s : Shared) (H : Hp) (E : XK), Room k (A.deeper (envOfC qual (defScope st) s.heap.objs.size f (.ref c))) →
      ∃ t, VSs (cxOf (L2.CX P w) P w K mg base N qual (defScope st) f (.ref c) A outer s H E) K cl (fun c d _ H' => E c d H') (defBody st) t b) (hf : cl.fr = false := by rfl) : FnOk P w K mg base (L2.CX P w) (k + 1) f fd ps (spL K cl (defT ps.length N.length b)) := by
  obtain ⟨oc, od, kV, doc, pm, an, ct, osl, rfl, lk, hcd⟩ := F.ex
  refine fn_of lk hcd S (fun vs H Q E h => ?_) fun A outer s H vs Q E hr h => ?_
  · obtain ⟨F0, ds, Q', E', _, _, r, ⟨hl, _⟩, _⟩ := h
    rw [r.length, hl]
  · obtain ⟨F0, ds, Q', E', s0, tb, r, ⟨hl, q⟩, hQ, hE⟩ := h
    obtain ⟨t, v⟩ := hb A outer s H E hr
    have hn : vs.length ≤ N.length := by rw [r.length, hl]; exact hp
    exact ⟨t, v.pe, v.rf.ok F0 H F0 H _ _ (fun e _ => E' e) { nx := fun _ => Q' .non, rt := Q' } { nx := fun _ H' => Q .non H', rt := Q } (start_hold s0 tb r hn) (fun err ρ σ F' H' c dx h e re => hE err e c dx F' H' h.g re)
      ⟨fun F' H' σ ρ h q => hQ _ q .non F' H' h.g .non, fun _ _ _ _ _ z => z.elim, fun _ _ _ _ _ z => z.elim, fun F' H' v d g r _ q => hQ d q v F' H' g (r hf), fun _ _ _ _ _ _ _ _ z => z.elim⟩ q⟩
/-- the same where the code object is of no interest -/
theorem fn_okLX {x qual : Str} {st : Stmt} {f : Addr} {fd : FuncData} {N ps : List Str} {k : Nat} {b : DS} (F : Fun K x qual st f fd) (S : FnScope N ps (defScope st)) (hp : ps.length ≤ N.length)
    (hb : ∀ (cdv : Value) (A : Around) (outer : List PySem.Env) (s : Shared) (H : Hp) (E : XK), Room k (A.deeper (envOfC qual (defScope st) s.heap.objs.size f cdv)) →
      ∃ t, VSs (cxOf (L2.CX P w) P w K mg base N qual (defScope st) f cdv A outer s H E) K cl (fun c d _ H' => E c d H') (defBody st) t b) (hf : cl.fr = false := by rfl) : FnOk P w K mg base (L2.CX P w) (k + 1) f fd ps (spL K cl (defT ps.length N.length b)) := by
  refine F.okX S (fun vs H Q E h => h.elim fun F0 ⟨ds, Q', E', _, _, r, ⟨hl, _⟩, _⟩ => by rw [r.length, hl]) (fun cdv A outer s H vs Q E hr h => ?_)
  obtain ⟨F0, ds, Q', E', s0, tb, r, ⟨hl, q⟩, hQ, hE⟩ := h
  obtain ⟨t, v⟩ := hb cdv A outer s H E hr
  exact ⟨t, v.pe, v.rf.ok F0 H F0 H _ _ (fun e _ => E' e) { nx := fun _ => Q' .non, rt := Q' } { nx := fun _ H' => Q .non H', rt := Q } (start_hold s0 tb r (by rw [r.length, hl]; exact hp)) (fun err ρ σ F' H' c dx h e re => hE err e c dx F' H' h.g re)
    ⟨fun F' H' σ ρ h q => hQ _ q .non F' H' h.g .non, fun _ _ _ _ _ z => z.elim, fun _ _ _ _ _ z => z.elim, fun F' H' v d g r _ q => hQ d q v F' H' g (r hf), fun _ _ _ _ _ _ _ _ z => z.elim⟩ q⟩
theorem rfe_callL {W : WX} {Wf : DF} {ta : TA} {t : DA} (ha : RfA K cl W ta t) : RfE K cl W (tCallSD (spL K cl Wf) [] (fun σ => WE W σ) ta) (dCall Wf t) where
  mono2 := fun E E' ρ P P' hE h q => ha.mono2 E E' ρ _ _ hE (fun xs q => q.mono h fun e z => hE e ρ z) q
  ok := fun F0 H0 F H σ ρ E Q hh le q => by
    refine ha.ok F0 H0 F H σ ρ E _ hh le (ha.mono E ρ _ _ (fun xs q vs F1 H1 g1 r1 => ?_) q)
    obtain ⟨Q', E', q, a, b⟩ := q
    exact ⟨F1, xs, Q', E', g1.s, (hh.grow g1).tb, by rw [List.append_nil]; exact r1, q, fun d z v F' H' g r => a d z v F' H' (g1.trans g) r, fun e z c dx F' H' g r => le e ρ σ F' H' c dx ((hh.grow g1).grow g) (b e z) r⟩
end
section
variable {X : Cx} {K : Fg} {cl : Cl} {W : WX}
theorem ve_callL {Wf : DF} {k : Nat} {f : Addr} {fd : FuncData} {ps : List Str} {x : Str} {p pos : Pos} {e : Expr} {es : List Expr} {t : TA} {q : DA} (F : FnOk X.prog X.w K X.mg X.base (L2.CX X.prog X.w) k f fd ps (spL K cl Wf)) (hr : Room k X.A) (hg : Gl X x) (mg : X.mg x = some (.ref f)) (hk : PySem.W.keepIn K (.ref f) = true)
    (hb : Binds K fd ps []) (tk : Takes X W) (ha : VA X K cl W (e :: es) t q) (hdb : (x == ("__debug__" : Str)) = false := by decide) (he : starEach (e :: es) X.env = (false, eval e X.env) :: starEach es X.env := by rfl) (hpl : (backTo pos (starEach es X.env)).any (·.1) = false := by rfl) :
    VE X K cl W (.Call (.Name x p) (e :: es) [] pos) (tCallSD (spL K cl Wf) [] (fun σ => WE W σ) t) (dCall Wf q) := by
  obtain rfl := ha.hK
  exact ⟨pe_callSD F hr hg mg hk hb .nil (passAt tk) ha.pe hdb he hpl, rfe_callL ha.rf, rfl⟩
theorem ve_callL0 {Wf : DF} {k : Nat} {f : Addr} {fd : FuncData} {ps : List Str} {x : Str} {p pos : Pos} (F : FnOk X.prog X.w X.K X.mg X.base (L2.CX X.prog X.w) k f fd ps (spL X.K cl Wf)) (hr : Room k X.A) (hg : Gl X x) (mg : X.mg x = some (.ref f)) (hk : PySem.W.keepIn X.K (.ref f) = true)
    (hb : Binds X.K fd ps []) (tk : Takes X W) (hdb : (x == ("__debug__" : Str)) = false := by decide) : VE X X.K cl W (.Call (.Name x p) [] [] pos) (tCallSD (spL X.K cl Wf) [] (fun σ => WE W σ) tNil) (dCall Wf aNil) := by
  refine ⟨⟨fun pins s σ H Q I h => ?_⟩, rfe_callL rfa_nil, rfl⟩
  exact wpAny_Call_Name_kw (ld_glob I hg mg (PySem.W.callWith_K0 I.kIn hk (run_fnSD F hr hb .nil (passAt tk σ) I .nil h)) hdb)
theorem vx_add {a b : Expr} {pos : Pos} {i : Nat} {C : Addr} {ta tb : Addr → Value → Option Addr → TE} {p q : Err → DK → Prop} (ha : VX X K cl i C a ta p) (hb : VX X K cl i C b tb q) (hK : X.K = K := by rfl) : VX X K cl i C (.BinOp a .Add b pos) (fun y v d => tOp (rAddU K) (ta y v d) (tb y v d)) (xOp oAdd p q) := by
  obtain rfl := hK
  exact ⟨fun y oe v d pn hz hv => pe_op op_addU (ha.pe y oe v d pn hz hv) (hb.pe y oe v d pn hz hv), rx_op rf_add ha.rf hb.rf⟩
end
end DL

/-! DLamT: a law with defs that make lambdas. -/
namespace DL
open PySem L2 PyProof.Rows
section
variable [TN]
def spLawT (K : Fg) (T : List Addr) : Sp := fun vs H Q _ => ∃ (a : Addr) (ns : List Int), vs = [.ref a] ∧ SqL K H a (ns.map V.int) ∧ ns.length ≤ 63 ∧ (∀ P ∈ T, H P = some (.tbl #[])) ∧ ∀ H', Q (.bl true) H'
theorem law_okL {P : Program} {w : World} {K : Fg} {cl : Cl} {mg : Str → Option Value} {base : Heap} {k : Nat} {f : Addr} {fd : FuncData} {W : DF} (F : FnOk P w K mg base (L2.CX P w) k f fd ["script"] (spL K cl W)) (h : ∀ ns : List Int, ns.length ≤ 63 → W [.scr ns] (fun d => d = .bl true) fun _ => False) (hm : ∀ P ∈ cl.tabs, P ∈ TN.ts) :
    FnOk P w K mg base (L2.CX P w) k f fd ["script"] (spLawT K cl.tabs) :=
  F.imp fun vs H Q E ⟨a, ns, e, hS, hl, ht, q⟩ => by
    have key : ∃ F : Hp, Same F H ∧ (∀ P ∈ cl.tabs, F P = none) ∧ SqL K F a (ns.map V.int) := by
      rcases hS with hS | hS
      · refine ⟨fun b => if b = a then H b else none, fun b u z => ?_, fun P hP => ?_, .inl ?_⟩
        · have z : (if b = a then H b else none) = some u := z
          by_cases hb : b = a
          · rwa [if_pos hb] at z
          · rw [if_neg hb] at z; cases z
        · refine if_neg fun z => ?_
          have := ht P hP
          rw [z] at this
          rcases hS with hS | ⟨o, hS⟩ <;> (rw [hS] at this; cases this)
        · rcases hS with hS | ⟨o, hS⟩
          · exact .inl ((if_pos rfl).trans hS)
          · exact .inr ⟨o, (if_pos rfl).trans hS⟩
      · exact ⟨fun _ => none, fun b u z => absurd z (by simp), fun _ _ => rfl, Or.inr hS⟩
    obtain ⟨F0, s, nf, sq⟩ := key
    exact ⟨F0, [.scr ns], _, _, s, fun P hP => ⟨LamX.TabS.nil (ht P hP), nf P hP, hm P hP⟩, by rw [e]; exact .cons (.scr sq) .nil, h ns hl, fun d z v F' H' g r => by
      subst z
      cases r
      exact q H', fun _ z => z.elim⟩
end
/-- tables, one of each maker -/
@[reducible] def tnOf (ts : List (Addr × Str)) : TN := ⟨ts.map (·.1), fun P => (ts.lookup P).getD default⟩
theorem walkL {l : PySem.W.OpenLaw} {k : Nat} {q : Program} {loose : List Str} {XP : (Str → Option Value) → Heap → Prop} {YP : World → Heap → Prop} {d : DefRec} {K : Params → PySem.W.Frag}
    (hn : l.most = some 63) (hdf : d.params.defaults = []) (hr : Room k callerA) (hY : ∀ (w : World) (h : Heap), YP w h → (K w.params).In h)
    (F : ∀ (w : World) (mg : Str → Option Value) (fa : Addr) (h : Heap), YP w h → (K w.params).In h → h.Ns mainGlobals mg → mg d.name = some (.ref fa) → ∃ (fd : FuncData) (cs : List (Addr × Addr)), (∀ p ∈ cs, h.get? p.2 = some { cls := .none, data := .fields #[] }) ∧ (∀ p ∈ cs, (K w.params).lookup p.2 = none) ∧ (∀ p ∈ cs, PySem.W.CodeHd h p.1 p.2) ∧
      (∀ (s : Shared) (u : Value), BindsTo s fd ⟨[u], []⟩ [("script", u)]) ∧ ∀ base : Heap, (K w.params).In base → base.Ns mainGlobals mg → (∀ p ∈ cs, LamX.TabB base mg p.1 p.2) → FnOk l.prog w (K w.params) mg base (L2.CX l.prog w) k fa fd ["script"] (spLawT (K w.params) (cs.map (·.2)))) :
    PySem.W.WalkO q loose XP YP l.row.toRowW d [] (fun g us => PySem.call g us) :=
  LamX.walk_ofTs (n := 63) (k := k) (x := "script") (CX := fun w => L2.CX l.prog w) hn (by decide) hdf hr hY (fun w mg fa h Y KX G hmg => by
    obtain ⟨fd, cs, h1, h2, h3, hb, hF⟩ := F w mg fa h Y KX G hmg
    exact ⟨fd, cs, spLawT (K w.params) (cs.map (·.2)), h1, h2, h3, hb, fun H a ns hl _ ht hS => ⟨a, ns, rfl, hS, hl, fun P hP => (List.mem_map.mp hP).elim fun p ⟨hp, e⟩ => e ▸ ht p hp, fun _ => rfl⟩, hF⟩) fun _ _ _ _ _ z => by
    obtain ⟨_, _, _, _, _, _, _, _, _, _, _, _, z⟩ := z
    exact z
end DL

/-! DRg: list(range(..)) and tuple(range(..)). -/
namespace DL
open PySem L2 PyProof.Rows
variable [TN]
section
variable {X : Cx} {K : Fg} {cl : Cl} {W : WX} {pos : Pos} {ta tb : TE} {p q : DT} {a b : Expr}
theorem rg_reps {F : Hp} (i j : Int) : Reps K cl F (rgV i j) (rng i (j - i).toNat) := by
  unfold rgV rng
  generalize (j - i).toNat = n
  induction n with
  | zero => exact .nil
  | succ n ih =>
    have key : ∀ {vs ws : List V} {ds es : List D}, Reps K cl F vs ds → Reps K cl F ws es → Reps K cl F (vs ++ ws) (ds ++ es) := fun {vs} => by
      induction vs with
      | nil => intro ws ds es h1 h2; cases h1; exact h2
      | cons v vs ih => intro ws ds es h1 h2; cases h1 with | cons x y => exact .cons x (ih y h2)
    rw [List.range_succ, List.map_append, List.map_append]
    exact key ih (.cons (.int _) .nil)
theorem rg_ok {i j : Int} (h : rgOk i j) : RgOk i j := h
/-- bounds of a range -/
structure VRg (X : Cx) (K : Fg) (cl : Cl) (W : WX) (e : Expr) (te : L2.St → Hp → (Int → Int → Hp → Prop) → Prop) (t : EK → DL.Env → (Int → Int → Prop) → Prop) : Prop where
  pe : PRg X e te
  mono2 : ∀ E E' ρ (P P' : Int → Int → Prop), (∀ e ρ, E e ρ → E' e ρ) → (∀ i j, P i j → P' i j) → t E ρ P → t E' ρ P'
  ok : ∀ F0 H0 F H σ ρ E (Q : Int → Int → Hp → Prop), Hold K cl F0 H0 F H σ ρ → LinkE K cl F0 H0 W E → t E ρ (fun i j => ∀ F' H', Gr F H F' H' → Q i j H') → te σ H Q
  hK : X.K = K
theorem rg_1 {rp : Pos} (hg : Gl X "range") (hm : X.mg "range" = none) (ha : VE X K cl W a ta p) (na : starEach [a] X.env = (false, eval a X.env) :: starEach [] X.env := by rfl) : VRg X K cl W (.Call (.Name "range" rp) [a] [] pos) (tRg1 ta) (rgB1 p) := by
  obtain rfl := ha.hK
  refine ⟨prg_1 hg hm ha.pe na, fun E E' ρ P P' hE h z => ha.rf.mono2 E E' ρ _ _ hE (fun x z => ?_) z, fun F0 H0 F H σ ρ E Q hh le z => ?_, rfl⟩
  · cases x with
    | int n => exact h _ _ z
    | _ => exact z.elim
  · refine ha.rf.ok F0 H0 F H σ ρ E _ hh le (ha.rf.mono E ρ _ _ (fun x z v F1 H1 g1 r1 => ?_) z)
    cases r1 with
    | int n => exact ⟨n, rfl, z F1 H1 g1⟩
    | _ => exact z.elim
theorem rg_2 {rp : Pos} (hg : Gl X "range") (hm : X.mg "range" = none) (ha : VE X K cl W a ta p) (hb : VE X K cl W b tb q) (na : starEach [a, b] X.env = (false, eval a X.env) :: starEach [b] X.env := by rfl) (nb : starEach [b] X.env = (false, eval b X.env) :: starEach [] X.env := by rfl) (np : (backTo pos (starEach [b] X.env)).any (·.1) = false := by rfl) :
    VRg X K cl W (.Call (.Name "range" rp) [a, b] [] pos) (tRg2 ta tb) (rgB2 p q) := by
  obtain rfl := ha.hK
  refine ⟨prg_2 hg hm ha.pe hb.pe na nb np, fun E E' ρ P P' hE h z => ha.rf.mono2 E E' ρ _ _ hE (fun x z => hb.rf.mono2 E E' ρ _ _ hE (fun y z => ?_) z) z, fun F0 H0 F H σ ρ E Q hh le z => ?_, rfl⟩
  · cases x with
    | int n => cases y with
      | int m => exact h _ _ z
      | _ => exact z.elim
    | _ => exact z.elim
  · refine ha.rf.ok F0 H0 F H σ ρ E _ hh le (ha.rf.mono E ρ _ _ (fun x z v F1 H1 g1 r1 => ?_) z)
    refine hb.rf.ok F0 H0 F1 H1 σ ρ E _ (hh.grow g1) le (hb.rf.mono E ρ _ _ (fun y z u F2 H2 g2 r2 => ?_) z)
    cases r1 with
    | int n => cases r2 with
      | int m => exact ⟨n, m, rfl, rfl, z F2 H2 (g1.trans g2)⟩
      | _ => exact z.elim
    | _ => exact z.elim
section
variable {e : Expr} {te : L2.St → Hp → (Int → Int → Hp → Prop) → Prop} {t : EK → DL.Env → (Int → Int → Prop) → Prop} {lp : Pos}
theorem ve_tupRg (hc : X.calm = true) (hg : Gl X "tuple") (hm : X.mg "tuple" = none) (h : VRg X K cl W e te t) (na : starEach [e] X.env = (false, eval e X.env) :: starEach [] X.env := by rfl) : VE X K cl W (.Call (.Name "tuple" lp) [e] [] pos) (tTupRg te) (dTupRg t) := by
  obtain rfl := h.hK
  refine ⟨pe_tupRg hc hg hm h.pe na, ⟨fun E E' ρ P P' hE hP z => h.mono2 E E' ρ _ _ hE (fun i j z => ⟨z.1, hP _ z.2⟩) z, fun F0 H0 F H σ ρ E Q hh le z => ?_⟩, rfl⟩
  refine h.ok F0 H0 F H σ ρ E _ hh le (h.mono2 E E ρ _ _ (fun _ _ z => z) (fun i j z F1 H1 g1 => ⟨rg_ok z.1, fun l hl => ?_⟩) z)
  exact z.2 _ (upd F1 l _) _ (g1.trans (Gr.new g1.s hl)) (.tup (SqT.of upd_same) (rg_reps i j))
theorem vn_lstRg (hc : X.calm = true) (hg : Gl X "list") (hm : X.mg "list" = none) (h : VRg X K cl W e te t) (na : starEach [e] X.env = (false, eval e X.env) :: starEach [] X.env := by rfl) : VN X K cl W (.Call (.Name "list" lp) [e] [] pos) (tLstRg te) (dLstRg t) := by
  obtain rfl := h.hK
  refine ⟨pe_listRg hc hg hm h.pe na, ⟨fun E E' ρ P P' hE hP z => h.mono2 E E' ρ _ _ hE (fun i j z => ⟨z.1, hP _ z.2⟩) z, fun F0 H0 F H σ ρ E Q hh le z => ?_⟩, rfl⟩
  refine h.ok F0 H0 F H σ ρ E _ hh le (h.mono2 E E ρ _ _ (fun _ _ z => z) (fun i j z F1 H1 g1 => ⟨rg_ok z.1, fun l hl => ?_⟩) z)
  exact z.2 l F1 _ (g1.trans (Gr.h g1.s (nx_upd hl))) (g1.k.free hl) (g1.s.free hl) ⟨_, upd_same, rg_reps i j⟩
end
end
end DL

set_option maxHeartbeats 4000000
/-! DTk0: dicts that are keyed by tuples: comprehensions, update. -/
namespace DL
open PySem L2 PyProof.Rows
section
variable {X : Cx} {pins : List (Addr × Obj)} {σ : L2.St} {H : Hp} {s : Shared} {E : Value → Shared → Prop}
theorem kt_len {H : Hp} {kvs : List (List L2.Key × V)} {xs : List (List L2.Key × Addr × Value)} (r : KT H kvs xs) : kvs.length = xs.length := Paired.length r
theorem putK_len {α : Type} [DecidableEq α] (kvs : List (α × V)) (k : α) (v : V) : (putK kvs k v).length ≤ kvs.length + 1 := length_putK kvs k v
/-- an entry by a comprehension, the key a tuple -/
theorem dsetT {D b : Addr} {kvs : List (List L2.Key × V)} {k : List L2.Key} {y : V} {r : Value} {Q : Unit → Shared → Prop} (hu : X.A.units < cLine) (J : Inv X pins σ H s) (hD : H D = some (.dT kvs)) (few : kvs.length < sizeLine) (hb : H b = some (.tup (k.map kV))) (ry : RelV y r)
    (go : ∀ s', Inv X pins σ (upd H D (.dT (putK kvs k y))) s' → Q () s') : wpAny (model X.prog X.w) X.A (dictSet D (.ref b) r) Q E s := by
  obtain ⟨z, low, xs, rel, at_⟩ := dt_of J.hok hD
  have few' : xs.length ≤ sizeLine := by
    rw [← kt_len rel]
    exact z
  have fits : (putK kvs k y).length ≤ sizeLine := by
    have := putK_len kvs k y
    omega
  refine wpAny_dictSet_heap (hsz := few') hu (key_of J.hok hb) at_ fun h1 at1 but => go _ ?_
  obtain ⟨q, es, ep, e0, e1, e2, e3, _, e4⟩ := at1
  refine d_write J (by rw [hD]; exact True.intro) but ⟨q, e0⟩ ⟨fits, low, _, (rel.put k hb ry).keeps fun c ys ec => ?_, q, es, ep, e0, e1, e2, e3, e4⟩
  rw [upd_ne (L2.ne_of ec hD (fun z => nomatch z))]
  exact ec
end
/-- the entries of one dict, laid into another -/
def mergeT (kvs more : List (List L2.Key × V)) : List (List L2.Key × V) := more.foldl (fun acc p => putK acc p.1 p.2) kvs
theorem kt_all {H : Hp} : ∀ {more : List (List L2.Key × V)} {ys : List (List L2.Key × Addr × Value)} {kvs : List (List L2.Key × V)} {xs : List (List L2.Key × Addr × Value)}, KT H more ys → KT H kvs xs → KT H (mergeT kvs more) (storedAllH xs ys)
  | [], _, _, _, .nil, r => r
  | p :: _, q :: _, _, _, .cons h t, r => by
    obtain ⟨h1, h2, h3⟩ := h
    have z := kt_all t (r.put p.1 h2 h3)
    rw [h1] at z
    show KT H (mergeT (putK _ p.1 p.2) _) (storedAllH (storedH _ q.1 q.2.1 q.2.2) _)
    rw [h1]
    exact z
theorem merge_len : ∀ (more kvs : List (List L2.Key × V)), (mergeT kvs more).length ≤ kvs.length + more.length
  | [], kvs => Nat.le_refl _
  | p :: r, kvs => by
    have h1 := merge_len r (putK kvs p.1 p.2)
    have h2 := putK_len kvs p.1 p.2
    rw [List.length_cons]
    show (mergeT (putK kvs p.1 p.2) r).length ≤ _
    omega
/-- d.update(e), both keyed by tuples -/
def rUpdT (w : World) (P : Program) : V → List V → Hp → VK → Prop := fun x vs H Q => ∃ a b kvs more, x = .ref a ∧ vs = [.ref b] ∧ H a = some (.dT kvs) ∧ H b = some (.dT more) ∧ a ≠ b ∧ (kvs ≠ [] ∨ (more.map fun p => tupleKeyHash (mixKind P w) p.1).Nodup) ∧ kvs.length + more.length ≤ sizeLine ∧ Q .non (upd H a (.dT (mergeT kvs more)))
theorem mt_updT {X : Cx} (hu : X.A.units + 1 < cLine) : MtR X "dict.update" (rUpdT X.w X.prog) := by
  intro pins s σ H x vs v us Q J rx rv h
  obtain ⟨a, b, kvs, more, rfl, rfl, ha, hb, ne, apart, few, q⟩ := h
  cases rx
  cases rv with
  | cons ru rest =>
    cases rest
    cases ru
    obtain ⟨_, low, xs, rel, at_⟩ := dt_of J.hok ha
    obtain ⟨_, low2, ys, rel2, at2⟩ := dt_of J.hok hb
    have l1 := kt_len rel
    have l2 := kt_len rel2
    refine call_update_dictH (tupleKind_room_in1 hu) ne low2 at_ at2 ?_ (by omega) fun h1 at1 at2' but => ?_
    · rcases apart with z | z
      · left
        intro w
        rw [w] at l1
        exact z (List.length_eq_zero_iff.mp l1)
      · right
        refine ⟨fun p hp => ?_, ?_⟩
        · have : ∀ {l : List (List L2.Key × V)} {m : List (List L2.Key × Addr × Value)}, KT H l m → ∀ p ∈ m, ∃ ws, H p.2.1 = some (.tup ws) := by
            intro l m r
            induction r with
            | nil => exact fun p hp => by cases hp
            | cons h t ih =>
              intro p hp
              rcases List.mem_cons.mp hp with z | z
              · rw [z]
                exact ⟨_, h.2.1⟩
              · exact ih p z
          obtain ⟨ws, hw⟩ := this rel2 p hp
          obtain ⟨_, its, _, o, e1, e2, _⟩ := (show ObjOk X.prog X.w H s.heap p.2.1 (.tup ws) from J.hok _ _ hw)
          exact ⟨o, e1, e2⟩
        · have : ∀ {l : List (List L2.Key × V)} {m : List (List L2.Key × Addr × Value)}, KT H l m → (m.map fun x => tupleKeyHash (mixKind X.prog X.w) x.1) = l.map fun p => tupleKeyHash (mixKind X.prog X.w) p.1 := by
            intro l m r
            induction r with
            | nil => rfl
            | cons h t ih => rw [List.map_cons, List.map_cons, ih, h.1]
          show (ys.map fun x => tupleKeyHash (mixKind X.prog X.w) x.1).Nodup
          rw [this rel2]
          exact z
    · have fits : (mergeT kvs more).length ≤ sizeLine := by
        have := merge_len more kvs
        omega
      obtain ⟨o, es, ep, e0, e1, e2, e3, _, e4⟩ := at1
      refine ⟨.non, _, d_write (ob := .dT (mergeT kvs more)) J (by rw [ha]; exact True.intro) but ⟨o, e0⟩ ⟨fits, low, _, (kt_all rel2 rel).keeps fun c zs ec => ?_, o, es, ep, e0, e1, e2, e3, e4⟩, rfl, q⟩
      rw [upd_ne (L2.ne_of ec ha (fun z => nomatch z))]
      exact ec
section
variable {X : Cx}
/-- {(..): v for g in it if ..}: D the new dict, its keys tuples -/
def tDcT (wi : TI) (g : TG) (tt : TT) (tk tv : TE) (vs : List Nat) : TE := fun σ H Q => wi σ H fun J H1 => ∀ D, H1 D = none → ∃ U : Nat → Nat → Hp → Prop, (∃ m, U 0 m (upd H1 D (.dT []))) ∧ ∀ i m H, U i m H →
  (J.stop i H ∧ Q (.ref D) H) ∨ (J.go i H ∧ ∃ nx : Hp → Prop, (∀ H', nx H' → ∃ m', m' < m ∧ U (i + 1) m' H') ∧ ∀ x H', J.yld i H x H' → g x (wipe σ vs) H' fun τ H2 => wipe τ vs = wipe σ vs ∧ tt τ H2 fun b H3 =>
    if b = true then tk τ H3 fun y H4 => tv τ H4 fun z H5 => ∃ kvs k b, y = .ref b ∧ H5 b = some (.tup (k.map kV)) ∧ H5 D = some (.dT kvs) ∧ kvs.length < sizeLine ∧ nx (upd H5 D (.dT (putK kvs k z))) else nx H3)
theorem coreT {pins : List (Addr × Obj)} {s : Shared} {σ : L2.St} {H : Hp} {Q : VK} {kx vx tg it0 : Expr} {ifs : List Expr} {sc : Scope} {own : List (Str × Nat)} {pos pos' : Pos} {wi : TI} {g : TG} {tt : TT} {tk tv : TE} {use : Option (Value → Sem Unit)} {R : Value → Shared → Prop} (hu : X.A.units < cLine)
    (calm : X.calm = true) (nd : X.N.Nodup) (J : Inv X pins σ H s) (hi : PI X tg it0 wi) (ok : BlkOk X.N X.env.scope sc own)
    (hg : ∀ (s : Shared) (H : Hp) (C : Addr) (l : List (Str × Addr)) (fp : List Addr), PG (X.blk s H sc (compEnvC sc l C X.env) fp) tg g)
    (ht : ∀ (s : Shared) (H : Hp) (C : Addr) (l : List (Str × Addr)) (fp : List Addr), PTs (X.blk s H sc (compEnvC sc l C X.env) fp) ifs tt)
    (hk : ∀ (s : Shared) (H : Hp) (C : Addr) (l : List (Str × Addr)) (fp : List Addr), PE (X.blk s H sc (compEnvC sc l C X.env) fp) kx tk)
    (hv : ∀ (s : Shared) (H : Hp) (C : Addr) (l : List (Str × Addr)) (fp : List Addr), PE (X.blk s H sc (compEnvC sc l C X.env) fp) vx tv) (plain : ∀ x, foldedSetIterable it0 X.env x = pure x)
    (h : tDcT wi g tt tk tv (own.map (·.2)) σ H Q)
    (done : ∀ D C s' m H', Inv X pins σ H' s' → Q (.ref D) H' → s'.heap.Ns C m → FpOk X pins H' C → compPost (model X.prog X.w) X.A X.xe use R (.ref D) C (.ok .next) s') :
    wpAny (model X.prog X.w) X.A (comprehension (.DictComp kx vx [⟨tg, it0, ifs, 0⟩] sc pos) sc X.env pos' newDict false (eval it0 X.env) use) R X.xe s := by
  have cells : ∀ y ∈ sc.names, y.2 = .free → ∃ c, X.env.cells.lookup y.1 = some c := fun y hy e => by
    rcases ok.free y hy e with z | z
    · exact J.ok.has _ (.inl z)
    · exact J.ok.has _ (.inr z)
  refine wpAny_comprehension_free (use := use) rfl plain (closure_ok cells) ok.kind (fun y hy e => by rw [ok.uniq y hy, e]) (thn (hi.run pins s σ H _ J h) fun u0 sA hx => thn hx fun u1 sB hy => ?_)
  obtain ⟨a0, fp, at_, It, HB, e, JB, T, stB, fB, q⟩ := hy
  subst e
  refine wpAny_newObj_type (newEnv_comp ?_)
  generalize hD : sB.heap.objs.size = D
  obtain ⟨U, ⟨m0, u0'⟩, turn⟩ := q D (JB.hok.fresh (Nat.le_of_eq hD))
  generalize hsC : ({ sB with heap := sB.heap.push { cls := .type "dict", data := .dict #[] } } : Shared) = sC
  have JC : Inv X pins σ (upd HB D (.dT [])) sC := by
    rw [← hsC]
    refine JB.laid (t' := sB.toks) (fun b o e => Heap.get?_push_of_some _ e) (Nat.le_of_eq hD) ?_
    rw [← hD]
    exact dt_empty sB.heap JB.big
  have hC : sC.heap = sB.heap.push { cls := .type "dict", data := .dict #[] } := by rw [← hsC]
  have fC : ∀ b ∈ fp, FpOk X pins (upd HB D (.dT [])) b ∧ b < sC.heap.objs.size := fun b hb => by
    obtain ⟨o, eo, _⟩ := T.obj _ _ stB b hb
    have lt := Heap.lt_size eo
    refine ⟨⟨?_, (fB b hb).2⟩, by rw [hC, Heap.size_push]; exact Nat.lt_succ_of_lt lt⟩
    rw [upd_ne (by rw [← hD]; exact Nat.ne_of_lt lt)]
    exact (fB b hb).1
  have stC : at_ 0 sC.heap := T.keep _ _ _ stB fun b _ o e => by rw [hC]; exact Heap.get?_push_of_some _ e
  have J4 := block_start JC ok nd fC
  have pg := hg sC (upd HB D (.dT [])) sC.heap.objs.size (cellsFrom (sC.heap.objs.size + 1) sc.names (cloFrom X.env.cells sc.names [])) fp
  have pt := ht sC (upd HB D (.dT [])) sC.heap.objs.size (cellsFrom (sC.heap.objs.size + 1) sc.names (cloFrom X.env.cells sc.names [])) fp
  have pk := hk sC (upd HB D (.dT [])) sC.heap.objs.size (cellsFrom (sC.heap.objs.size + 1) sc.names (cloFrom X.env.cells sc.names [])) fp
  have pv := hv sC (upd HB D (.dT [])) sC.heap.objs.size (cellsFrom (sC.heap.objs.size + 1) sc.names (cloFrom X.env.cells sc.names [])) fp
  show codeAny _ _ (.compStart (.DictComp kx vx [⟨tg, it0, ifs, 0⟩] sc pos) 0 (.ref a0) (.ref D) (compEnvC sc (cellsFrom (sC.heap.objs.size + 1) sc.names (cloFrom X.env.cells sc.names [])) sC.heap.objs.size X.env)) (compPost (model X.prog X.w) X.A X.xe use R (.ref D) sC.heap.objs.size) { sC with heap := pushCells (sC.heap.push { cls := .type "dict", data := .dict #[] }) sc.names }
  have noF : ∀ b ∈ fp, (upd HB D (.dT [])) b = none := fun b hb => (fC b hb).1.1
  generalize hce : compEnvC sc (cellsFrom (sC.heap.objs.size + 1) sc.names (cloFrom X.env.cells sc.names [])) sC.heap.objs.size X.env = ce at J4 pg pt pk pv ⊢
  have eL : ce.locals = sC.heap.objs.size := by subst hce; rfl
  generalize hH3 : upd HB D (.dT []) = H3 at JC J4 pg pt pk pv u0' noF fC
  generalize hs4 : ({ sC with heap := pushCells (sC.heap.push { cls := .type "dict", data := .dict #[] }) sc.names } : Shared) = s4 at J4 ⊢
  have st4 : at_ 0 s4.heap := T.keep _ _ _ stC fun b _ o e => by rw [← hs4]; exact pushCells_keeps _ _ _ _ (Heap.get?_push_of_some _ e)
  have steady : ∀ {σ' : L2.St} {H' : Hp} {s' : Shared}, Inv (X.blk sC H3 sc ce fp) [] σ' H' s' → (∀ b ∈ fp, H' b = none) → ∀ b ∈ fp, FpOk (X.blk sC H3 sc ce fp) [] H' b := fun {σ' H' s'} I' n b hb =>
    ⟨n b hb, (I'.ok.exf b hb).1, I'.ok.exfs b hb, .inl hb, fun x c e => (I'.ok.exf b hb).2 x c e, fun p hp => absurd (show p ∈ ([] : List (Addr × Obj)) ++ [] from hp) (by simp)⟩
  have loop : codeAny (model X.prog X.w) X.A (.compLoop (.DictComp kx vx [⟨tg, it0, ifs, 0⟩] sc pos) 0 (.ref a0) (.ref D) ce) (compPost (model X.prog X.w) X.A X.xe use R (.ref D) sC.heap.objs.size) s4 := by
    refine compLoop_anyD (fun n s' => ∃ i H', Inv (X.blk sC H3 sc ce fp) [] (wipe σ (own.map (·.2))) H' s' ∧ at_ i s'.heap ∧ (∀ b ∈ fp, H' b = none) ∧ U i n H') ?_ m0 ⟨0, H3, J4, st4, noF, u0'⟩
    rintro n s5 ⟨i, H5, J5, st5, n5, u5⟩
    rcases turn i n H5 u5 with ⟨end_, qq⟩ | ⟨on, nx, small, step⟩
    · refine thnF (T.done (X.blk sC H3 sc ce fp) rfl rfl rfl calm i [] s5 _ H5 (fun _ _ => False) J5 (steady J5 n5) st5 end_) fun r s6 ⟨hr, J6⟩ => ?_
      subst hr
      have nC : H5 sC.heap.objs.size = none := by
        have z : H5 ce.locals = none := J6.free
        rw [eL] at z
        exact z
      have J7 : Inv X pins σ H5 s6 := JC.call' (ch := fp) J6.os J6.base J6.hok J6.bare fun b hb => ⟨(fC b hb).1.2.2.2.1, (fC b hb).1.2.1, (fC b hb).1.2.2.2.2.1, (fC b hb).1.2.2.2.2.2⟩
      obtain ⟨m, hn, _⟩ := J6.loc
      have hn : s6.heap.Ns ce.locals m := hn
      rw [eL] at hn
      exact done D sC.heap.objs.size s6 m H5 J7 qq hn (JC.fpOk (Nat.le_refl _) nC)
    · refine thnF (T.item (X.blk sC H3 sc ce fp) rfl rfl rfl calm i [] s5 _ H5 (fun _ _ => False) J5 (steady J5 n5) st5 on) fun r s6 ⟨u, hr, h6⟩ => ?_
      subst hr
      refine thnF h6 fun _ s7 ⟨x, H7, J7, r7, y7, st7, n7⟩ => ?_
      refine thnF (pg.run _ s7 _ H7 x u _ (J7.pinned (steady J7 n7) (T.obj _ _ st7)) r7 (step x H7 y7)) fun _ s8 ⟨σ8, H8, J8, hw8, q8⟩ => ?_
      refine thnF (pt.run _ s8 σ8 H8 _ J8 q8) fun b s9 ⟨H9, J9, q9⟩ => ?_
      have back : ∀ {s' : Shared} {H' : Hp}, Inv (X.blk sC H3 sc ce fp) ([] ++ pinsAt fp s7.heap) σ8 H' s' → nx H' → ∃ m, m < n ∧ ∃ i H', Inv (X.blk sC H3 sc ce fp) [] (wipe σ (own.map (·.2))) H' s' ∧ at_ i s'.heap ∧ (∀ b ∈ fp, H' b = none) ∧ U i m H' := fun {s' H'} I' z => by
        obtain ⟨m', lt, u'⟩ := small H' z
        have held : ∀ b ∈ fp, ∀ o, s7.heap.get? b = some o → s'.heap.get? b = some o ∧ H' b = none := fun b hb o e =>
          let z := I'.pin (b, o) (List.mem_append_right _ (List.mem_append_right _ (mem_pinsAt hb e)))
          ⟨z.1, z.2.1⟩
        have len8 : (wipe σ (own.map (·.2))).length = σ8.length := by rw [← hw8, wipe_length]
        refine ⟨m', lt, i + 1, H', (I'.unpinned (pins := [])).weak len8 (fun j v e => ?_), T.keep _ _ _ st7 fun b hb o e => (held b hb o e).1, fun b hb => ?_, u'⟩
        · rw [← hw8] at e
          exact (wipe_some e).1
        · obtain ⟨o, e, _⟩ := T.obj _ _ st7 b hb
          exact (held b hb o e).2
      cases b with
      | false =>
        simp only [Bool.false_eq_true, if_false] at q9 ⊢
        exact back J9 q9
      | true =>
        simp only [if_true] at q9 ⊢
        refine thnF (pk.run _ s9 σ8 H9 _ J9 q9) fun z s10 ⟨yk, H10, J10, r10, q10⟩ => ?_
        refine thnF (pv.run _ s10 σ8 H10 _ J10 q10) fun z2 s11 ⟨yv, H11, J11, r11, kvs, k, b, ek, eb, hD11, few, z3⟩ => ?_
        subst ek
        cases r10
        exact dsetT (X := X.blk sC H3 sc ce fp) hu J11 hD11 few eb r11 fun s12 J12 => back J12 z3
  exact codeAny_compStart_dict loop (T.self X.A 0 _ _ _ st4 loop)
theorem pe_dcT {kx vx tg it0 : Expr} {ifs : List Expr} {sc : Scope} {own : List (Str × Nat)} {pos : Pos} {wi : TI} {g : TG} {tt : TT} {tk tv : TE} (hu : X.A.units < cLine) (calm : X.calm = true) (nd : X.N.Nodup) (hi : PI X tg it0 wi) (ok : BlkOk X.N X.env.scope sc own)
    (hg : ∀ (s : Shared) (H : Hp) (C : Addr) (l : List (Str × Addr)) (fp : List Addr), PG (X.blk s H sc (compEnvC sc l C X.env) fp) tg g)
    (ht : ∀ (s : Shared) (H : Hp) (C : Addr) (l : List (Str × Addr)) (fp : List Addr), PTs (X.blk s H sc (compEnvC sc l C X.env) fp) ifs tt)
    (hk : ∀ (s : Shared) (H : Hp) (C : Addr) (l : List (Str × Addr)) (fp : List Addr), PE (X.blk s H sc (compEnvC sc l C X.env) fp) kx tk)
    (hv : ∀ (s : Shared) (H : Hp) (C : Addr) (l : List (Str × Addr)) (fp : List Addr), PE (X.blk s H sc (compEnvC sc l C X.env) fp) vx tv) (plain : ∀ x, foldedSetIterable it0 X.env x = pure x := by intro _; rfl) :
    PE X (.DictComp kx vx [⟨tg, it0, ifs, 0⟩] sc pos) (tDcT wi g tt tk tv (own.map (·.2))) := by
  refine ⟨fun pins s σ H Q J h => ?_⟩
  rw [arm_eval_DictComp]
  refine coreT hu calm nd J hi ok hg ht hk hv plain h fun D C s' m H' I' q hn f => ⟨m, hn, fun h'' sb => ?_⟩
  exact ⟨.ref D, H', I'.turned (t' := s'.toks) (fun b o hb e => (sb.2 b hb).trans e) f.1 f.2.1 f.2.2.2.1 f.2.2.2.2.1 f.2.2.2.2.2, rfl, q⟩
end
end DL

/-! DHash: pairs of small numbers have hashes of their own. -/
namespace DL
open PySem L2
def hsh (i : Nat) : Nat := (reduceHash (Builtin.Tuple.tupleHashOf [hashInt ((i / 20 : Nat) : Int), hashInt ((i % 20 : Nat) : Int)]) % 1000003).toNat
def apart : Nat → List Nat → Bool
  | _, [] => true
  | m, x :: r => bif Nat.testBit m x then false else apart (m ||| 2 ^ x) r
theorem apart_nd : ∀ {l : List Nat} {m : Nat}, apart m l = true → (∀ x ∈ l, Nat.testBit m x = false) ∧ l.Nodup
  | [], _, _ => ⟨fun x h => (List.not_mem_nil h).elim, List.nodup_nil⟩
  | x :: r, m, h => by
    unfold apart at h
    cases e : Nat.testBit m x with
    | true => rw [e] at h; cases h
    | false =>
      rw [e] at h
      obtain ⟨h1, h2⟩ := apart_nd (l := r) h
      refine ⟨fun y hy => ?_, List.nodup_cons.mpr ⟨fun hx => ?_, h2⟩⟩
      · rcases List.mem_cons.mp hy with z | z
        · rw [z]
          exact e
        · have := h1 y z
          rw [Nat.testBit_or, Bool.or_eq_false_iff] at this
          exact this.1
      · have := h1 x hx
        rw [Nat.testBit_or, Nat.testBit_two_pow] at this
        simp at this
theorem all_apart : apart 0 ((List.range 400).map hsh) = true := by decide +kernel
theorem hsh_inj {i j : Nat} (hi : i < 400) (hj : j < 400) (e : hsh i = hsh j) : i = j := by
  have nd := (apart_nd all_apart).2
  have h1 : ((List.range 400).map hsh)[i]? = some (hsh i) := by simp [hi]
  have h2 : ((List.range 400).map hsh)[j]? = some (hsh i) := by simp [hj, e]
  have l1 : i < ((List.range 400).map hsh).length := by simp [hi]
  exact (List.getElem?_inj l1 nd).mp (h1.trans h2.symm)
theorem hash_pair {P : Program} {w : World} {a b c d : Int} (ha : 0 ≤ a ∧ a < 20) (hb : 0 ≤ b ∧ b < 20) (hc : 0 ≤ c ∧ c < 20) (hd : 0 ≤ d ∧ d < 20) (e : tupleKeyHash (mixKind P w) [.inl a, .inl b] = tupleKeyHash (mixKind P w) [.inl c, .inl d]) : a = c ∧ b = d := by
  have key : ∀ x y : Int, 0 ≤ x ∧ x < 20 → 0 ≤ y ∧ y < 20 → hsh (20 * x.toNat + y.toNat) = (tupleKeyHash (mixKind P w) [.inl x, .inl y] % 1000003).toNat := by
    intro x y hx hy
    unfold hsh
    rw [show (20 * x.toNat + y.toNat) / 20 = x.toNat by omega, show (20 * x.toNat + y.toNat) % 20 = y.toNat by omega, Int.toNat_of_nonneg hx.1, Int.toNat_of_nonneg hy.1]
    rfl
  have := hsh_inj (i := 20 * a.toNat + b.toNat) (j := 20 * c.toNat + d.toNat) (by omega) (by omega) (by rw [key a b ha hb, key c d hc hd, e])
  omega
end DL

set_option maxHeartbeats 2000000
/-! DTk: own dicts that are keyed by tuples. -/
namespace DL
open PySem L2 PyProof.Rows
variable [TN]
section
variable {K : Fg} {cl : Cl} {W : WX}
theorem gOT_out {o : Option Sl} {Q : List (List DL.Key × D) → Prop} (h : gOT o Q) : ∃ xs, o = some (.o (.dt xs)) ∧ Q xs := by
  unfold gOT at h
  split at h
  · exact ⟨_, rfl, h⟩
  · exact h.elim
theorem gOT_in {o : Option Sl} {Q : List (List DL.Key × D) → Prop} {xs : List (List DL.Key × D)} (e : o = some (.o (.dt xs))) (h : Q xs) : gOT o Q := by rw [e]; exact h
theorem gKs_out {ds : List D} {Q : List DL.Key → Prop} (h : gKs ds Q) : ∃ ks, keysOf ds = some ks ∧ Q ks := by
  unfold gKs at h
  split at h
  · rename_i e
    exact ⟨_, e, h⟩
  · exact h.elim
theorem gKs_in {ds : List D} {Q : List DL.Key → Prop} {ks : List DL.Key} (e : keysOf ds = some ks) (h : Q ks) : gKs ds Q := by unfold gKs; rw [e]; exact h
theorem keys_v {F : Hp} : ∀ {ds : List D} {ks : List DL.Key} {vs : List V}, keysOf ds = some ks → Reps K cl F vs ds → vs = ks.map kV
  | [], ks, _, e, .nil => by cases e; rfl
  | d :: r, ks, _, e, .cons h t => by
    simp only [keysOf] at e
    cases e1 : keyOf d with
    | none => rw [e1] at e; cases e
    | some k =>
      cases e2 : keysOf r with
      | none => rw [e1, e2] at e; cases e
      | some ls =>
        rw [e1, e2] at e
        cases e
        rw [keys_v e2 t, List.map_cons]
        congr 1
        cases d with
        | int i => cases h; cases e1; rfl
        | str x => cases h; cases e1; rfl
        | _ => cases e1
theorem TReps.len {F : Hp} : ∀ {ws : List (List L2.Key × V)} {kvs : List (List DL.Key × D)}, TReps K cl F ws kvs → ws.length = kvs.length
  | _, _, .nil => rfl
  | _, _, .cons _ r => by rw [List.length_cons, List.length_cons, TReps.len r]
theorem TReps.any {F : Hp} (k : List DL.Key) : ∀ {ws : List (List L2.Key × V)} {kvs : List (List DL.Key × D)}, TReps K cl F ws kvs → (ws.any fun kv => decide (kv.1 = k)) = (kvs.any fun kv => decide (kv.1 = k))
  | _, _, .nil => rfl
  | _, _, .cons _ r => by rw [List.any_cons, List.any_cons, TReps.any k r]
theorem TReps.swap {F : Hp} {v : V} {d : D} (k : List DL.Key) (h : Rep K cl F v d) : ∀ {ws : List (List L2.Key × V)} {kvs : List (List DL.Key × D)}, TReps K cl F ws kvs → TReps K cl F (ws.map fun kv => if kv.1 = k then (kv.1, v) else kv) (kvs.map fun kv => if kv.1 = k then (kv.1, d) else kv)
  | _, _, .nil => .nil
  | _, _, .cons (k := j) h2 r => by
    rw [List.map_cons, List.map_cons]
    by_cases e : j = k
    · simp only [e, if_true]
      exact .cons h (TReps.swap k h r)
    · simp only [e, if_false]
      exact .cons h2 (TReps.swap k h r)
theorem TReps.app {F : Hp} : ∀ {ws us : List (List L2.Key × V)} {kvs js : List (List DL.Key × D)}, TReps K cl F ws kvs → TReps K cl F us js → TReps K cl F (ws ++ us) (kvs ++ js)
  | _, _, _, _, .nil, r => r
  | _, _, _, _, .cons h r, r2 => .cons h (r.app r2)
theorem TReps.put {F : Hp} {v : V} {d : D} (k : List DL.Key) (h : Rep K cl F v d) {ws : List (List L2.Key × V)} {kvs : List (List DL.Key × D)} (r : TReps K cl F ws kvs) : TReps K cl F (putK ws k v) (putD kvs k d) := by
  unfold putK putD
  rw [r.any k]
  split
  · exact r.swap k h
  · exact r.app (.cons h .nil)
theorem TReps.merge {F : Hp} : ∀ {us : List (List L2.Key × V)} {js : List (List DL.Key × D)} {ws : List (List L2.Key × V)} {kvs : List (List DL.Key × D)}, TReps K cl F us js → TReps K cl F ws kvs → TReps K cl F (mergeT ws us) (mergeDT kvs js)
  | _, _, _, _, .nil, r => r
  | _, _, _, _, .cons (k := k) (v := v) (d := d) (vs := us) (ds := js) h t, r => by
    show TReps K cl F (mergeT (putK _ k v) us) (mergeDT (putD _ k d) js)
    exact TReps.merge t (r.put k h)
theorem TReps.keys {F : Hp} : ∀ {ws : List (List L2.Key × V)} {kvs : List (List DL.Key × D)}, TReps K cl F ws kvs → ws.map (·.1) = kvs.map (·.1)
  | _, _, .nil => rfl
  | _, _, .cons _ r => by rw [List.map_cons, List.map_cons, TReps.keys r]
theorem rfn_newT : RfN K cl W tDNewT dNewT where
  mono2 := fun E E' ρ P P' hE h q => h _ q
  ok := fun F0 H0 F H σ ρ E Q hh le q p hp => q p F _ (Gr.h hh.g.s (nx_upd hp)) hp (hh.g.s.free hp) ⟨[], upd_same, .nil⟩
theorem rfs_putT {i : Nat} {ta : TA} {tb : TE} {p : DA} {q : DT} (ha : RfA K cl W ta p) (hb : RfE K cl W tb q) : RfS K cl W (sDPut (tVar i) (tTup ta) tb) (sPutT i p q) where
  mono2 := fun E E' A B ρ hE l q => by
    obtain ⟨xs, e, q⟩ := gOT_out q
    refine gOT_in e (hb.mono2 E E' ρ _ _ hE (fun y q => ha.mono2 E E' ρ _ _ hE (fun ds q => ⟨q.1, ?_⟩) q) q)
    obtain ⟨ks, ek, q1, q2⟩ := gKs_out q.2
    exact gKs_in ek ⟨q1, l.nx _ q2⟩
  ok := fun F0 H0 F H σ ρ E B A hh le ld q => by
    obtain ⟨xs, e, q⟩ := gOT_out q
    obtain ⟨a, ea, n0, nf, vs, ho, rr⟩ := hh.ownAt e
    refine hb.ok F0 H0 F H σ ρ E _ hh le (hb.mono E ρ _ _ (fun y q v F1 H1 g1 r1 => ?_) q)
    refine ⟨.ref a, ea, ?_⟩
    refine ha.ok F0 H0 F1 H1 σ ρ E _ (hh.grow g1) le (ha.mono E ρ _ _ (fun ds q us F2 H2 g2 r2 => ?_) q)
    obtain ⟨q0, q⟩ := q
    obtain ⟨ks, ek, q1, q2⟩ := gKs_out q
    refine ⟨by rw [r2.length, ← line_eq]; exact q0, fun b hb => ?_⟩
    have eu := keys_v ek r2
    have g3 : Gr F2 H2 (upd F2 b (.tup us)) (upd H2 b (.tup us)) := Gr.new g2.s hb
    have g := (g1.trans g2).trans g3
    refine ⟨a, _, rfl, DPut.t (g.k.get ho) (k := ks) (by rw [upd_same, eu]) (by rw [TReps.len rr]; exact small_line q1), ?_⟩
    exact ld.nx _ _ _ _ ((hh.grow g).mut (d' := .dt (putD xs ks y)) ea e ⟨putK vs ks v, upd_same, (rr.mono g.f).put ks ((r1.mono g2.f).mono g3.f)⟩) q2
theorem rf_lenT : RfC K cl rLenT fLenT where
  mono := fun x P P' h q => by
    match x, q with
    | [.dt kvs], q => exact ⟨q.1, h _ q.2⟩
  ok := fun F H v x Q s r q => by
    match x, q, r with
    | [.dt kvs], q, .cons (.dt (a := a) (ws := ws) e t) .nil =>
      refine ⟨a, ws, rfl, s _ _ e, ?_⟩
      rw [TReps.len t]
      exact q.2 _ F H (Gr.refl s) (.int _)
/-! comprehensions -/
theorem dcTL_mono {tg : TG} {js : List Nat} {g : DG} {tt : TT} {t : DB} {ta : TA} {tv : TE} {k : DA} {e : DT} (hg : RfG K cl js tg g) (ht : RfB K cl (fun _ _ _ _ => False) tt t) (hk : RfA K cl (fun _ _ _ _ => False) ta k) (he : RfE K cl (fun _ _ _ _ => False) tv e) :
    ∀ (xs : List D) (ρ : DL.Env) (acc : List (List DL.Key × D)) (Q Q' : List (List DL.Key × D) → Prop), (∀ r, Q r → Q' r) → dcTL g t k e ρ xs acc Q → dcTL g t k e ρ xs acc Q'
  | [], ρ, acc, Q, Q', hQ, q => hQ _ q
  | x :: r, ρ, acc, Q, Q', hQ, q => hg.mono x ρ _ _ (fun ρ' q => ht.mono noE ρ' _ _ (fun b q => by
      cases b with
      | true =>
        refine hk.mono noE ρ' _ _ (fun y q => ⟨q.1, he.mono noE ρ' _ _ (fun z q => ?_) q.2⟩) q
        obtain ⟨j, ej, q1, q2⟩ := gKs_out q
        exact gKs_in ej ⟨q1, dcTL_mono hg ht hk he r ρ _ Q Q' hQ q2⟩
      | false => exact dcTL_mono hg ht hk he r ρ acc Q Q' hQ q) q) q
theorem rfn_dcT {js vs : List Nat} {wi : TI} {it : DI} {g : TG} {d : DG} {tt : TT} {t : DB} {ta : TA} {tv : TE} {k : DA} {e : DT} (hi : RfI K cl W wi it) (hg : RfG K cl js g d) (hn : NoO d) (hjs : ∀ j ∈ js, j ∈ vs)
    (ht : RfB K cl (fun _ _ _ _ => False) tt t) (hk : RfA K cl (fun _ _ _ _ => False) ta k) (he : RfE K cl (fun _ _ _ _ => False) tv e) : RfN K cl W (tDcT wi g tt (tTup ta) tv vs) (dDcT it d t k e vs) where
  mono2 := fun E E' ρ P P' hE h q => hi.mono2 E E' ρ _ _ hE (fun xs q => dcTL_mono hg ht hk he xs _ _ _ _ (fun r q => h _ q) q) q
  ok := fun F0 H0 F H σ ρ E Q hh le q => by
    refine hi.ok F0 H0 F H σ ρ E _ hh le (hi.mono E ρ _ _ (fun xs q J F1 H1 g1 wk D0 hD => ?_) q)
    have hh1 := hh.grow g1
    have hb := hh1.wipe (vs := vs)
    have hF1 : F1 D0 = none := g1.s.free hD
    have leN : ∀ {A B : Hp}, LinkE K cl A B (fun _ _ _ _ => False) noE := fun {A B} err ρ σ F H c dx _ z _ => z.elim
    let In : Nat → Hp → Prop := fun i H => ∃ F ws acc, Hold K cl F1 H1 F H (wipe σ vs) (noOwn (wipeE ρ vs)) ∧ F D0 = none ∧ H D0 = some (.dT ws) ∧ TReps K cl F ws acc ∧
      dcTL d t k e (noOwn (wipeE ρ vs)) (xs.drop i) acc (fun r => ∀ p F' H', Gr F1 H1 F' H' → H1 p = none → F' p = none → Own K cl F' H' p (.dt r) → Q (.ref p) H')
    refine ⟨fun i m H => m = xs.length - i ∧ i ≤ xs.length ∧ In i H, ⟨xs.length, by simp, Nat.zero_le _, F1, [], [], hb.list (fun i d => noOwn_o i d) hF1 hD (.free hD), hF1, upd_same, .nil, ?_⟩, ?_⟩
    · exact dcTL_mono hg ht hk he _ _ _ _ _ (fun r q p F' H' g2 h1 h2 h3 => q p F' H' (g1.trans g2) (g1.k.free h1) h2 h3) q
    · rintro i m H2 ⟨rfl, hi2, F2, ws, acc, h2, hF2, hD2, ra, q2⟩
      have w2 := wk F2 H2 h2.g.f h2.g.s
      by_cases hlt : i < xs.length
      · have ed : xs.drop i = xs[i] :: xs.drop (i + 1) := List.drop_eq_getElem_cons hlt
        rw [ed] at q2
        obtain ⟨wg, wy⟩ := w2.2 i xs[i] (List.getElem?_eq_getElem hlt)
        refine .inr ⟨wg, fun H' => In (i + 1) H', fun H' z => ⟨xs.length - (i + 1), by omega, rfl, hlt, z⟩, fun x H3 hy => ?_⟩
        obtain ⟨F3, g3, r3⟩ := wy x H3 hy
        have h3 := h2.grow g3
        have n3 : F3 D0 = none := g3.keepNone hD2 hF2
        refine hg.ok F1 H1 F3 H3 _ _ x xs[i] _ h3 r3 (hg.mono _ _ _ _ (fun ρ4 q4 σ4 h4 ag => ?_) (hn.k _ _ _ (fun i d => noOwn_o i d) q2))
        obtain ⟨no4, q4⟩ := q4
        refine ⟨(wipe_same ag hjs).trans (wipe_same (vs := vs) (js := vs) (σ := σ) (σ' := wipe σ vs) ⟨wipe_length _ _, fun i hi => wipe_out hi⟩ (fun j hj => hj)), ?_⟩
        refine ht.ok F1 H1 F3 H3 σ4 ρ4 noE _ h4 leN (ht.mono noE ρ4 _ _ (fun b q F4 H4 g4 => ?_) q4)
        have n4 : F4 D0 = none := g4.keepNone (g3.k.get hD2) n3
        have e4 : H4 D0 = some (.dT ws) := g4.k.get (g3.k.get hD2)
        cases b with
        | false => exact ⟨F4, ws, acc, h3.grow g4, n4, e4, (ra.mono g3.f).mono g4.f, q⟩
        | true =>
          refine hk.ok F1 H1 F4 H4 σ4 ρ4 noE _ (h4.grow g4) leN (hk.mono noE ρ4 _ _ (fun ds q us F5 H5 g5 r5 => ?_) q)
          obtain ⟨q0, q⟩ := q
          refine ⟨by rw [r5.length, ← line_eq]; exact q0, fun b hb => ?_⟩
          have n5 : F5 D0 = none := g5.keepNone e4 n4
          have e5 : H5 D0 = some (.dT ws) := g5.k.get e4
          have g5' : Gr F5 H5 (upd F5 b (.tup us)) (upd H5 b (.tup us)) := Gr.new g5.s hb
          have e5' := g5'.k.get e5
          have n5' := g5'.keepNone e5 n5
          refine he.ok F1 H1 _ _ σ4 ρ4 noE _ (((h4.grow g4).grow g5).grow g5') leN (he.mono noE ρ4 _ _ (fun z q u F6 H6 g6 r6 => ?_) q)
          obtain ⟨ks, ek, q1, q3⟩ := gKs_out q
          have n6 : F6 D0 = none := g6.keepNone e5' n5'
          have e6 : H6 D0 = some (.dT ws) := g6.k.get e5'
          have eu := keys_v ek r5
          have ra6 := ((((ra.mono g3.f).mono g4.f).mono g5.f).mono g5'.f).mono g6.f
          have eb : H6 b = some (.tup (ks.map kV)) := by
            rw [← eu]
            exact g6.k.get upd_same
          refine ⟨ws, ks, b, rfl, eb, e6, by rw [TReps.len ra6]; exact small_line q1, F6, _, _, (((h3.grow g4).grow g5).grow g5').grow g6 |>.list (fun i d => noOwn_o i d) n6 hD (.at e6), n6, upd_same, ra6.put ks r6, q3⟩
      · have e : i = xs.length := by omega
        subst e
        rw [List.drop_length] at q2
        exact .inl ⟨w2.1, q2 D0 F2 H2 h2.g hD hF2 ⟨ws, hD2, ra⟩⟩
/-! update -/
theorem near_out {k : List DL.Key} (h : near20 k = true) : ∃ a b : Int, k = [.inl a, .inl b] ∧ (0 ≤ a ∧ a < 20) ∧ 0 ≤ b ∧ b < 20 := by
  match k, h with
  | [.inl a, .inl b], h =>
    simp only [near20, Bool.and_eq_true, decide_eq_true_eq] at h
    exact ⟨a, b, rfl, ⟨h.1.1.1, h.1.1.2⟩, h.1.2, h.2⟩
theorem nodup_on {α β : Type} {f : α → β} : ∀ {l : List α}, (∀ x ∈ l, ∀ y ∈ l, f x = f y → x = y) → l.Nodup → (l.map f).Nodup
  | [], _, _ => List.nodup_nil
  | x :: r, h, nd => by
    obtain ⟨n1, n2⟩ := List.nodup_cons.mp nd
    rw [List.map_cons]
    refine List.nodup_cons.mpr ⟨fun hx => ?_, nodup_on (fun a ha b hb => h a (by simp [ha]) b (by simp [hb])) n2⟩
    obtain ⟨y, hy, e⟩ := List.mem_map.mp hx
    have := h y (by simp [hy]) x (by simp) e
    rw [this] at hy
    exact n1 hy
theorem apart_keys {P : Program} {w : World} {ws : List (List L2.Key × V)} (h : ∀ p ∈ ws, near20 p.1 = true) (nd : (ws.map (·.1)).Nodup) : (ws.map fun p => tupleKeyHash (mixKind P w) p.1).Nodup := by
  have := nodup_on (f := fun k => tupleKeyHash (mixKind P w) k) (l := ws.map (·.1)) (fun x hx y hy e => ?_) nd
  · rw [List.map_map] at this
    exact this
  · obtain ⟨p, hp, rfl⟩ := List.mem_map.mp hx
    obtain ⟨q, hq, rfl⟩ := List.mem_map.mp hy
    obtain ⟨a, b, e1, a1, b1⟩ := near_out (h p hp)
    obtain ⟨c, d, e2, c1, d1⟩ := near_out (h q hq)
    rw [e1, e2] at e ⊢
    obtain ⟨z1, z2⟩ := hash_pair a1 b1 c1 d1 e
    rw [z1, z2]
theorem TReps.near {F : Hp} {ws : List (List L2.Key × V)} {kvs : List (List DL.Key × D)} (r : TReps K cl F ws kvs) (h : ∀ p ∈ kvs, near20 p.1 = true) : ∀ p ∈ ws, near20 p.1 = true := by
  intro p hp
  have : p.1 ∈ kvs.map (·.1) := by
    rw [← TReps.keys r]
    exact List.mem_map_of_mem hp
  obtain ⟨q, hq, e⟩ := List.mem_map.mp this
  rw [← e]
  exact h q hq
theorem gDt_out {d : D} {Q : List (List DL.Key × D) → Prop} (h : gDt d Q) : ∃ kvs, d = .dt kvs ∧ Q kvs := by
  unfold gDt at h
  split at h
  · exact ⟨_, rfl, h⟩
  · exact h.elim
theorem rfs_updT {i : Nat} {P : Program} {w : World} {te : TE} {t : DT} (ht : RfN K cl W te t) : RfS K cl W (tDrop (tBM K "dict" (rUpdT w P) (tVar i) (tCons te tNil))) (sUpdT i t) where
  mono2 := fun E E' A B ρ hE l q => by
    obtain ⟨xs, e, q⟩ := gOT_out q
    refine gOT_in e (ht.mono2 E E' ρ _ _ hE (fun d q => ?_) q)
    obtain ⟨more, rfl, q1, q2, q3⟩ := gDt_out q
    exact ⟨q1, q2, l.nx _ q3⟩
  ok := fun F0 H0 F H σ ρ E B A hh le ld q => by
    obtain ⟨xs, e, q⟩ := gOT_out q
    obtain ⟨a, ea, n0, nf, ws, ho, rr⟩ := hh.ownAt e
    refine ⟨.ref a, ea, .inr (.inr (.inl ⟨rfl, .inr ⟨ws, ho⟩⟩)), ?_⟩
    refine ht.ok F0 H0 F H σ ρ E _ hh le (ht.mono E ρ _ _ (fun d q p F1 H1 g1 hp fp ow => ?_) q)
    obtain ⟨more, rfl, q1, q2, q3⟩ := gDt_out q
    obtain ⟨us, hu, ru⟩ := ow
    have e1 := g1.k.get ho
    have ne : a ≠ p := by
      rintro rfl
      rw [ho] at hp
      cases hp
    refine ⟨a, p, ws, us, rfl, rfl, e1, hu, ne, ?_, ?_, ?_⟩
    · rcases q1 with z | ⟨z1, z2⟩
      · left
        intro w
        have := TReps.len rr
        rw [w] at this
        exact z (List.length_eq_zero_iff.mp this.symm)
      · right
        exact apart_keys (TReps.near ru z1) (by rw [TReps.keys ru]; exact z2)
    · rw [TReps.len rr, TReps.len ru]
      exact Nat.le_of_lt (small_line q2)
    · exact ld.nx _ _ _ _ ((hh.grow g1).mut (d' := .dt (mergeDT xs more)) ea e ⟨mergeT ws us, upd_same, TReps.merge ru (rr.mono g1.f)⟩) q3
end
section
variable {X : Cx} {K : Fg} {cl : Cl} {W : WX} {pos : Pos}
theorem vn_newT (hK : X.K = K := by rfl) : VN X K cl W (.Dict [] [] pos) tDNewT dNewT := by
  obtain rfl := hK
  exact ⟨pe_dnewT, rfn_newT, rfl⟩
theorem bi_lenT (hK : X.K = K := by rfl) : Bi X K cl (.builtin "len") rLenT fLenT := by
  obtain rfl := hK
  exact ⟨call_len_dT, rf_lenT, rfl⟩
theorem vn_dcT {js : List Nat} {ks : List Expr} {kp : Pos} {kc} {vx tg iter : Expr} {ifs : List Expr} {scope : Scope} {own : List (Str × Nat)} {vs : List Nat} {wi : TI} {it : DI} {g : TG} {d : DG} {tt : TT} {t : DB} {ta : TA} {tv : TE} {k : DA} {e : DT} (hu : X.A.units + 65 < cLine) (hc : X.calm = true) (hN : X.N.Nodup) (hi : VI X K cl W tg iter wi it) (ok : BlkOk X.N X.env.scope scope own)
    (hg : ∀ (s : Shared) (H : Hp) (C : Addr) (l : List (Str × Addr)) (fp : List Addr), VT (X.blk s H scope (compEnvC scope l C X.env) fp) K cl js tg g d) (ht : ∀ (s : Shared) (H : Hp) (C : Addr) (l : List (Str × Addr)) (fp : List Addr), VP (X.blk s H scope (compEnvC scope l C X.env) fp) K cl (fun _ _ _ _ => False) ifs tt t)
    (hk : ∀ (s : Shared) (H : Hp) (C : Addr) (l : List (Str × Addr)) (fp : List Addr), VA (X.blk s H scope (compEnvC scope l C X.env) fp) K cl (fun _ _ _ _ => False) ks ta k) (he : ∀ (s : Shared) (H : Hp) (C : Addr) (l : List (Str × Addr)) (fp : List Addr), VE (X.blk s H scope (compEnvC scope l C X.env) fp) K cl (fun _ _ _ _ => False) vx tv e)
    (hvs : own.map (·.2) = vs := by rfl) (hjs : ∀ j ∈ js, j ∈ own.map (·.2) := by decide) (hs : ∀ x, foldedSetIterable iter X.env x = pure x := by intro _; rfl) :
    VN X K cl W (.DictComp (.Tuple ks kc kp) vx [⟨tg, iter, ifs, 0⟩] scope pos) (tDcT wi g tt (tTup ta) tv vs) (dDcT it d t k e vs) := by
  obtain rfl := hi.hK
  exact hvs ▸ ⟨pe_dcT (by omega) hc hN hi.pe ok (fun s H C l fp => (hg s H C l fp).pe) (fun s H C l fp => (ht s H C l fp).pe) (fun s H C l fp => pe_tup (hk s H C l fp).pe) (fun s H C l fp => (he s H C l fp).pe) hs,
    rfn_dcT hi.rf (hg X.s_0 X.H_0 0 [] []).rf (hg X.s_0 X.H_0 0 [] []).no hjs (ht X.s_0 X.H_0 0 [] []).rf (hk X.s_0 X.H_0 0 [] []).rf (he X.s_0 X.H_0 0 [] []).rf, rfl⟩
theorem vs_putT {i : Nat} {x : Str} {p1 p2 kp : Pos} {kc} {ks : List Expr} {b : Expr} {ta : TA} {tb : TE} {p : DA} {q : DT} (hu : X.A.units + 65 < cLine) (ha : VA X K cl W ks ta p) (hb : VE X K cl W b tb q) (hN : X.N[i]? = some x := by rfl) (hv : Vis X.env.scope x := by first | exact Or.inl rfl | exact Or.inr (Or.inl rfl) | exact Or.inr (Or.inr rfl)) (hd : (x == ("__debug__" : Str)) = false := by decide)
    (hcd : (x == ("__classdict__" : Str)) = false := by decide) (hs : swapsWith b (some (.Subscript (.Name x p1) (.Tuple ks kc kp) p2)) pos.line X.env = pure false := by rfl) :
    VS X K cl W (.Assign [.Subscript (.Name x p1) (.Tuple ks kc kp) p2] b pos) (sDPut (tVar i) (tTup ta) tb) (sPutT i p q) := by
  obtain rfl := ha.hK
  exact ⟨ps_dput (by omega) (pe_var hN hv hd hcd) (pe_tup ha.pe) hb.pe hs, rfs_putT ha.rf hb.rf, rfl⟩
theorem vs_updT {i : Nat} {x : Str} {e : Expr} {te : TE} {t : DT} {p1 apos cpos : Pos} (hu : X.A.units + 65 < cLine) (he : VN X K cl W e te t) (hN : X.N[i]? = some x := by rfl)
    (hv : Vis X.env.scope x := by first | exact Or.inl rfl | exact Or.inr (Or.inl rfl) | exact Or.inr (Or.inr rfl)) (hd : (x == ("__debug__" : Str)) = false := by decide)
    (hcd : (x == ("__classdict__" : Str)) = false := by decide) (hs1 : starEach [e] X.env = (false, eval e X.env) :: starEach [] X.env := by rfl)
    (hbase : attributeBase (.Name x p1) "update" X.env (eval (.Name x p1) X.env) = eval (.Name x p1) X.env := by rfl)
    (hfew : ((backTo cpos (starEach [e] X.env)).all (fun x => !x.1) && (backToKw cpos (keywordEach [] X.env)).all (fun x => x.1.isSome)
      && decide ([e].length + ([] : List Keyword).length + (if ([] : List Keyword).isEmpty then 0 else 1) < 30)) = true := by rfl)
    (hline : (apos.endLine == cpos.line) = true := by rfl) (hplain : (backTo cpos (starEach [] X.env)).any (·.1) = false := by rfl)
    (hs : swapsWith (.Call (.Attribute (.Name x p1) "update" apos) [e] [] cpos) none pos.line X.env = pure false := by rfl) :
    VS X K cl W (.Expr (.Call (.Attribute (.Name x p1) "update" apos) [e] [] cpos) pos) (tDrop (tBM K "dict" (rUpdT X.w X.prog) (tVar i) (tCons te tNil))) (sUpdT i t) := by
  obtain rfl := he.hK
  exact ⟨ps_expr (pe_bm PySem.F.plainAttrs_dict PySem.F.slot_dict_update PySem.F.type_dict_update (mt_updT (by omega)) (pe_var hN hv hd hcd) (pa_cons he.pe pa_nil hs1) hbase hfew hline hs1 hplain) hs, rfs_updT he.rf, rfl⟩
end
end DL

set_option maxHeartbeats 400000
/-! DMinT: min and max of a tuple of ints. -/
namespace PySem
open Sem (wp)
section
variable {prog : Program} {w : World} {A : Around} {E : Value → Shared → Prop} {s : Shared} {l : Addr} {xs : Array (Int × Tok)}
/-- a tuple's iterator is laid -/
theorem tupIt_laid {h' : Heap} (hk : ∀ b o, b ∉ [s.heap.objs.size] → (s.heap.push { cls := .type "tuple_iterator", data := .fields #[.ref l, .int 0 0] }).get? b = some o → h'.get? b = some o) :
    ∀ b o, s.heap.get? b = some o → h'.get? b = some o := fun b o e => hk b o (fun z => by
  have lt := Heap.lt_size e
  rw [List.mem_singleton.mp z] at lt
  exact Nat.lt_irrefl _ lt) (Heap.get?_push_of_some _ e)
theorem tupIt_lt (ht : s.heap.IsTuple l (intItems xs)) : l < s.heap.objs.size := by
  obtain ⟨o, e, _⟩ := ht
  exact Heap.lt_size e
theorem tupIt_fp (ht : s.heap.IsTuple l (intItems xs)) (o : Obj) : ∀ b ∈ [s.heap.objs.size, l], b < (s.heap.push o).objs.size := fun b hb => by
  have lt := tupIt_lt ht
  rw [Heap.size_push]
  have : b = s.heap.objs.size ∨ b = l := by simpa using hb
  rcases this with e | e
  · rw [e]
    exact Nat.lt_succ_self _
  · rw [e]
    exact Nat.lt_succ_of_lt lt
theorem minT_ints {Q : Value → Shared → Prop} (hh : A.handled = none) (ht : s.heap.IsTuple l (intItems xs)) (hx : 0 < xs.size)
    (h : ∀ v h' tk, (intItems xs)[argBest (fun i j => decide (numAt xs i < numAt xs j)) (xs.size - 1)]? = some v → (∀ b o, s.heap.get? b = some o → h'.get? b = some o) → Q v { s with heap := h', toks := tk }) :
    wpAny (model prog w) A (call (.builtin "min") [.ref l]) Q E s :=
  call_min_walk (wpAny_pyIter_tuple ht ⟨_, [_, l], [_], _, _, _, _, rfl, Walks.tuple (A := A.in1) hh _ l (Nat.ne_of_lt (tupIt_lt ht)) (intItems xs), ⟨⟨_, Heap.get?_push_size _ rfl, rfl, rfl⟩, ht.push _⟩, tupIt_fp ht _,
    by simpa [intItems] using hx, CmpOf.ints_lt (numAt xs) (fun _ _ => intItems_at), fun v hp tk q kp => h v hp tk (by simpa [intItems] using q) (tupIt_laid kp)⟩)
theorem maxT_ints {Q : Value → Shared → Prop} (hh : A.handled = none) (ht : s.heap.IsTuple l (intItems xs)) (hx : 0 < xs.size)
    (h : ∀ v h' tk, (intItems xs)[argBest (fun i j => decide (numAt xs i > numAt xs j)) (xs.size - 1)]? = some v → (∀ b o, s.heap.get? b = some o → h'.get? b = some o) → Q v { s with heap := h', toks := tk }) :
    wpAny (model prog w) A (call (.builtin "max") [.ref l]) Q E s :=
  call_max_walk (wpAny_pyIter_tuple ht ⟨_, [_, l], [_], _, _, _, _, rfl, Walks.tuple (A := A.in1) hh _ l (Nat.ne_of_lt (tupIt_lt ht)) (intItems xs), ⟨⟨_, Heap.get?_push_size _ rfl, rfl, rfl⟩, ht.push _⟩, tupIt_fp ht _,
    by simpa [intItems] using hx, CmpOf.ints_gt (numAt xs) (fun _ _ => intItems_at), fun v hp tk q kp => h v hp tk (by simpa [intItems] using q) (tupIt_laid kp)⟩)
end
end PySem
namespace DL
open PySem L2 PyProof.Rows
variable [TN]
def rMinT (K : Fg) : List V → Hp → VK → Prop := fun vs H Q => ∃ (a : Addr) (ns : List Int), vs = [V.ref a] ∧ SqT K H a (ns.map V.int) ∧ 0 < ns.length ∧ ∀ m, m ∈ ns → (∀ y, y ∈ ns → m ≤ y) → Q (.int m) H
def rMaxT (K : Fg) : List V → Hp → VK → Prop := fun vs H Q => ∃ (a : Addr) (ns : List Int), vs = [V.ref a] ∧ SqT K H a (ns.map V.int) ∧ 0 < ns.length ∧ ∀ m, m ∈ ns → (∀ y, y ∈ ns → y ≤ m) → Q (.int m) H
theorem cr_minT {X : Cx} (hc : X.calm = true) : CallR X (.builtin "min") (rMinT X.K) := by
  intro pins s σ H vs us Q I r h
  obtain ⟨a, ns, rfl, hs, hne, q⟩ := h
  obtain ⟨its, rv, hl, _⟩ := I.tuple hs
  rw [Vals.ref1 r]
  have hi := rv.ints
  obtain ⟨xs, e⟩ := hi.allInts.items
  have hn : numsOf (intItems xs).toList = ns := by rw [← e]; exact hi.numsOf
  rw [nums_intItems] at hn
  rw [e] at hl
  subst hn
  have hx : 0 < xs.size := by simpa using hne
  refine minT_ints (I.ok.hd hc) hl hx fun v hp tk hv kp => ?_
  obtain ⟨t, rfl⟩ := intItems_at hv
  obtain ⟨h1, h2⟩ := argBest_lt (numAt xs) (xs.size - 1)
  refine ⟨.int _, H, I.kept kp, ⟨_, rfl⟩, q _ ?_ fun y hy => ?_⟩
  · rw [numAt_eq]
    exact PySem.getD_mem (by rw [List.length_map, Array.length_toList]; omega)
  · obtain ⟨j, hj, rfl⟩ := mem_getD hy
    rw [List.length_map, Array.length_toList] at hj
    rw [← numAt_eq]
    exact h2 j (by omega)
theorem cr_maxT {X : Cx} (hc : X.calm = true) : CallR X (.builtin "max") (rMaxT X.K) := by
  intro pins s σ H vs us Q I r h
  obtain ⟨a, ns, rfl, hs, hne, q⟩ := h
  obtain ⟨its, rv, hl, _⟩ := I.tuple hs
  rw [Vals.ref1 r]
  have hi := rv.ints
  obtain ⟨xs, e⟩ := hi.allInts.items
  have hn : numsOf (intItems xs).toList = ns := by rw [← e]; exact hi.numsOf
  rw [nums_intItems] at hn
  rw [e] at hl
  subst hn
  have hx : 0 < xs.size := by simpa using hne
  refine maxT_ints (I.ok.hd hc) hl hx fun v hp tk hv kp => ?_
  obtain ⟨t, rfl⟩ := intItems_at hv
  obtain ⟨h1, h2⟩ := argBest_gt (numAt xs) (xs.size - 1)
  refine ⟨.int _, H, I.kept kp, ⟨_, rfl⟩, q _ ?_ fun y hy => ?_⟩
  · rw [numAt_eq]
    exact PySem.getD_mem (by rw [List.length_map, Array.length_toList]; omega)
  · obtain ⟨j, hj, rfl⟩ := mem_getD hy
    rw [List.length_map, Array.length_toList] at hj
    rw [← numAt_eq]
    exact h2 j (by omega)
section
variable {X : Cx} {K : Fg} {cl : Cl}
theorem rf_minT : RfC K cl (rMinT K) fMinT where
  mono := fun x P P' h q => by
    match x, q with
    | [.tup l], q =>
      simp only [fMinT] at q ⊢
      cases e : intsOf l with
      | none => rw [e] at q; exact q.elim
      | some ns => rw [e] at q; exact ⟨q.1, fun m h1 h2 => h _ (q.2 m h1 h2)⟩
  ok := fun F H v x Q s r q => by
    match x, q, r with
    | [.tup l], q, .cons (.tup e rr) .nil =>
      simp only [fMinT] at q
      cases e1 : intsOf l with
      | none => rw [e1] at q; exact q.elim
      | some ns =>
        rw [e1] at q
        have ev := ints_reps e1 rr
        subst ev
        exact ⟨_, ns, rfl, same_t s e, List.length_pos_iff.mpr q.1, fun m h1 h2 => q.2 m h1 h2 _ F H (Gr.refl s) (.int _)⟩
theorem rf_maxT : RfC K cl (rMaxT K) fMaxT where
  mono := fun x P P' h q => by
    match x, q with
    | [.tup l], q =>
      simp only [fMaxT] at q ⊢
      cases e : intsOf l with
      | none => rw [e] at q; exact q.elim
      | some ns => rw [e] at q; exact ⟨q.1, fun m h1 h2 => h _ (q.2 m h1 h2)⟩
  ok := fun F H v x Q s r q => by
    match x, q, r with
    | [.tup l], q, .cons (.tup e rr) .nil =>
      simp only [fMaxT] at q
      cases e1 : intsOf l with
      | none => rw [e1] at q; exact q.elim
      | some ns =>
        rw [e1] at q
        have ev := ints_reps e1 rr
        subst ev
        exact ⟨_, ns, rfl, same_t s e, List.length_pos_iff.mpr q.1, fun m h1 h2 => q.2 m h1 h2 _ F H (Gr.refl s) (.int _)⟩
theorem bi_minT (hc : X.calm = true) (hK : X.K = K := by rfl) : Bi X K cl (.builtin "min") (rMinT K) fMinT := by
  obtain rfl := hK
  exact ⟨cr_minT hc, rf_minT, rfl⟩
theorem bi_maxT (hc : X.calm = true) (hK : X.K = K := by rfl) : Bi X K cl (.builtin "max") (rMaxT K) fMaxT := by
  obtain rfl := hK
  exact ⟨cr_maxT hc, rf_maxT, rfl⟩
end
end DL

/-! DIsB: is and is not of two truth values. -/
namespace DL
open PySem L2 PyProof.Rows
variable [TN]
section
variable {X : Cx} {K : Fg} {cl : Cl}
theorem rf_isB : RfOp K cl rIsB oIsB where
  mono := fun x y P P' h q => by
    match x, y, q with
    | .bl a, .bl b, q => exact h _ q
  ok := fun F H v u x y Q s rx ry q => by
    match x, y, q, rx, ry with
    | .bl a, .bl b, q, .bl _, .bl _ => exact ⟨a, b, rfl, rfl, q _ F H (Gr.refl s) (.bl _)⟩
theorem rf_notB : RfOp K cl rNotB oNotB where
  mono := fun x y P P' h q => by
    match x, y, q with
    | .bl a, .bl b, q => exact h _ q
  ok := fun F H v u x y Q s rx ry q => by
    match x, y, q, rx, ry with
    | .bl a, .bl b, q, .bl _, .bl _ => exact ⟨a, b, rfl, rfl, q _ F H (Gr.refl s) (.bl _)⟩
theorem cm_isB (hu : X.A.units + 65 < cLine) (hK : X.K = K := by rfl) : Cm X K cl .Is rIsB oIsB := by
  obtain rfl := hK
  exact ⟨op_isBl, rf_isB, rfl⟩
theorem cm_notB (hu : X.A.units + 65 < cLine) (hK : X.K = K := by rfl) : Cm X K cl .IsNot rNotB oNotB := by
  obtain rfl := hK
  exact ⟨op_notBl, rf_notB, rfl⟩
end
end DL

set_option maxHeartbeats 2000000
/-! DLc2: [e for x in xs if .. for y in ys if ..]. -/
namespace DL
open PySem L2 PyProof.Rows
variable [TN]
section
variable {K : Fg} {cl : Cl} {W : WX} {F0 H0 F H : Hp} {σ : L2.St} {ρ : DL.Env}
theorem wipeE_at (vs : List Nat) : ∀ (ρ : DL.Env) (i : Nat) (s : Sl), (wipeE ρ vs)[i]? = some s → s = .no ∨ (i ∉ vs ∧ ρ[i]? = some s) := by
  induction vs with
  | nil => exact fun ρ i s q => .inr ⟨by simp, q⟩
  | cons v r ih =>
    intro ρ i s q
    rcases ih (ρ.set v .no) i s q with h | ⟨h1, h2⟩
    · exact .inl h
    · by_cases hv : v = i
      · subst hv
        have lt : v < ρ.length := by
          have := (List.getElem?_eq_some_iff.mp h2).1
          simpa using this
        rw [List.getElem?_set_self lt] at h2
        exact .inl (Option.some.inj h2).symm
      · rw [List.getElem?_set_ne hv] at h2
        exact .inr ⟨by simp [h1, Ne.symm hv], h2⟩
theorem wipeE_len (vs : List Nat) : ∀ ρ : DL.Env, (wipeE ρ vs).length = ρ.length := by
  induction vs with
  | nil => exact fun ρ => rfl
  | cons v r ih => exact fun ρ => (ih _).trans (by simp)
/-- some slots are emptied, the ground stays -/
theorem Hold.empty {vs : List Nat} (h : Hold K cl F0 H0 F H σ ρ) : Hold K cl F0 H0 F H (L2.wipe σ vs) (wipeE ρ vs) := by
  obtain ⟨θ, hs, hd, hp⟩ := h.sl
  have own : ∀ {i : Nat} {d : D}, (wipeE ρ vs)[i]? = some (.o d) → ρ[i]? = some (.o d) := fun {i d} e => by
    rcases wipeE_at vs ρ i _ e with z | z
    · cases z
    · exact z.2
  refine ⟨h.g, h.tb, by rw [wipe_length, h.len, wipeE_len], θ, fun i s e => ?_, fun i j di dj e1 e2 => hd i j di dj (own e1) (own e2), fun i a d e1 e2 => hp i a d e1 (own e2)⟩
  rcases wipeE_at vs ρ i s e with rfl | ⟨z1, z2⟩
  · trivial
  · rw [wipe_out z1]
    exact hs i s z2
theorem noO_wipe {vs : List Nat} (h : ∀ (i : Nat) (d : D), ρ[i]? ≠ some (Sl.o d)) (i : Nat) (d : D) : (wipeE ρ vs)[i]? ≠ some (Sl.o d) := fun e => by
  rcases wipeE_at vs ρ i _ e with z | z
  · cases z
  · exact h i d z.2
theorem lcL_mono {js : List Nat} {g : TG} {d : DG} {tt : TT} {t : DB} {te : TE} {e : DT} (hg : RfG K cl js g d) (ht : RfB K cl (fun _ _ _ _ => False) tt t) (he : RfE K cl (fun _ _ _ _ => False) te e) : ∀ (xs : List D) (ρ : DL.Env) (acc : List D) (Q Q' : List D → Prop), (∀ r, Q r → Q' r) → lcL d t e ρ xs acc Q → lcL d t e ρ xs acc Q' := by
  intro xs
  induction xs with
  | nil => exact fun ρ acc Q Q' hQ q => hQ _ q
  | cons x r ih =>
    intro ρ acc Q Q' hQ q
    refine hg.mono x ρ _ _ (fun ρ' q => ht.mono noE ρ' _ _ (fun k q => ?_) q) q
    cases k with
    | true => exact he.mono noE ρ' _ _ (fun y q => ⟨q.1, ih ρ _ Q Q' hQ q.2⟩) q
    | false => exact ih ρ _ Q Q' hQ q
theorem lc2_mono {js js1 : List Nat} {g g1 : TG} {d d1 : DG} {tt tt1 : TT} {t t1 : DB} {wi1 : TI} {it1 : DI} {te : TE} {e : DT} {vs1 : List Nat} (hg : RfG K cl js g d) (ht : RfB K cl (fun _ _ _ _ => False) tt t) (hi1 : RfI K cl (fun _ _ _ _ => False) wi1 it1) (hg1 : RfG K cl js1 g1 d1) (ht1 : RfB K cl (fun _ _ _ _ => False) tt1 t1) (he : RfE K cl (fun _ _ _ _ => False) te e) :
    ∀ (xs : List D) (ρ : DL.Env) (acc : List D) (Q Q' : List D → Prop), (∀ r, Q r → Q' r) → lc2L d t it1 d1 t1 e vs1 ρ xs acc Q → lc2L d t it1 d1 t1 e vs1 ρ xs acc Q' := by
  intro xs
  induction xs with
  | nil => exact fun ρ acc Q Q' hQ q => hQ _ q
  | cons x r ih =>
    intro ρ acc Q Q' hQ q
    refine hg.mono x ρ _ _ (fun ρ' q => ht.mono noE ρ' _ _ (fun k q => ?_) q) q
    cases k with
    | true => exact hi1.mono noE ρ' _ _ (fun ys q => lcL_mono hg1 ht1 he ys _ _ _ _ (fun a q => ih ρ a Q Q' hQ q) q) q
    | false => exact ih ρ _ Q Q' hQ q
theorem rfn_lc2 {js js1 vs vs1 : List Nat} {wi wi1 : TI} {it it1 : DI} {g g1 : TG} {d d1 : DG} {tt tt1 : TT} {t t1 : DB} {te : TE} {e : DT} (hi : RfI K cl W wi it) (hg : RfG K cl js g d) (hn : NoO d) (hjs : ∀ j ∈ js, j ∈ vs) (ht : RfB K cl (fun _ _ _ _ => False) tt t)
    (hi1 : RfI K cl (fun _ _ _ _ => False) wi1 it1) (hg1 : RfG K cl js1 g1 d1) (hn1 : NoO d1) (hjs1 : ∀ j ∈ js1, j ∈ vs1) (ht1 : RfB K cl (fun _ _ _ _ => False) tt1 t1) (he : RfE K cl (fun _ _ _ _ => False) te e) : RfN K cl W (tLc2 wi g tt wi1 g1 tt1 te vs vs1) (dLc2 it d t it1 d1 t1 e vs vs1) where
  mono2 := fun E E' ρ P P' hE h q => hi.mono2 E E' ρ _ _ hE (fun xs q => lc2_mono hg ht hi1 hg1 ht1 he xs _ _ _ _ (fun r q => h _ q) q) q
  ok := fun F0 H0 F H σ ρ E Q hh le q => by
    refine hi.ok F0 H0 F H σ ρ E _ hh le (hi.mono E ρ _ _ (fun xs q J F1 H1 g1' wk D0 hD => ?_) q)
    have hh1 := hh.grow g1'
    have hb := hh1.wipe (vs := vs)
    have hF1 : F1 D0 = none := g1'.s.free hD
    have leN : ∀ {A B : Hp}, LinkE K cl A B (fun _ _ _ _ => False) noE := fun {A B} err ρ σ F H c dx _ z _ => z.elim
    have q := lc2_mono hg ht hi1 hg1 ht1 he xs _ _ _ (fun r => ∀ p F' H', Gr F1 H1 F' H' → H1 p = none → F' p = none → Own K cl F' H' p (.lst r) → Q (.ref p) H') (fun r q p F' H' g2 h1 h2 h3 => q p F' H' (g1'.trans g2) (g1'.k.free h1) h2 h3) q
    refine ⟨fun i m H => m = xs.length - i ∧ i ≤ xs.length ∧ ∃ F acc accd, Hold K cl F1 H1 F H (L2.wipe σ vs) (noOwn (wipeE ρ vs)) ∧ F D0 = none ∧ H D0 = some (.lst acc) ∧ Reps K cl F acc accd ∧
      lc2L d t it1 d1 t1 e vs1 (noOwn (wipeE ρ vs)) (xs.drop i) accd (fun r => ∀ p F' H', Gr F1 H1 F' H' → H1 p = none → F' p = none → Own K cl F' H' p (.lst r) → Q (.ref p) H'),
      ⟨xs.length, by simp, Nat.zero_le _, F1, [], [], hb.list (fun i d => noOwn_o i d) hF1 hD (.free hD), hF1, upd_same, .nil, q⟩, ?_⟩
    rintro i m H2 ⟨rfl, hi2, F2, acc, accd, h2, hF2, hD2, ra, q2⟩
    have w2 := wk F2 H2 h2.g.f h2.g.s
    by_cases hlt : i < xs.length
    · have ed : xs.drop i = xs[i] :: xs.drop (i + 1) := List.drop_eq_getElem_cons hlt
      rw [ed] at q2
      obtain ⟨wg, wy⟩ := w2.2 i xs[i] (List.getElem?_eq_getElem hlt)
      refine .inr ⟨wg, fun H' => ∃ F acc accd, Hold K cl F1 H1 F H' (L2.wipe σ vs) (noOwn (wipeE ρ vs)) ∧ F D0 = none ∧ H' D0 = some (.lst acc) ∧ Reps K cl F acc accd ∧
        lc2L d t it1 d1 t1 e vs1 (noOwn (wipeE ρ vs)) (xs.drop (i + 1)) accd (fun r => ∀ p F' H', Gr F1 H1 F' H' → H1 p = none → F' p = none → Own K cl F' H' p (.lst r) → Q (.ref p) H'), fun H' ⟨F', a', ad', x1, x2, x3, x4, x5⟩ => ⟨xs.length - (i + 1), by omega, rfl, hlt, F', a', ad', x1, x2, x3, x4, x5⟩, fun x H3 hy => ?_⟩
      obtain ⟨F3, g3, r3⟩ := wy x H3 hy
      have h3 := h2.grow g3
      have n3 : F3 D0 = none := g3.keepNone hD2 hF2
      have q2' := hn.k _ _ _ (fun i d => noOwn_o i d) q2
      refine hg.ok F1 H1 F3 H3 _ _ x xs[i] _ h3 r3 (hg.mono _ _ _ _ (fun ρ4 q4 σ4 h4 ag => ?_) q2')
      obtain ⟨no4, q4⟩ := q4
      refine ⟨(wipe_same ag hjs).trans (wipe_same (vs := vs) (js := vs) (σ := σ) (σ' := L2.wipe σ vs) ⟨wipe_length _ _, fun i hi => wipe_out hi⟩ fun j hj => hj), ?_⟩
      refine ht.ok F1 H1 F3 H3 σ4 ρ4 noE _ h4 leN (ht.mono noE ρ4 _ _ (fun k q F4 H4 g4 => ?_) q4)
      have h4' := h3.grow g4
      have k4 := h4.grow g4
      have n4 : F4 D0 = none := g4.keepNone (g3.k.get hD2) n3
      have e4 : H4 D0 = some (.lst acc) := g4.k.get (g3.k.get hD2)
      have ra4 := (ra.mono g3.f).mono g4.f
      cases k with
      | false => exact ⟨F4, acc, accd, h4', n4, e4, ra4, q⟩
      | true =>
        change wi1 σ4 H4 _
        refine hi1.ok F1 H1 F4 H4 σ4 ρ4 noE _ k4 leN (hi1.mono noE ρ4 _ _ (fun ys q J1 F5 H5 g5 wk1 => ?_) q)
        have h5 := h4'.grow g5
        have k5 := (k4.grow g5).empty (vs := vs1)
        have n5 : F5 D0 = none := g5.keepNone e4 n4
        have e5 : H5 D0 = some (.lst acc) := g5.k.get e4
        refine ⟨fun j k H => k = ys.length - j ∧ j ≤ ys.length ∧ ∃ F acc accd, Hold K cl F1 H1 F H (L2.wipe σ vs) (noOwn (wipeE ρ vs)) ∧ Hold K cl F1 H1 F H (L2.wipe σ4 vs1) (wipeE ρ4 vs1) ∧ Same F5 F ∧ F D0 = none ∧ H D0 = some (.lst acc) ∧ Reps K cl F acc accd ∧
          lcL d1 t1 e (wipeE ρ4 vs1) (ys.drop j) accd fun a => lc2L d t it1 d1 t1 e vs1 (noOwn (wipeE ρ vs)) (xs.drop (i + 1)) a fun r => ∀ p F' H', Gr F1 H1 F' H' → H1 p = none → F' p = none → Own K cl F' H' p (.lst r) → Q (.ref p) H',
          ⟨ys.length, by simp, Nat.zero_le _, F5, acc, accd, h5, k5, Same.refl _, n5, e5, ra4.mono g5.f, q⟩, ?_⟩
        rintro j k H6 ⟨rfl, hj2, F6, acc6, ad6, h6, k6, sm6, n6, e6, r6, q6⟩
        have w6 := wk1 F6 H6 sm6 h6.g.s
        by_cases hlt1 : j < ys.length
        · rw [List.drop_eq_getElem_cons hlt1] at q6
          obtain ⟨wg6, wy6⟩ := w6.2 j ys[j] (List.getElem?_eq_getElem hlt1)
          refine .inr ⟨wg6, fun H => ∃ F acc accd, Hold K cl F1 H1 F H (L2.wipe σ vs) (noOwn (wipeE ρ vs)) ∧ Hold K cl F1 H1 F H (L2.wipe σ4 vs1) (wipeE ρ4 vs1) ∧ Same F5 F ∧ F D0 = none ∧ H D0 = some (.lst acc) ∧ Reps K cl F acc accd ∧
            lcL d1 t1 e (wipeE ρ4 vs1) (ys.drop (j + 1)) accd fun a => lc2L d t it1 d1 t1 e vs1 (noOwn (wipeE ρ vs)) (xs.drop (i + 1)) a fun r => ∀ p F' H', Gr F1 H1 F' H' → H1 p = none → F' p = none → Own K cl F' H' p (.lst r) → Q (.ref p) H',
            fun H' ⟨F', a', ad', x1, x2, x3, x4, x5, x6, x7⟩ => ⟨ys.length - (j + 1), by omega, rfl, hlt1, F', a', ad', x1, x2, x3, x4, x5, x6, x7⟩, fun y H7 hy1 => ?_⟩
          obtain ⟨F7, g7, r7⟩ := wy6 y H7 hy1
          have h7 := h6.grow g7
          have k7 := k6.grow g7
          have n7 : F7 D0 = none := g7.keepNone e6 n6
          have q6' := hn1.k _ _ _ (fun i d => noO_wipe no4 i d) q6
          refine hg1.ok F1 H1 F7 H7 _ _ y ys[j] _ k7 r7 (hg1.mono _ _ _ _ (fun ρ8 q8 σ8 k8 ag1 => ?_) q6')
          obtain ⟨no8, q8⟩ := q8
          refine ⟨(wipe_same ag1 hjs1).trans (wipe_same (vs := vs1) (js := vs1) (σ := σ4) (σ' := L2.wipe σ4 vs1) ⟨wipe_length _ _, fun i hi => wipe_out hi⟩ fun j hj => hj), ?_⟩
          refine ht1.ok F1 H1 F7 H7 σ8 ρ8 noE _ k8 leN (ht1.mono noE ρ8 _ _ (fun b q F9 H9 g9 => ?_) q8)
          have h9 := h7.grow g9
          have k9 := k7.grow g9
          have n9 : F9 D0 = none := g9.keepNone (g7.k.get e6) n7
          have e9 : H9 D0 = some (.lst acc6) := g9.k.get (g7.k.get e6)
          have r9 := (r6.mono g7.f).mono g9.f
          have sm9 := (sm6.trans g7.f).trans g9.f
          cases b with
          | false => exact ⟨F9, acc6, ad6, h9, k9, sm9, n9, e9, r9, q⟩
          | true =>
            change te σ8 H9 _
            refine he.ok F1 H1 F9 H9 σ8 ρ8 noE _ (k8.grow g9) leN (he.mono noE ρ8 _ _ (fun u q v FA HA gA rA => ?_) q)
            have nA : FA D0 = none := gA.keepNone e9 n9
            have eA : HA D0 = some (.lst acc6) := gA.k.get e9
            exact ⟨acc6, eA, by rw [r9.length, ← line_eq]; exact q.1, FA, acc6 ++ [v], ad6 ++ [u], (h9.grow gA).list (fun i d => noOwn_o i d) nA hD (.at eA), (k9.grow gA).list (fun i d => noO_wipe no4 i d) nA hD (.at eA), sm9.trans gA.f, nA, upd_same, (r9.mono gA.f).append (.cons rA .nil), q.2⟩
        · have e0 : j = ys.length := by omega
          subst e0
          rw [List.drop_length] at q6
          exact .inl ⟨w6.1, F6, acc6, ad6, h6, n6, e6, r6, q6⟩
    · have e : i = xs.length := by omega
      subst e
      rw [List.drop_length] at q2
      exact .inl ⟨w2.1, q2 D0 F2 H2 h2.g hD hF2 ⟨acc, hD2, ra⟩⟩
end
section
variable {X : Cx} {K : Fg} {cl : Cl} {W : WX}
theorem vn_lc2 {js js1 : List Nat} {elt tg iter tg1 iter1 : Expr} {ifs ifs1 : List Expr} {scope : Scope} {own : List (Str × Nat)} {vs vs1 : List Nat} {wi wi1 : TI} {it it1 : DI} {g g1 : TG} {d d1 : DG} {tt tt1 : TT} {t t1 : DB} {te : TE} {e : DT} {pos : Pos} (hc : X.calm = true) (hN : X.N.Nodup) (hi : VI X K cl W tg iter wi it) (ok : BlkOk X.N X.env.scope scope own) (hv : ∀ i ∈ vs1, i ∈ own.map (·.2))
    (hg : ∀ (s : Shared) (H : Hp) (C : Addr) (l : List (Str × Addr)) (fp : List Addr), VT (X.blk s H scope (compEnvC scope l C X.env) fp) K cl js tg g d) (ht : ∀ (s : Shared) (H : Hp) (C : Addr) (l : List (Str × Addr)) (fp : List Addr), VP (X.blk s H scope (compEnvC scope l C X.env) fp) K cl WF ifs tt t)
    (hi1 : ∀ (s : Shared) (H : Hp) (C : Addr) (l : List (Str × Addr)) (fp : List Addr), VI (X.blk s H scope (compEnvC scope l C X.env) fp) K cl WF tg1 iter1 wi1 it1) (hg1 : ∀ (s : Shared) (H : Hp) (C : Addr) (l : List (Str × Addr)) (fp : List Addr), VT (X.blk s H scope (compEnvC scope l C X.env) fp) K cl js1 tg1 g1 d1)
    (ht1 : ∀ (s : Shared) (H : Hp) (C : Addr) (l : List (Str × Addr)) (fp : List Addr), VP (X.blk s H scope (compEnvC scope l C X.env) fp) K cl WF ifs1 tt1 t1) (he : ∀ (s : Shared) (H : Hp) (C : Addr) (l : List (Str × Addr)) (fp : List Addr), VE (X.blk s H scope (compEnvC scope l C X.env) fp) K cl WF elt te e)
    (hvs : own.map (·.2) = vs := by rfl) (hjs : ∀ j ∈ js, j ∈ own.map (·.2) := by decide) (hjs1 : ∀ j ∈ js1, j ∈ vs1 := by decide) (hs : ∀ x, foldedSetIterable iter X.env x = pure x := by intro _; rfl) (hs1 : ∀ env x, foldedSetIterable iter1 env x = pure x := by intro _ _; rfl) :
    VN X K cl W (.ListComp elt [⟨tg, iter, ifs, 0⟩, ⟨tg1, iter1, ifs1, 0⟩] scope pos) (tLc2 wi g tt wi1 g1 tt1 te vs vs1) (dLc2 it d t it1 d1 t1 e vs vs1) := by
  obtain rfl := hi.hK
  exact hvs ▸ ⟨pe_lc2 hc hN hi.pe ok hv (fun s H C l fp => (hg s H C l fp).pe) (fun s H C l fp => (ht s H C l fp).pe) (fun s H C l fp => (hi1 s H C l fp).pe) (fun s H C l fp => (hg1 s H C l fp).pe) (fun s H C l fp => (ht1 s H C l fp).pe) (fun s H C l fp => (he s H C l fp).pe) hs hs1,
    rfn_lc2 hi.rf (hg X.s_0 X.H_0 0 [] []).rf (hg X.s_0 X.H_0 0 [] []).no hjs (ht X.s_0 X.H_0 0 [] []).rf (hi1 X.s_0 X.H_0 0 [] []).rf (hg1 X.s_0 X.H_0 0 [] []).rf (hg1 X.s_0 X.H_0 0 [] []).no hjs1 (ht1 X.s_0 X.H_0 0 [] []).rf (he X.s_0 X.H_0 0 [] []).rf, rfl⟩
theorem vs_lc2 {i : Nat} {y : Str} {py spos : Pos} {js js1 : List Nat} {elt tg iter tg1 iter1 : Expr} {ifs ifs1 : List Expr} {scope : Scope} {own : List (Str × Nat)} {vs vs1 : List Nat} {wi wi1 : TI} {it it1 : DI} {g g1 : TG} {d d1 : DG} {tt tt1 : TT} {t t1 : DB} {te : TE} {e : DT} {pos : Pos} (hc : X.calm = true) (hN : X.N.Nodup) (hi : VI X K cl W tg iter wi it) (ok : BlkOk X.N X.env.scope scope own) (hv : ∀ i ∈ vs1, i ∈ own.map (·.2))
    (hg : ∀ (s : Shared) (H : Hp) (C : Addr) (l : List (Str × Addr)) (fp : List Addr), VT (X.blk s H scope (compEnvC scope l C X.env) fp) K cl js tg g d) (ht : ∀ (s : Shared) (H : Hp) (C : Addr) (l : List (Str × Addr)) (fp : List Addr), VP (X.blk s H scope (compEnvC scope l C X.env) fp) K cl WF ifs tt t)
    (hi1 : ∀ (s : Shared) (H : Hp) (C : Addr) (l : List (Str × Addr)) (fp : List Addr), VI (X.blk s H scope (compEnvC scope l C X.env) fp) K cl WF tg1 iter1 wi1 it1) (hg1 : ∀ (s : Shared) (H : Hp) (C : Addr) (l : List (Str × Addr)) (fp : List Addr), VT (X.blk s H scope (compEnvC scope l C X.env) fp) K cl js1 tg1 g1 d1)
    (ht1 : ∀ (s : Shared) (H : Hp) (C : Addr) (l : List (Str × Addr)) (fp : List Addr), VP (X.blk s H scope (compEnvC scope l C X.env) fp) K cl WF ifs1 tt1 t1) (he : ∀ (s : Shared) (H : Hp) (C : Addr) (l : List (Str × Addr)) (fp : List Addr), VE (X.blk s H scope (compEnvC scope l C X.env) fp) K cl WF elt te e)
    (hsw : swapsWith (.ListComp elt [⟨tg, iter, ifs, 0⟩, ⟨tg1, iter1, ifs1, 0⟩] scope pos) (some (.Name y py)) spos.line X.env = pure true) (hy : X.N[i]? = some y := by rfl) (hyl : X.env.scope.names.lookup y = some .local := by rfl)
    (hvs : own.map (·.2) = vs := by rfl) (hjs : ∀ j ∈ js, j ∈ own.map (·.2) := by decide) (hjs1 : ∀ j ∈ js1, j ∈ vs1 := by decide) (hs : ∀ x, foldedSetIterable iter X.env x = pure x := by intro _; rfl) (hs1 : ∀ env x, foldedSetIterable iter1 env x = pure x := by intro _ _; rfl) :
    VS X K cl W (.Assign [.Name y py] (.ListComp elt [⟨tg, iter, ifs, 0⟩, ⟨tg1, iter1, ifs1, 0⟩] scope pos) spos) (tAsg (tLc2 wi g tt wi1 g1 tt1 te vs vs1) (L2.gName i)) (sSet i (dLc2 it d t it1 d1 t1 e vs vs1)) := by
  obtain rfl := hi.hK
  exact hvs ▸ ⟨ps_setLc2 hc hN hy hyl hsw hi.pe ok hv (fun s H C l fp => (hg s H C l fp).pe) (fun s H C l fp => (ht s H C l fp).pe) (fun s H C l fp => (hi1 s H C l fp).pe) (fun s H C l fp => (hg1 s H C l fp).pe) (fun s H C l fp => (ht1 s H C l fp).pe) (fun s H C l fp => (he s H C l fp).pe) hs hs1,
    rfs_set (rfn_lc2 hi.rf (hg X.s_0 X.H_0 0 [] []).rf (hg X.s_0 X.H_0 0 [] []).no hjs (ht X.s_0 X.H_0 0 [] []).rf (hi1 X.s_0 X.H_0 0 [] []).rf (hg1 X.s_0 X.H_0 0 [] []).rf (hg1 X.s_0 X.H_0 0 [] []).no hjs1 (ht1 X.s_0 X.H_0 0 [] []).rf (he X.s_0 X.H_0 0 [] []).rf).e, rfl⟩
end
end DL

set_option maxHeartbeats 2000000
/-! DLamV: lambdas that stand in a tuple and are handed on by a loop. -/
namespace DL
open PySem L2 PyProof.Rows
variable [TN]
/-- the object of a lambda, tracked -/
def FnO (q : Str) (ar : Arguments) (bd : Expr) (sc : Scope) (cells : List (Str × Addr)) (c' f : Addr) : HO := .ext fun h => ∃ pm ctv, h.get? f = some (PySem.W.kla_obj "<lambda>" q ar bd sc cells pm c' ctv)
theorem fnO_ne {q : Str} {ar : Arguments} {bd : Expr} {sc : Scope} {cells : List (Str × Addr)} {c' f : Addr} (ps : Array Value) : FnO q ar bd sc cells c' f ≠ .tbl ps := fun z => by
  unfold FnO at z
  cases z
section
variable {X : Cx} {σ : L2.St} {H : Hp} {s : Shared} {pins : List (Addr × Obj)}
theorem fnO_ok {P : Program} {w : World} {H : Hp} {h : Heap} {q : Str} {ar : Arguments} {bd : Expr} {sc : Scope} {cells : List (Str × Addr)} {c' f : Addr} {pm ctv : Value} (e : h.get? f = some (PySem.W.kla_obj "<lambda>" q ar bd sc cells pm c' ctv)) : ObjOk P w H h f (FnO q ar bd sc cells c' f) :=
  ⟨⟨pm, ctv, e⟩, ⟨_, e⟩, fun h1 h2 ⟨a, b, y⟩ st => ⟨a, b, st _ y⟩⟩
theorem lam_track {c P : Addr} {ar : Arguments} {bd : Expr} {sc : Scope} {pos : Pos} {E Q : Value → Shared → Prop} (I : Inv X pins σ H s) (B : LamX.TabB X.base X.mg c P) (hc : X.env.code = .ref c) (hT : LamX.TabS H P (X.env.qual ++ "<lambda>")) (nd : defaultsOf ar X.env = ([], []))
    (fr : ∀ y ∈ sc.names, y.2 = .free → ∃ c, X.env.cells.lookup y.1 = some c)
    (k : ∀ (f c' : Addr) (H1 : Hp) (z : Shared), Made H P (X.env.qual ++ "<lambda>") H1 c' → H1 f = none → Inv X pins σ (upd H1 f (FnO (X.env.qual ++ "<lambda>") ar bd sc (cloFrom X.env.cells sc.names []) c' f)) z → Q (.ref f) z) : wpAny (model X.prog X.w) X.A (eval (.Lambda ar bd sc pos) X.env) Q E s := by
  obtain ⟨ps, hP, tr, good⟩ := hT
  have atP := I.hok P _ hP
  have bm := B.bm.keeps I.bk
  refine PySem.W.kla_eval nd ?_
  cases am : codeAmong pos ps.toList with
  | some cv =>
    obtain ⟨c', rfl, co⟩ := good pos cv am
    refine PySem.W.kla_makeFunctionHit (mg := X.mg) (c := c) (P := P) (ps := ps) (closure_ok fr) I.ok.glob (I.mod.glob.keeps I.bk) hc (B.code.keeps I.bk) atP tr am bm fun ctv g tk kp sz => ?_
    have J : Inv X pins σ H { s with heap := g, toks := tk } := I.kept kp
    have free := J.hok.fresh (Nat.le_refl g.objs.size)
    exact k g.objs.size c' H _ (.inl ⟨rfl, co⟩) free (J.laid (t' := tk) (fun b u e => Heap.get?_push_of_some _ e) (Nat.le_refl _) (fnO_ok (Heap.get?_push_size _ rfl)))
  | none =>
    refine PySem.W.kla_makeFunction (mg := X.mg) (c := c) (P := P) (ps := ps) (closure_ok fr) I.ok.glob (I.mod.glob.keeps I.bk) hc (B.code.keeps I.bk) atP tr am B.gP bm fun c' ctv g tk kp ge lt rec_ tb => ?_
    obtain ⟨c2, oc, vs, t, e2, hoc, hd, hv⟩ := rec_
    cases e2
    have J := LamX.inv_table (t' := tk) (more := #[rawInt pos.line, rawInt pos.col, .ref c']) (q := X.env.qual ++ "<lambda>") I hP kp tb ge ⟨oc, vs, t, hoc, hd, hv⟩
    have free := J.hok.fresh (Nat.le_refl g.objs.size)
    exact k g.objs.size c' _ _ (.inr ⟨ps, pos, hP, tr, I.hok.fresh ge, rfl⟩) free (J.laid (t' := tk) (fun b u e => Heap.get?_push_of_some _ e) (Nat.le_refl _) (fnO_ok (Heap.get?_push_size _ rfl)))
end
/-- what a lambda is: its parts, what its reading does -/
structure LamI where
  ar : Arguments
  bd : Expr
  sc : Scope
  t : XK → TE
def LamI.o (i : LamI) (q : Str) (cells : List (Str × Addr)) (c' f : Addr) : HO := FnO q i.ar i.bd i.sc (cloFrom cells i.sc.names []) c' f
structure LamOk (X : Cx) (k : Nat) (i : LamI) : Prop where
  L : LamX.LamS X.env.scope i.sc
  nd : defaultsOf i.ar X.env = ([], [])
  bind : ∀ (q : Str) (cl : List (Str × Addr)) (pm cv ctv : Value), bindArgs (PySem.W.kla_fn "<lambda>" q i.ar i.bd i.sc cl pm cv ctv) ⟨[], []⟩ = pure []
  body : ∀ (A : Around) (outer : List PySem.Env) (s : Shared) (H : Hp) (E : XK) (f c' : Addr), Room k (A.deeper (LamX.lamEnv X i.sc s.heap.objs.size f c')) → PE (LamX.lamCx X A outer s H E i.sc f c') i.bd (i.t E)
def tLamV (P : Addr) (q : Str) (cells : List (Str × Addr)) (i : LamI) : TE := fun σ H Q => LamX.TabS H P q ∧ ∀ H1 c' f, Made H P q H1 c' → H1 f = none → Q (.ref f) (upd H1 f (i.o q cells c' f))
def tLamsV (P : Addr) (q : Str) (cells : List (Str × Addr)) : List LamI → TA
  | [] => tNil
  | i :: r => tCons (tLamV P q cells i) (tLamsV P q cells r)
section
variable {X : Cx}
theorem pe_lamV {c P : Addr} {k : Nat} {i : LamI} {lp : Pos} (B : LamX.TabB X.base X.mg c P) (hc : X.env.code = .ref c) (h : LamOk X k i) : PE X (.Lambda i.ar i.bd i.sc lp) (tLamV P (X.env.qual ++ "<lambda>") X.env.cells i) := by
  refine ⟨fun pins s σ H Q I ⟨ts, w⟩ => lam_track I B hc ts h.nd (h.L.has I.ok) fun f c' H1 z md nf J => ?_⟩
  exact ⟨.ref f, _, J, rfl, w H1 c' f md nf⟩
/-- lambdas side by side -/
inductive Lams (X : Cx) (k : Nat) : List Expr → List LamI → Prop
  | nil : Lams X k [] []
  | cons {i : LamI} {lp : Pos} {es : List Expr} {is : List LamI} (h : LamOk X k i) (hs : starEach (.Lambda i.ar i.bd i.sc lp :: es) X.env = (false, eval (.Lambda i.ar i.bd i.sc lp) X.env) :: starEach es X.env) (r : Lams X k es is) : Lams X k (.Lambda i.ar i.bd i.sc lp :: es) (i :: is)
theorem Lams.pa {c P : Addr} {k : Nat} (B : LamX.TabB X.base X.mg c P) (hc : X.env.code = .ref c) : ∀ {es : List Expr} {is : List LamI}, Lams X k es is → PA X es (tLamsV P (X.env.qual ++ "<lambda>") X.env.cells is)
  | _, _, .nil => pa_nil
  | _, _, .cons h hs r => pa_cons (pe_lamV B hc h) (Lams.pa B hc r) hs
theorem Lams.ok {k : Nat} : ∀ {es : List Expr} {is : List LamI}, Lams X k es is → ∀ i ∈ is, LamOk X k i
  | _, _, .nil, i, h => by cases h
  | _, _, .cons h _ r, i, m => by
    rcases List.mem_cons.mp m with rfl | z
    · exact h
    · exact Lams.ok r i z
end
/-! ### its call -/
section
variable {X : Cx} {pins : List (Addr × Obj)} {σ : L2.St} {H : Hp} {s : Shared}
/-- y(), in the def that got the lambda at f -/
theorem pe_actV {CXg : CXT} {Eg : XK} {Ng : List Str} {qg : Str} {sg : Scope} {g f c' : Addr} {cdg : Value} {L : LamI} {k i : Nat} {a : Str} {pn : List (Addr × Obj)} {xe : Value → Shared → Prop} {W : WX} {E : XK} {p1 p2 : Pos} (I : Inv X pins σ H s) (ok : LamOk X k L)
    (tk : Takes ((cxOf CXg X.prog X.w X.K X.mg X.base Ng qg sg g cdg X.A X.stack s H Eg).tr pn xe) W) (hW : ∀ cls d σ' H', E cls d H' → W cls d σ' H') (hr : Room (k + 1) (X.A.deeper (envOfC qg sg s.heap.objs.size g cdg)))
    (ix : Ng[i]? = some a) (va : Vis sg a) (hd : (a == ("__debug__" : Str)) = false := by decide) (hcd : (a == ("__classdict__" : Str)) = false := by decide) :
    PE ((cxOf CXg X.prog X.w X.K X.mg X.base Ng qg sg g cdg X.A X.stack s H Eg).tr pn xe) (.Call (.Name a p1) [] [] p2)
      (fun τ G Q => τ[i]? = some (some (.ref f)) ∧ G c' = some (LamX.CodeO c' (X.env.qual ++ "<lambda>")) ∧ (G f = some (L.o (X.env.qual ++ "<lambda>") X.env.cells c' f) ∧ L.t E σ G Q)) := by
  refine ⟨fun ps z τ G Q J ⟨e1, e2, e3, w⟩ => ?_⟩
  refine wpAny_Call_Name_kw (thn ((pe_var (pos := p1) (i := i) ix va hd hcd).run ps z τ G (fun v G1 => v = .ref f ∧ G1 = G) J ⟨.ref f, e1, rfl, rfl⟩) fun u z1 ⟨v, G1, J1, r1, v1, v2⟩ => ?_)
  subst v1 v2
  obtain rfl : u = Value.ref f := r1
  obtain ⟨⟨pm, ctv, fo⟩, _, _⟩ : ObjOk X.prog X.w G1 z1.heap f (FnO (X.env.qual ++ "<lambda>") L.ar L.bd L.sc (cloFrom X.env.cells L.sc.names []) c' f) := J1.hok f _ e3
  refine PySem.W.callWith_F0 ⟨_, _, _, _, fo⟩ ?_
  obtain ⟨⟨oc, vs, t, o1, o2, o3⟩, _, _⟩ := J1.hok c' _ e2
  have un : Un (frs X.stack) [] H G1 s.heap z1.heap := J1.base
  have rc : codeAny (model X.prog X.w) (X.A.deeper (envOfC qg sg s.heap.objs.size g cdg)) (.call (.ref f) ⟨[], []⟩) (CR (L2.CX X.prog X.w) (envOfC qg sg s.heap.objs.size g cdg :: X.stack) X.prog X.w G1 z1 Q E) z1 := by
    refine PySem.W.kla_callFunE hr.depth fo rfl ok.L.co ok.L.gen rfl ⟨c', oc, vs, t, rfl, o1, o2, o3⟩ ?_
    rw [ok.bind]
    refine wpAny_pure (wpAny_newFunctionEnv (fun y hy => (ok.L.own y hy).2) (fun y hy => (by simp at hy)) (fun h1 ns sb => ⟨J1.nolimit.fresh _ sb, ?_⟩) ok.L.kind)
    have kp : ∀ b o, z1.heap.get? b = some o → h1.get? b = some o := fun b o e => sb.extBut b o (Nat.ne_of_lt (Heap.lt_size e)) (Heap.get?_push_of_some _ e)
    have M := LamX.lam_start2 (A := X.A.deeper (envOfC qg sg s.heap.objs.size g cdg)) (outer := envOfC qg sg s.heap.objs.size g cdg :: X.stack) (E := E) (scope := L.sc) (f := f) (c' := c') (tk := z1.toks + ([] : List (Str × Value)).length) I ok.L J1.env0 hr.hd un ns kp
    refine PySem.W.kla_codeExpr (wpAny_mono ((ok.body _ _ z1 G1 E f c' (hr.deeper _)).run [] _ _ G1 Q M w) (fun v s' ⟨w', H', M', rv, q⟩ => ?_) fun e s' hq => hq)
    exact ⟨w', H', M'.os, M'.bare, M'.base, M'.hok, rv, q⟩
  refine wpAny_call (codeAny_mono rc fun r s' hq => ?_)
  cases r with
  | error e => exact passes_call tk hW ps τ G1 z1 e s' J1 hq
  | ok fl =>
    cases fl with
    | ret u => exact J1.after hq
    | next | brk | cont => exact False.elim hq
end
/-- what the reading is asked, the last value any -/
def TCodeV (K : Fg) (j n : Nat) (l : List (Value × (Addr → Value → Option Addr → TS))) (z : V) : (XK → Hp → VK → Prop) → Hp → VK → Prop := fun tl H Q =>
  tl (fun c d H' => ∀ σ : L2.St, σ.length = n → wList K j (fun _ _ _ _ => False) { nx := fun _ H' => Q z H', rt := Q } l c d σ H') H fun _ H' => Q z H'
theorem code_givesV {X : Cx} {x a q en : Str} {z : V} {ez : Expr} {j : Nat} {sg : Scope} {g : Addr} {cdg : Value} {Ng : List Str} {h1 : ExceptHandler} {hds : List ExceptHandler} {l : List (Value × (Addr → Value → Option Addr → TS))} {p1 p2 p3 p4 p6 : Pos}
    (nd : Ng.Nodup) (h0 : ∀ f : Addr, (L2.start Ng [V.ref f])[0]? = some (some (V.ref f))) (ix : Ng[j]? = some en) (lo : sg.names.lookup en = some .local) (hz : ∀ Y : Cx, PE Y ez (tC z))
    (hh : ∀ (s : Shared) (H : Hp), Cls' (cxOf C8.CX0 X.prog X.w X.K X.mg X.base Ng x sg g cdg X.A X.stack s H C8.E0).nox en (h1 :: hds) l) :
    LamX.GivesTo X Ng x sg g cdg [.Try [.Expr (.Call (.Name a p1) [] [] p2) p3] (h1 :: hds) [] [] p4, .Return (some ez) p6] a q (TCodeV X.K j Ng.length l z) := by
  intro f c' s H Q tl act hc h
  let Z : Cx := (cxOf C8.CX0 X.prog X.w X.K X.mg X.base Ng x sg g cdg X.A X.stack s H C8.E0).nox
  have kl : Z.env.kindOf en = some .local := lo
  refine ⟨_, pss_cons (ps_clauses (X := Z) (Wo := fun _ _ _ _ => False) (j := j)
    (tb := fun W D σ H => ∃ Ech : XK, (∀ cls d σ' H', Ech cls d H' → σ'.length = Ng.length → W cls d σ' H') ∧ σ[0]? = some (some (.ref f)) ∧ H c' = some (LamX.CodeO c' q) ∧ tl Ech H fun _ H' => D.nx σ H')
    rfl rfl nd ix kl LamX.takes0 (fun W pn xe tk _ => ?_) (hh s H)) (pss_one (ps_ret (hz Z))), ?_⟩
  · refine ⟨fun pins s' σ H D I ⟨Ech, hW, e1, e2, e3⟩ => ?_⟩
    have hp := act (fun c d σ H => σ.length = Ng.length → W c d σ H) pn xe Ech p1 p2 (takes_len tk) (fun c d σ' H' z w => hW c d σ' H' z w)
    exact (pss_one (ps_expr (pos := p3) hp)).run pins s' σ H D I ⟨e1, e2, e3⟩
  · exact ⟨fun c d H' => ∀ σ : L2.St, σ.length = Ng.length → wList X.K j (fun _ _ _ _ => False) { nx := fun _ H' => Q z H', rt := Q } l c d σ H', fun c d σ' H' w e => w σ' e, h0 f, hc, h⟩
/-- x(y), y the loop's name -/
def tCallV (q : Str) (cells : List (Str × Addr)) (i : Nat) (is : List LamI) (TT : (XK → Hp → VK → Prop) → Hp → VK → Prop) : TE := fun σ H Q => ∃ L ∈ is, ∃ f c' : Addr, σ[i]? = some (some (.ref f)) ∧ H f = some (L.o q cells c' f) ∧ H c' = some (LamX.CodeO c' q) ∧
  TT (fun E G R => G f = some (L.o q cells c' f) ∧ L.t E σ G R) H Q
section
variable {X : Cx}
theorem pe_callV {TT : (XK → Hp → VK → Prop) → Hp → VK → Prop} {x a y : Str} {g : Addr} {k i : Nat} {st : Stmt} {fd : FuncData} {Ng : List Str} {is : List LamI} {p py pos : Pos} (hg : Gl X x) (hm : X.mg x = some (.ref g)) (Fn : Fun X.K x x st g fd) (hb : L2.Binds X.K fd [a] []) (Sg : FnScope Ng [a] (defScope st)) (h0 : Ng[0]? = some a) (va : Vis (defScope st) a)
    (hG : ∀ cdg, LamX.GivesTo X Ng x (defScope st) g cdg (defBody st) a (X.env.qual ++ "<lambda>") TT) (hr : Room (k + 2) X.A) (ok : ∀ L ∈ is, LamOk X k L) (ix : X.N[i]? = some y) (vy : Vis X.env.scope y)
    (hdb : (x == ("__debug__" : Str)) = false := by decide) (hd : (a == ("__debug__" : Str)) = false := by decide) (hcd : (a == ("__classdict__" : Str)) = false := by decide) (hy : (y == ("__debug__" : Str)) = false := by decide) (hcy : (y == ("__classdict__" : Str)) = false := by decide) :
    PE X (.Call (.Name x p) [.Name y py] [] pos) (tCallV (X.env.qual ++ "<lambda>") X.env.cells i is TT) := by
  obtain ⟨⟨oc, od, kV, doc, pm, an, cdg, ct, osl, rfl, lk, hcg⟩, hk⟩ := Fn
  refine ⟨fun pins s σ H Q I ⟨L, hL, f, c', e1, e2, e3, h⟩ => ?_⟩
  refine wpAny_Call_Name_kw (ld_glob I hg hm (PySem.W.callWith_K (h₀ := X.base) I.ok.mod.kin hk ?_ (by rfl) (by rfl)) hdb)
  change wpAny _ _ (spliced ((false, eval (.Name y py) X.env) :: backTo pos (starEach [] X.env))) _ _ s
  refine Calls.spliced_cons (thn ((pe_var (pos := py) (i := i) ix vy hy hcy).run pins s σ H (fun v G => v = .ref f ∧ G = H) I ⟨.ref f, e1, rfl, rfl⟩) fun u s1 ⟨v, G, J, r1, v1, v2⟩ => ?_)
  subst v1 v2
  obtain rfl : u = Value.ref f := r1
  refine Calls.spliced_nil ⟨J.kIn, wpAny_call (codeAny_mono (R := CR C8.CX0 X.stack X.prog X.w G s1 Q C8.E0) ?_ fun r s2 z => ?_)⟩
  · refine LamX.run_ofS (N := Ng) (ps := [a]) (us := [.ref f]) (vs := [.ref f]) lk hcg Sg hr J.env0 (hb s1 [.ref f] J.kIn rfl) (.cons rfl .nil) rfl fun hr' => ?_
    obtain ⟨t', ht', hq'⟩ := hG cdg f c' s1 G Q _ (fun W pn xe E p1 p2 tk hW => pe_actV (i := 0) (E := E) J (ok L hL) tk hW hr' h0 va hd hcd) e3 h
    exact ⟨t', ht'.nox, hq'⟩
  · cases r with
    | error e => exact (show False from z).elim
    | ok fl => cases fl with
      | ret u => exact J.after z
      | next | brk | cont => exact False.elim z
end
/-! ### the loop, read -/
section
variable {K : Fg} {cl : Cl} {W : WX} {F0 H0 F H F' H' : Hp} {σ σ' : L2.St} {ρ ρ' : DL.Env}
/-- the ground of a loop: what was there, and the code objects -/
noncomputable def grd (F H0 H : Hp) : Hp := fun b => open Classical in if ∃ q, H b = some (LamX.CodeO b q) then H b else un F H0 b
theorem grd_code {b : Addr} {q : Str} (h : H b = some (LamX.CodeO b q)) : grd F H0 H b = some (LamX.CodeO b q) := by
  unfold grd
  rw [if_pos ⟨q, h⟩]
  exact h
theorem grd_tbl {b : Addr} {ps : Array Value} (h : H b = some (.tbl ps)) : grd F H0 H b = un F H0 b := by
  unfold grd
  refine if_neg ?_
  rintro ⟨q, e⟩
  rw [h] at e
  exact LamX.codeO_ne ps (Option.some.inj e).symm
theorem grd_none {b : Addr} (h : H b = none) : grd F H0 H b = un F H0 b := by
  unfold grd
  refine if_neg ?_
  rintro ⟨q, e⟩
  rw [h] at e
  cases e
theorem grd_or (b : Addr) : grd F H0 H b = un F H0 b ∨ grd F H0 H b = H b := by
  unfold grd
  split
  · exact .inr rfl
  · exact .inl rfl
/-- the ground lies below -/
theorem Gr.ground (g : Gr F0 H0 F H) : Gr F (grd F H0 H) F H := by
  have r := g.rebase
  refine ⟨Same.refl _, ⟨fun p o e n => ?_, fun P hm C hC t => ?_, fun p e => ?_, fun P ps e => ?_⟩, g.s, fun p a b => absurd b a, fun p ps e => ?_, fun _ _ e => e⟩
  · rcases grd_or (F := F) (H0 := H0) (H := H) p with z | z
    · exact r.k.o p o (z ▸ e) n
    · exact z ▸ e
  · refine r.k.t P hm C hC ?_
    obtain ⟨ps, e, t⟩ := t
    refine ⟨ps, ?_, t⟩
    rcases grd_or (F := F) (H0 := H0) (H := H) P with z | z
    · exact z ▸ e
    · rw [← grd_tbl (F := F) (H0 := H0) (z ▸ e)]
      exact e
  · rw [grd_none e]
    exact r.k.f p e
  · rw [grd_tbl e]
    exact r.k.b P ps e
  · rw [grd_tbl (g.s _ _ e)]
    exact r.w p ps e
/-- what grew on the ground grew -/
theorem Gr.unground (g : Gr F0 H0 F H) (b : Gr F (grd F H0 H) F' H') : Gr F0 H0 F' H' := by
  refine g.back ?_
  have r := g.rebase
  have up : ∀ p o, un F H0 p = some o → (∀ ps, o ≠ .tbl ps) → grd F H0 H p = some o := fun p o e n => by
    rcases grd_or (F := F) (H0 := H0) (H := H) p with z | z
    · rw [z]
      exact e
    · rw [z]
      exact r.k.o p o e n
  have low : ∀ p, grd F H0 H p = none → un F H0 p = none := fun p e => by
    rcases grd_or (F := F) (H0 := H0) (H := H) p with z | z
    · exact z ▸ e
    · exact r.k.f p (z ▸ e)
  refine ⟨b.f, ⟨fun p o e n => b.k.o p o (up p o e n) n, fun P hm C hC t => b.k.t P hm C hC ?_, fun p e => low p (b.k.f p e), fun P ps e => ?_⟩, b.s, fun p x y => low p (b.n p x y), fun p ps x => ?_, b.v⟩
  · obtain ⟨ps, e, t⟩ := t
    refine ⟨ps, ?_, t⟩
    rcases grd_or (F := F) (H0 := H0) (H := H) P with z | z
    · rw [z]
      exact e
    · have t1 : TabC (fun _ => True) (un F H0) P := ⟨ps, e, t.1, fun pos cv hc => by
        obtain ⟨c, x, _⟩ := t.2 pos cv hc
        exact ⟨c, x, trivial⟩⟩
      obtain ⟨ps', x, _⟩ := r.k.t P hm (fun _ => True) (fun _ _ => trivial) t1
      rw [grd_tbl x]
      exact e
  · obtain ⟨ps0, x⟩ := b.k.b P ps e
    rcases grd_or (F := F) (H0 := H0) (H := H) P with z | z
    · exact ⟨ps0, z ▸ x⟩
    · exact r.k.b P ps0 (z ▸ x)
  · rcases b.w p ps x with y | y
    · exact .inl (low p y)
    · refine .inr ?_
      rcases grd_or (F := F) (H0 := H0) (H := H) p with z | z
      · exact z ▸ y
      · rw [← grd_tbl (F := F) (H0 := H0) (z ▸ y)]
        exact y
theorem own_code {a b : Addr} {d : D} {q : Str} (w : Own K cl F H a d) (e : H a = some (LamX.CodeO b q)) : False := by
  unfold LamX.CodeO at e
  cases d with
  | lst ds => obtain ⟨_, x, _⟩ := w; rw [e] at x; cases x
  | dk ds => obtain ⟨_, x, _⟩ := w; rw [e] at x; cases x
  | dt ds => obtain ⟨_, x, _⟩ := w; rw [e] at x; cases x
  | ins c ds => obtain ⟨_, ⟨_, _, _, x, _⟩, _⟩ := w; rw [e] at x; cases x
  | _ => exact w
theorem Hold.ground (h : Hold K cl F0 H0 F H σ ρ) : Hold K cl F (grd F H0 H) F H σ ρ := by
  obtain ⟨θ, hs, hd⟩ := h.sl
  refine ⟨h.g.ground, h.tb, h.len, θ, fun i s e => ?_, hd⟩
  have q := hs i s e
  cases s with
  | no => trivial
  | v d => exact q
  | o d =>
    obtain ⟨e1, n0, nf, w⟩ := q
    refine ⟨e1, ?_, nf, w⟩
    unfold grd
    rw [if_neg (fun ⟨q, z⟩ => own_code w z)]
    exact un_none.mpr ⟨nf, n0⟩
theorem Hold.unground (g : Gr F0 H0 F H) (h : Hold K cl F (grd F H0 H) F' H' σ ρ) : Hold K cl F0 H0 F' H' σ ρ := by
  obtain ⟨θ, hs, hd⟩ := h.sl
  have low : ∀ p, grd F H0 H p = none → un F H0 p = none := fun p e => by
    rcases grd_or (F := F) (H0 := H0) (H := H) p with z | z
    · exact z ▸ e
    · exact g.rebase.k.f p (z ▸ e)
  refine ⟨g.unground h.g, h.tb, h.len, θ, fun i s e => ?_, hd⟩
  have q := hs i s e
  cases s with
  | no => trivial
  | v d => exact q
  | o d =>
    obtain ⟨e1, n0, nf, w⟩ := q
    exact ⟨e1, (un_none.mp (low _ n0)).2, nf, w⟩
theorem LinkE.ground {E : EK} (g : Gr F0 H0 F H) (le : LinkE K cl F0 H0 W E) : LinkE K cl F (grd F H0 H) W E := fun err ρ σ F' H' c dx h e r => le err ρ σ F' H' c dx (h.unground g) e r
theorem LinkD.ground {A : Ends} {B : DE} (g : Gr F0 H0 F H) (l : LinkD K cl F0 H0 A B) : LinkD K cl F (grd F H0 H) A B := by
  have low : ∀ p, grd F H0 H p = none → H0 p = none := fun p e => by
    rcases grd_or (F := F) (H0 := H0) (H := H) p with z | z
    · exact (un_none.mp (z ▸ e)).2
    · exact g.k.f p (z ▸ e)
  exact ⟨fun F' H' σ ρ h q => l.nx F' H' σ ρ (h.unground g) q, fun F' H' σ ρ h q => l.bk F' H' σ ρ (h.unground g) q, fun F' H' σ ρ h q => l.ct F' H' σ ρ (h.unground g) q, fun F' H' v d h r r2 q => l.rt F' H' v d (g.unground h) r (fun z => by
    obtain ⟨p, e, n, f, o⟩ := r2 z
    exact ⟨p, e, low p n, f, o⟩) q, fun F' H' σ ρ v d h r q => l.ro F' H' σ ρ v d (h.unground g) r q⟩
/-- a name of which nothing is known may hold anything -/
theorem Hold.any {i : Nat} {v : V} (h : Hold K cl F0 H0 F H σ ρ) : Hold K cl F0 H0 F H (σ.set i (some v)) (ρ.set i .no) := by
  have h := h.drop (i := i)
  obtain ⟨θ, hs, hd⟩ := h.sl
  refine ⟨h.g, h.tb, by simpa using h.len, θ, fun j s e => ?_, hd⟩
  by_cases hj : i = j
  · subst hj
    have hl : i < (ρ.set i .no).length := (List.getElem?_eq_some_iff.mp e).1
    rw [List.getElem?_set_self (by simpa using hl)] at e
    cases e
    trivial
  · rw [List.getElem?_set_ne hj]
    exact hs j s e
end
/-! ### the lambdas stand side by side -/
/-- where they stand -/
inductive LamsAt (q : Str) (cells : List (Str × Addr)) (F H : Hp) : List V → List LamI → Prop
  | nil : LamsAt q cells F H [] []
  | cons {f c' : Addr} {i : LamI} {vs : List V} {is : List LamI} (a : F f = some (i.o q cells c' f)) (b : H c' = some (LamX.CodeO c' q)) (r : LamsAt q cells F H vs is) : LamsAt q cells F H (.ref f :: vs) (i :: is)
theorem LamsAt.len {q : Str} {cells : List (Str × Addr)} {F H : Hp} : ∀ {vs : List V} {is : List LamI}, LamsAt q cells F H vs is → vs.length = is.length
  | _, _, .nil => rfl
  | _, _, .cons _ _ r => by rw [List.length_cons, List.length_cons, r.len]
theorem LamsAt.grow {q : Str} {cells : List (Str × Addr)} {F H F' H' : Hp} (f : Same F F') (k : ∀ c, H c = some (LamX.CodeO c q) → H' c = some (LamX.CodeO c q)) : ∀ {vs : List V} {is : List LamI}, LamsAt q cells F H vs is → LamsAt q cells F' H' vs is
  | _, _, .nil => .nil
  | _, _, .cons a b r => .cons (f _ _ a) (k _ b) (LamsAt.grow f k r)
theorem LamsAt.get {q : Str} {cells : List (Str × Addr)} {F H : Hp} : ∀ {vs : List V} {is : List LamI} {j : Nat} {v : V}, LamsAt q cells F H vs is → vs[j]? = some v → ∃ i f c', is[j]? = some i ∧ v = .ref f ∧ F f = some (i.o q cells c' f) ∧ H c' = some (LamX.CodeO c' q)
  | _, _, _, _, .nil, e => by simp at e
  | _, _, 0, _, .cons a b _, e => by
    simp only [List.getElem?_cons_zero, Option.some.injEq] at e
    exact ⟨_, _, _, rfl, e.symm, a, b⟩
  | _, _, j + 1, _, .cons _ _ r, e => by
    obtain ⟨i, f, c', x⟩ := LamsAt.get (j := j) r (by simpa using e)
    exact ⟨i, f, c', by simpa using x⟩
section
variable {K : Fg} {cl : Cl} {W : WX}
theorem lams_run {P : Addr} {cells : List (Str × Addr)} {σ : L2.St} (hP : P ∈ cl.tabs) : ∀ (is : List LamI) {F H : Hp} {Q : List V → Hp → Prop}, Same F H → TabF cl F H → (∀ vs F1 H1, Gr F H F1 H1 → LamsAt (TN.nm P) cells F1 H1 vs is → Q vs H1) → tLamsV P (TN.nm P) cells is σ H Q
  | [], F, H, Q, s, _, q => q [] F H (Gr.refl s) .nil
  | i :: r, F, H, Q, s, tb, q => by
    obtain ⟨ts, nf, _⟩ := tb P hP
    refine ⟨ts, fun H1 c' f md hf => ?_⟩
    have g1 := md.gr s nf
    have g2 := g1.trans (Gr.new g1.s hf (o := i.o (TN.nm P) cells c' f) fnO_ne)
    refine lams_run hP r g2.s (tb.grow g2) fun vs F2 H2 g3 at_ => ?_
    refine q _ F2 H2 (g2.trans g3) (.cons (g3.f _ _ upd_same) (g3.k.get ?_ LamX.codeO_ne) at_)
    rw [upd_ne (ne_of_none md.code hf)]
    exact md.code
/-- a call whose lambda is known -/
def tKnown (t : TE) (i : Nat) (f c' : Addr) (q : Str) (o : HO) : TE := fun σ H Q => σ[i]? = some (some (.ref f)) → H f = some o → H c' = some (LamX.CodeO c' q) → t σ H Q
variable {Z : Cx} {os : List String} {j n : Nat} {en : Str} {hds : List ExceptHandler} {l : List (Value × (Addr → Value → Option Addr → TS))} {r : List (String × (Err → DK → Prop))}
theorem rfe_known {q : Str} {cells : List (Str × Addr)} {i : Nat} {is : List LamI} {L : LamI} {f c' : Addr} {z : V} {zd : D} {d : DT} (hh : Tells Z K cl os j en hds l r) (hj : j < n) (hL : L ∈ is) (hz : ∀ F, Rep K cl F z zd) (ht : ∀ E : XK, RfE K cl (fun c dx _ H => E c dx H) (L.t E) d) :
    RfE K cl W (tKnown (tCallV q cells i is (TCodeV K j n l z)) i f c' q (L.o q cells c' f)) (dCodeV os r zd d) where
  mono2 := fun E E' ρ A A' hE hA w => (ht fun _ _ _ => False).mono2 _ _ (noOwn ρ) _ _ (fun e _ w => hh.mono e _ _ hA w) (fun _ w => hA _ w) w
  ok := fun F0 H0 F H σ ρ E Q h0 le w e1 e2 e3 => by
    refine ⟨L, hL, f, c', e1, e2, e3, e2, ?_⟩
    have hb := h0.wipe (vs := [])
    refine (ht _).ok F H F H σ (noOwn ρ) (fun e _ => pick os r e fun y => ∀ v F' H', Gr F H F' H' → Rep K cl F' v y → Q v H') _ hb (fun err ρ' σ' F' H' cc dx h e re => ?_) ((ht fun _ _ _ => False).mono _ _ _ _ (fun y w v F' H' g' r' => ?_) w)
    · exact fun σ2 hσ => hh.ok h.g.s re (by rw [hσ]; exact hj) rfl (hh.mono err _ _ (fun y w v F2 H2 g2 r2 => w v F2 H2 (h.g.trans g2) r2) e)
    · exact w z F' H' g' (hz F')
/-- the loop's suites: the call's reading is all that differs -/
theorem rfs_forLam {P : Addr} {cells : List (Str × Addr)} {i : Nat} {is : List LamI} {ds : List DT} {z : V} {zd : D} {tb : TE → TS} {db : DT → DS} (hP : P ∈ cl.tabs) (hh : Tells Z K cl os j en hds l r) (hj : j < n) (hz : ∀ F, Rep K cl F z zd)
    (hU : ∀ (t t' : TE) (A : Ends) (σ : L2.St) (H : Hp), (∀ k, t σ H k → t' σ H k) → tb t A σ H → tb t' A σ H) (hb : ∀ t d, RfE K cl W t d → RfS K cl W (tb t) (db d)) (ht : ∀ (k : Nat) L d, is[k]? = some L → ds[k]? = some d → ∀ E : XK, RfE K cl (fun c dx _ H => E c dx H) (L.t E) d) (hl : ds.length = is.length) (hs : is.length ≤ 1000) :
    RfS K cl W (tFor (iTup K (tTup (tLamsV P (TN.nm P) cells is))) (L2.gName i) (tb (tCallV (TN.nm P) cells i is (TCodeV K j n l z)))) (sForLam i (ds.map fun d => db (dCodeV os r zd d))) where
  mono2 := fun E E' A B ρ hE le q => by
    have key : ∀ (l : List DT), (∀ d ∈ l, ∃ L ∈ is, ∀ E : XK, RfE K cl (fun c dx _ H => E c dx H) (L.t E) d) → ∀ ρ : DL.Env, sForLam i (l.map fun d => db (dCodeV os r zd d)) E A ρ → sForLam i (l.map fun d => db (dCodeV os r zd d)) E' B ρ := by
      intro l
      induction l with
      | nil => exact fun _ ρ q => le.nx _ q
      | cons d l ih =>
        intro hd ρ q
        obtain ⟨L, hL, hLd⟩ := hd d (by simp)
        have ih := ih fun d m => hd d (by simp [m])
        exact ⟨q.1, (hb _ _ (rfe_known (cells := cells) (q := TN.nm P) (i := i) (f := 0) (c' := 0) hh hj hL hz hLd)).mono2 E E' { nx := sForLam i (l.map fun d => db (dCodeV os r zd d)) E A, ct := sForLam i (l.map fun d => db (dCodeV os r zd d)) E A, bk := A.nx, rt := A.rt, ro := A.ro } { nx := sForLam i (l.map fun d => db (dCodeV os r zd d)) E' B, ct := sForLam i (l.map fun d => db (dCodeV os r zd d)) E' B, bk := B.nx, rt := B.rt, ro := B.ro } _ hE ⟨ih, le.rt, le.nx, ih, le.ro⟩ q.2⟩
    refine key ds (fun d hd => ?_) ρ q
    obtain ⟨k, hk, e⟩ := List.getElem_of_mem hd
    have e2 : is[k]? = some (is[k]'(by omega)) := List.getElem?_eq_getElem (by omega)
    exact ⟨_, List.mem_of_getElem? e2, ht k _ _ e2 (by rw [List.getElem?_eq_getElem hk, e])⟩
  ok := fun F0 H0 F H σ ρ E B A hho le ld q => by
    refine lams_run hP is hho.g.s hho.tb fun vs F1 H1 g1 at1 => ⟨by rw [at1.len, sizeLine_eq]; omega, fun p hp => ⟨p, rfl, ⟨vs, SqT.of upd_same⟩, ?_⟩⟩
    have g2 := g1.trans (Gr.new g1.s hp (o := .tup vs))
    have at2 : LamsAt (TN.nm P) cells (upd F1 p (.tup vs)) (upd H1 p (.tup vs)) vs is := at1.grow (same_upd (g1.s.free hp)) fun c e => by
      rw [upd_ne (ne_of_none e hp)]
      exact e
    have h2 := hho.grow g2
    have hg := h2.ground
    have le2 := le.ground h2.g
    have ld2 := ld.ground h2.g
    refine for_tup (fun k σ' H' => ∃ F' ρ', Hold K cl (upd F1 p (.tup vs)) (grd (upd F1 p (.tup vs)) H0 (upd H1 p (.tup vs))) F' H' σ' ρ' ∧ sForLam i ((ds.drop k).map fun d => db (dCodeV os r zd d)) E B ρ') ⟨_, ρ, hg, q⟩ (fun k σ' H' _ ⟨F', ρ', h', _⟩ => SqT.of ((h'.g.f.trans h'.g.s) _ _ upd_same)) (fun k x σ' H' hx ⟨F', ρ', h', q'⟩ => ?_) fun σ' H' ⟨F', ρ', h', q'⟩ => ?_
    · obtain ⟨L, f, c', hk, rfl, eF, eC⟩ := at2.get hx
      have kl : k < is.length := (List.getElem?_eq_some_iff.mp hk).1
      have ed : ds[k]? = some (ds[k]'(by omega)) := List.getElem?_eq_getElem (by omega)
      rw [List.drop_eq_getElem_cons (by omega), List.map_cons] at q'
      obtain ⟨hi, q'⟩ := q'
      have h3 := h'.any (i := i) (v := .ref f)
      change tb (tCallV (TN.nm P) cells i is (TCodeV K j n l z)) _ (σ'.set i (some (.ref f))) H'
      refine hU (tKnown (tCallV (TN.nm P) cells i is (TCodeV K j n l z)) i f c' (TN.nm P) (L.o (TN.nm P) cells c' f)) _ _ _ _ (fun R w => w (List.getElem?_set_self (by rw [h'.len]; exact hi)) ((h'.g.f.trans h'.g.s) _ _ eF) (h'.g.k.get (grd_code eC) LamX.codeO_ne)) ?_
      exact (hb _ _ (rfe_known hh hj (List.mem_of_getElem? hk) hz (ht k L _ hk ed))).ok _ _ F' H' _ _ E { nx := sForLam i ((ds.drop (k + 1)).map fun d => db (dCodeV os r zd d)) E B, ct := sForLam i ((ds.drop (k + 1)).map fun d => db (dCodeV os r zd d)) E B, bk := B.nx, rt := B.rt, ro := B.ro } _ h3 le2
        ⟨fun F5 H5 σ5 ρ5 h5 q5 => ⟨F5, ρ5, h5, q5⟩, ld2.nx, fun F5 H5 σ5 ρ5 h5 q5 => ⟨F5, ρ5, h5, q5⟩, ld2.rt, ld2.ro⟩ q'
    · rw [at2.len, ← hl, List.drop_length] at q'
      exact ld2.nx _ _ _ _ h' q'
end
theorem qual_as {x : Str} {sc : Scope} {n m : Nat} {f g : Addr} {c d : Value} {z q : Str} (h : q = (envOfC x sc m g d).qual ++ z) : (envOfC x sc n f c).qual ++ z = q := h.symm
theorem hu_sub {A : Around} {k : Nat} (hr : Room (k + 1) A) (env : PySem.Env) (m : Option Value) : ((A.deeper env).mark m).units + 65 < cLine := by
  have := (hr.deeper env).un
  show (A.deeper env).units + 65 < cLine
  omega
/-! ### rules -/
/-- lambdas as they are written, with what they do -/
inductive LamsV (X : Cx) (K : Fg) (cl : Cl) (k : Nat) : List Expr → List LamI → List DT → Prop
  | nil : LamsV X K cl k [] [] []
  | cons {ar : Arguments} {bd : Expr} {sc : Scope} {t : XK → TE} {d : DT} {lp : Pos} {es : List Expr} {is : List LamI} {ds : List DT} (L : LamX.lamSB X.env.scope sc = true) (nd : defaultsOf ar X.env = ([], []))
      (bind : ∀ (q : Str) (cl : List (Str × Addr)) (pm cv ctv : Value), bindArgs (PySem.W.kla_fn "<lambda>" q ar bd sc cl pm cv ctv) ⟨[], []⟩ = pure [])
      (body : ∀ (A : Around) (outer : List PySem.Env) (s : Shared) (H : Hp) (E : XK) (f c' : Addr), Room k (A.deeper (LamX.lamEnv X sc s.heap.objs.size f c')) → VE (LamX.lamCx X A outer s H E sc f c') K cl (fun c dx _ H => E c dx H) bd (t E) d)
      (hs : starEach (.Lambda ar bd sc lp :: es) X.env = (false, eval (.Lambda ar bd sc lp) X.env) :: starEach es X.env) (r : LamsV X K cl k es is ds) : LamsV X K cl k (.Lambda ar bd sc lp :: es) (⟨ar, bd, sc, t⟩ :: is) (d :: ds)
section
variable {X : Cx} {K : Fg} {cl : Cl} {W : WX}
theorem LamsV.lams {k : Nat} : ∀ {es : List Expr} {is : List LamI} {ds : List DT}, LamsV X K cl k es is ds → Lams X k es is
  | _, _, _, .nil => .nil
  | _, _, _, .cons (ar := ar) (bd := bd) (sc := sc) (t := t) L nd bind body hs r => .cons (i := ⟨ar, bd, sc, t⟩) ⟨LamX.lamS_by L, nd, bind, fun A outer s H E f c' hr => (body A outer s H E f c' hr).pe⟩ hs r.lams
theorem LamsV.len {k : Nat} : ∀ {es : List Expr} {is : List LamI} {ds : List DT}, LamsV X K cl k es is ds → ds.length = is.length
  | _, _, _, .nil => rfl
  | _, _, _, .cons _ _ _ _ _ r => by rw [List.length_cons, List.length_cons, r.len]
theorem LamsV.rf {k : Nat} (hr : Room (k + 2) X.A) : ∀ {es : List Expr} {is : List LamI} {ds : List DT}, LamsV X K cl k es is ds → ∀ (m : Nat) L d, is[m]? = some L → ds[m]? = some d → ∀ E : XK, RfE K cl (fun c dx _ H => E c dx H) (L.t E) d
  | _, _, _, .nil, m, L, d, e, _ => by simp at e
  | _, _, _, .cons _ _ _ body _ _, 0, L, d, e1, e2 => by
    simp only [List.getElem?_cons_zero, Option.some.injEq] at e1 e2
    subst e1 e2
    exact fun E => (body X.A X.stack X.s_0 X.H_0 E 0 0 ((hr.deeper _).mono (by omega))).rf
  | _, _, _, .cons _ _ _ _ _ r, m + 1, L, d, e1, e2 => LamsV.rf hr r m L d (by simpa using e1) (by simpa using e2)
variable {x a y en : Str} {g c P : Addr} {k i j : Nat} {st : Stmt} {fd : FuncData} {Ng : List Str} {es : List Expr} {is : List LamI} {ds : List DT} {ez : Expr} {z : V} {zd : D} {os : List String} {h1 : ExceptHandler} {hds : List ExceptHandler} {l : List (Value × (Addr → Value → Option Addr → TS))}
  {hr' : List (String × (Err → DK → Prop))} {p p1 p2 p3 p4 p6 py pc yp tp rp cp ip pos : Pos} {tx cj : Nat}
/-- the def that is handed the lambdas -/
structure Teller (X : Cx) (K : Fg) (cl : Cl) (x a en : Str) (g : Addr) (st : Stmt) (fd : FuncData) (Ng : List Str) (ez : Expr) (z : V) (zd : D) (os : List String) (j : Nat) (h1 : ExceptHandler) (hds : List ExceptHandler) (l : List (Value × (Addr → Value → Option Addr → TS))) (r : List (String × (Err → DK → Prop))) : Prop where
  gl : Gl X x
  mg : X.mg x = some (.ref g)
  fn : Fun K x x st g fd
  bi : L2.Binds K fd [a] []
  sc : FnScope Ng [a] (defScope st)
  h0 : Ng[0]? = some a
  va : Vis (defScope st) a
  ix : Ng[j]? = some en
  lo : (defScope st).names.lookup en = some .local
  hz : ∀ Y : Cx, PE Y ez (tC z)
  rz : ∀ F, Rep K cl F z zd
  bd : ∃ p1 p2 p3 p4 p6 : Pos, defBody st = [.Try [.Expr (.Call (.Name a p1) [] [] p2) p3] (h1 :: hds) [] [] p4, .Return (some ez) p6]
  hh : ∀ (cdg : Value) (s : Shared) (H : Hp), Tells (cxOf C8.CX0 X.prog X.w X.K X.mg X.base Ng x (defScope st) g cdg X.A X.stack s H C8.E0).nox K cl os j en (h1 :: hds) l r
theorem Teller.call (T : Teller X K cl x a en g st fd Ng ez z zd os j h1 hds l hr') (hr : Room (k + 2) X.A) (lams : LamsV X K cl k es is ds) (iy : X.N[i]? = some y) (vy : Vis X.env.scope y) (hK : X.K = K) (hdb : (x == ("__debug__" : Str)) = false) (hd : (a == ("__debug__" : Str)) = false) (hcd : (a == ("__classdict__" : Str)) = false) (hy : (y == ("__debug__" : Str)) = false) (hcy : (y == ("__classdict__" : Str)) = false) :
    PE X (.Call (.Name x p) [.Name y py] [] pc) (tCallV (X.env.qual ++ "<lambda>") X.env.cells i is (TCodeV K j Ng.length l z)) := by
  subst hK
  refine pe_callV T.gl T.mg T.fn T.bi T.sc T.h0 T.va (fun cdg => ?_) hr lams.lams.ok iy vy hdb hd hcd hy hcy
  obtain ⟨p1, p2, p3, p4, p6, e⟩ := T.bd
  rw [e]
  exact code_givesV T.sc.nd (fun f => by
    have := T.h0
    cases Ng with
    | nil => cases this
    | cons y ys => rfl) T.ix T.lo T.hz fun s H => (T.hh cdg s H).cls
theorem vs_forLam {tt : TE → TT} {dt : DT → DB} {test : Expr} (pas : PassesOwn (model X.prog X.w) X.A X.env X.xe) (calm : X.calm = true) (T : Teller X K cl x a en g st fd Ng ez z zd os j h1 hds l hr') (B : LamX.TabB X.base X.mg c P) (hc : X.env.code = .ref c) (hP : P ∈ cl.tabs) (hq : X.env.qual ++ "<lambda>" = TN.nm P) (hr : Room (k + 2) X.A)
    (lams : LamsV X K cl k es is ds) (hl : is.length ≤ 1000) (hN : X.N.Nodup) (iy : X.N[i]? = some y) (ly : Loc X.env.scope y) (fy : X.fn y = true ∨ X.env.scope.names.lookup y = some .local) (hp : ∀ t : TE, (t = tCallV (X.env.qual ++ "<lambda>") X.env.cells i is (TCodeV K j Ng.length l z)) → PT X test (tt t)) (hf : ∀ t d, RfE K cl W t d → RfB K cl W (tt t) (dt d))
    (hU : ∀ (t t' : TE) (σ : L2.St) (H : Hp) (Q : Bool → Hp → Prop), (∀ k, t σ H k → t' σ H k) → tt t σ H Q → tt t' σ H Q) (hK : X.K = K) (fr : cl.fr = false)
    (hs : ∀ w, foldedSetIterable (.Tuple es tx tp) X.env w = pure w) :
    VS X K cl W (.For (.Name y yp) (.Tuple es tx tp) [.If test [.Return (some (.Constant (.bool false) cj cp)) rp] [] ip] [] pos)
      (tFor (iTup K (tTup (tLamsV P (TN.nm P) X.env.cells is))) (L2.gName i) (tIfS (tt (tCallV (TN.nm P) X.env.cells i is (TCodeV K j Ng.length l z))) (tRet (tC (.bl false))) L2.tNext))
      (sForLam i (ds.map fun d => sIf (dt (dCodeV os hr' zd d)) (sRet (dC (.bl false))) sNext)) := by
  subst hK
  refine ⟨hq ▸ ps_for pas calm (pi_tup (pe_tup (lams.lams.pa B hc))) (pg_name hN iy ly fy) (pss_one (ps_if (hp _ rfl) (pss_one (ps_ret pe_bl)) pss_nil)) hs, ?_, rfl⟩
  exact rfs_forLam (tb := fun t => tIfS (tt t) (tRet (tC (.bl false))) L2.tNext) (db := fun d => sIf (dt d) (sRet (dC (.bl false))) sNext) hP (T.hh .none X.s_0 X.H_0) (List.getElem?_eq_some_iff.mp T.ix).1 T.rz (fun t t' A σ H m h => hU t t' σ H _ m h) (fun t d h => rfs_if (hf t d h) (rfs_ret fr (rfe_c fun _ => .bl _)) rfs_next) (lams.rf hr) lams.len hl
/-- if x(y) != e: return False -/
theorem vs_forLamN {op : CmpOp} {r : R2} {f : D → D → DK → Prop} {e2 : Expr} {t2 : TE} {q2 : DT} {pt : Pos} (cm : Cm X K cl op r f) (h2 : VE X K cl W e2 t2 q2) (pas : PassesOwn (model X.prog X.w) X.A X.env X.xe) (calm : X.calm = true) (T : Teller X K cl x a en g st fd Ng ez z zd os j h1 hds l hr') (B : LamX.TabB X.base X.mg c P) (hc : X.env.code = .ref c) (hP : P ∈ cl.tabs) (hq : X.env.qual ++ "<lambda>" = TN.nm P) (hr : Room (k + 2) X.A)
    (lams : LamsV X K cl k es is ds) (hN : X.N.Nodup) (hl : is.length ≤ 1000 := by exact Nat.le_of_ble_eq_true rfl) (iy : X.N[i]? = some y := by rfl) (ly : Loc X.env.scope y := by first | exact Or.inl rfl | exact Or.inr rfl) (fy : X.fn y = true ∨ X.env.scope.names.lookup y = some .local := by first | exact .inl rfl | exact .inr rfl) (vy : Vis X.env.scope y := by first | exact .inl rfl | exact .inr (.inl rfl))
    {bs : List DS} (fr : cl.fr = false := by rfl) (hs : ∀ w, foldedSetIterable (.Tuple es tx tp) X.env w = pure w := by intro _; rfl) (hm : behindInMarks op e2 = false := by rfl) (hdb : (x == ("__debug__" : Str)) = false := by decide) (hd : (a == ("__debug__" : Str)) = false := by decide) (hcd : (a == ("__classdict__" : Str)) = false := by decide) (hy : (y == ("__debug__" : Str)) = false := by decide) (hcy : (y == ("__classdict__" : Str)) = false := by decide) (hb : bs = ds.map fun d => sIf (bT (dOp f (dCodeV os hr' zd d) q2)) (sRet (dC (.bl false))) sNext := by rfl) :
    VS X K cl W (.For (.Name y yp) (.Tuple es tx tp) [.If (.Compare (.Call (.Name x p) [.Name y py] [] pc) [op] [e2] pt) [.Return (some (.Constant (.bool false) cj cp)) rp] [] ip] [] pos)
      (tFor (iTup K (tTup (tLamsV P (TN.nm P) X.env.cells is))) (L2.gName i) (tIfS (tTest (tOp r (tCallV (TN.nm P) X.env.cells i is (TCodeV K j Ng.length l z)) t2)) (tRet (tC (.bl false))) L2.tNext))
      (sForLam i bs) :=
  hb ▸ vs_forLam (tt := fun t => tTest (tOp r t t2)) (dt := fun d => bT (dOp f d q2)) pas calm T B hc hP hq hr lams hl hN iy ly fy (fun t e => pt_cmpR cm.o (e ▸ T.call hr lams iy vy cm.hK hdb hd hcd hy hcy) h2.pe hm) (fun t d h => rfb_T (rfe_op cm.f h h2.rf)) (fun t t' σ H Q m h => m _ h) cm.hK fr hs
/-- if not x(y): return False -/
theorem vs_forLamT {pt : Pos} (pas : PassesOwn (model X.prog X.w) X.A X.env X.xe) (calm : X.calm = true) (T : Teller X K cl x a en g st fd Ng ez z zd os j h1 hds l hr') (B : LamX.TabB X.base X.mg c P) (hc : X.env.code = .ref c) (hP : P ∈ cl.tabs) (hq : X.env.qual ++ "<lambda>" = TN.nm P) (hr : Room (k + 2) X.A)
    (lams : LamsV X K cl k es is ds) (hN : X.N.Nodup) (hK : X.K = K := by rfl) (hl : is.length ≤ 1000 := by exact Nat.le_of_ble_eq_true rfl) (iy : X.N[i]? = some y := by rfl) (ly : Loc X.env.scope y := by first | exact Or.inl rfl | exact Or.inr rfl) (fy : X.fn y = true ∨ X.env.scope.names.lookup y = some .local := by first | exact .inl rfl | exact .inr rfl) (vy : Vis X.env.scope y := by first | exact .inl rfl | exact .inr (.inl rfl))
    {bs : List DS} (fr : cl.fr = false := by rfl) (hs : ∀ w, foldedSetIterable (.Tuple es tx tp) X.env w = pure w := by intro _; rfl) (he : ∀ whole, isTrue (.Call (.Name x p) [.Name y py] [] pc) X.env whole = (do let v ← whole; standAt (Expr.Call (.Name x p) [.Name y py] [] pc).pos; holding [v] (truthy v)) := by intro _; rfl) (hdb : (x == ("__debug__" : Str)) = false := by decide) (hd : (a == ("__debug__" : Str)) = false := by decide) (hcd : (a == ("__classdict__" : Str)) = false := by decide) (hy : (y == ("__debug__" : Str)) = false := by decide) (hcy : (y == ("__classdict__" : Str)) = false := by decide) (hb : bs = ds.map fun d => sIf (bNot (bTruth (dCodeV os hr' zd d))) (sRet (dC (.bl false))) sNext := by rfl) :
    VS X K cl W (.For (.Name y yp) (.Tuple es tx tp) [.If (.UnaryOp .Not (.Call (.Name x p) [.Name y py] [] pc) pt) [.Return (some (.Constant (.bool false) cj cp)) rp] [] ip] [] pos)
      (tFor (iTup K (tTup (tLamsV P (TN.nm P) X.env.cells is))) (L2.gName i) (tIfS (tNot (tTruA K (tCallV (TN.nm P) X.env.cells i is (TCodeV K j Ng.length l z)))) (tRet (tC (.bl false))) L2.tNext))
      (sForLam i bs) := by
  subst hK hb
  exact vs_forLam (tt := fun t => tNot (tTruA X.K t)) (dt := fun d => bNot (bTruth d)) pas calm T B hc hP hq hr lams hl hN iy ly fy (fun t e => pt_not (pt_truth (e ▸ T.call hr lams iy vy rfl hdb hd hcd hy hcy) he)) (fun t d h => rfb_not (rfb_truth h)) (fun t t' σ H Q m h => m _ h) rfl fr hs
/-- e.f == .. in a clause -/
theorem vx_cmp {b d : Expr} {ta tb : Addr → Value → Option Addr → TE} {q1 q2 : Err → DK → Prop} {op : CmpOp} {r : R2} {f : D → D → DK → Prop} {n : Nat} {C : Addr} {pt : Pos} (cm : ∀ (a : Addr) (oe : Obj) (pn : List (Addr × Obj)), Cm (X.suite a ((a, oe) :: pn)) K cl op r f) (ha : VX X K cl n C b ta q1) (hb : VX X K cl n C d tb q2) (hm : behindInMarks op d = false := by rfl) :
    VX X K cl n C (.Compare b [op] [d] pt) (fun y v d => tOp r (ta y v d) (tb y v d)) (xOp f q1 q2) :=
  ⟨fun y oe v d pn hz hv => pe_cmpR (cm y oe pn).o (ha.pe y oe v d pn hz hv) (hb.pe y oe v d pn hz hv) hm, rx_op (cm 0 default []).f ha.rf hb.rf⟩
end
end DL

/-! DSortD0: sorted of a tuple, over the heap. -/
namespace DL
open PySem PySem.Calls PySem.Spec PyProof.Rows PySem.W
section
variable {prog : Program} {s : Shared}
variable {A : Around} {w : World} {E : Value → Shared → Prop}
/-- a tuple's items, told one by one into a new list -/
theorem collect_tup {a : Addr} {its : List Value} {Q : List Value → Shared → Prop} (ht : ∃ o, s.heap.get? a = some o ∧ o.cls = .type "tuple" ∧ ∃ n, o.data = .seq its.toArray n) (hz : its.length ≤ sizeLine)
    (q : Q its { s with heap := (s.heap.push (seqObj "list" #[] 0)).update s.heap.objs.size (Obj.mapSeq (· ++ its.toArray)) }) : wpAny (model prog w) A (collect (.ref a)) Q E s := by
  obtain ⟨o, ho, hcl, n, hd⟩ := ht
  have new : (s.heap.push (seqObj "list" #[] 0)).get? s.heap.objs.size = some (seqObj "list" #[] 0) := Heap.get?_push_size _ rfl
  have old : (s.heap.push (seqObj "list" #[] 0)).get? a = some o := Heap.get?_push_of_some _ ho
  have size : (#[] ++ its.toArray : Array Value).size ≤ sizeLine + 1 := by
    simp only [Array.size_append, List.size_toArray]
    exact Nat.le_succ_of_le (by simpa using hz)
  unfold collect
  refine wpAny_bind (wpAny_runValue (codeAny_builtin (entry_proto_collect') ?_))
  change wpAny _ _ (do again (.builtin "list.__iadd__" ⟨[← newList [], .ref a], []⟩)) _ _ s
  refine wpAny_bind (wpAny_newList (wpAny_pure ⟨Code.quiet_builtin _ (by decide +kernel), codeAny_builtin (entry_list_iadd') ?_⟩))
  change wpAny _ _ (Builtin.List.listExtendWith (.ref s.heap.objs.size) (.ref a) (.ref s.heap.objs.size)) _ _ { s with heap := s.heap.push (seqObj "list" #[] 0) }
  unfold Builtin.List.listExtendWith; refine wpAny_bind (wpAny_typeOf (T := "tuple") ⟨o, old, hcl⟩ ?_)
  have e1 : (Value.type "tuple" == Value.type "tuple") = true := by rfl
  rw [if_pos (by rw [e1]; simp)]
  refine wpAny_bind (listItems_at old hd ?_)
  refine wpAny_bind (listItems_at (xs := #[]) (n := 0) new rfl ?_)
  rw [if_neg (by simp)]
  refine wpAny_bind (listUpdate_at (xs := #[]) (n := 0) new rfl ?_ (Nat.zero_le _) size)
  refine wpAny_pure ?_
  change wpAny (model prog w) A (do
      let o ← load s.heap.objs.size
      match o.data with
      | .seq xs _ => pure xs.toList
      | _ => unsupported "internal:collect") Q E { s with heap := (s.heap.push (seqObj "list" #[] 0)).update s.heap.objs.size (Obj.mapSeq (· ++ its.toArray)) }
  refine wpAny_bind (wpAny_load (get?_update_seq new _) ?_)
  change wpAny _ _ (pure ((#[] : Array Value) ++ its.toArray).toList) Q E _
  have e2 : ((#[] : Array Value) ++ its.toArray).toList = its := by simp
  rw [e2]
  exact wpAny_pure q
/-- sorted of a tuple is list.sort of a new list of its items -/
theorem sorted_of_tup {a : Addr} {its : List Value} {kw : List (Str × Value)} {Q : Value → Shared → Prop} (ht : ∃ o, s.heap.get? a = some o ∧ o.cls = .type "tuple" ∧ ∃ n, o.data = .seq its.toArray n) (hz : its.length ≤ sizeLine)
    (a1 : argsOk "sorted" ⟨[.ref a], kw⟩) (a2 : ∀ x, argsOk "list.sort" ⟨[.ref x], kw⟩)
    (bd : ∀ F : Value → Shared → Prop, wpAny (model prog w) A.in1.in1 (Builtin.«list.sort» ⟨[.ref (s.heap.objs.size + 1)], kw⟩) (fun f t => f = .done (.ret .none) ∧ Q (.ref (s.heap.objs.size + 1)) t) F { s with heap := copyHeap s.heap its }) :
    wpAny (model prog w) A (call (.builtin "sorted") [.ref a] kw) Q E s := by
  refine call_function_entry_kw kind_sorted plain_sorted entry_sorted a1 ?_
  unfold Builtin.«sorted»; refine wpAny_bind (m := checkCount "sorted" 1 1 _) (wpAny_pure ?_)
  refine wpAny_bind (collect_tup ht hz ?_)
  refine wpAny_bind (wpAny_newList ?_ (by exact hz))
  have sz : ((s.heap.push (seqObj "list" #[] 0)).update s.heap.objs.size (Obj.mapSeq (· ++ its.toArray))).objs.size = s.heap.objs.size + 1 := by rw [Heap.size_update, size_push']
  change wpAny _ _ _ _ _ { s with heap := copyHeap s.heap its }
  rw [sz]
  refine wpAny_bind (wpAny_holding (wpAny_call_entry_kw slot_list_sort ⟨_, copyHeap_at s.heap its, rfl⟩ entry_list_sort ?bd (a2 _)))
  case bd =>
    refine wpAny_mono (bd _) (fun f t z => ?_) fun _ _ e => e
    obtain ⟨rfl, z⟩ := z
    exact ⟨_, rfl, wpAny_pure ⟨_, rfl, z⟩⟩
end
end DL

/-! DSortD: sorted of a list or a tuple of data of one form. -/
namespace DL
open PySem L2 PyProof.Rows PySem.W
variable [TN]
section
variable {X : Cx} {K : Fg} {cl : Cl} {W : WX}
section
variable {pins : List (Addr × Obj)} {s : Shared} {σ : L2.St} {F H : Hp}
mutual
/-- what stands for data reads as it -/
theorem rep_reads (inv : L2.Inv X pins σ H s) (sm : Same F H) : ∀ (d : D) (x : V) (u : Value), alike (pyD d) (pyD d) = true → Rep X.K cl F x d → RelV x u → ∃ as, Reads s.heap u (pyD d) as
  | .non, _, _, _, r, h => by
    cases r
    obtain rfl := h
    exact ⟨[], by rw [pyD]; exact .none⟩
  | .bl b, _, _, _, r, h => by
    cases r
    obtain rfl := h
    exact ⟨[], by rw [pyD]; exact .bool _⟩
  | .int i, _, _, _, r, h => by
    cases r
    obtain ⟨t, rfl⟩ := h
    exact ⟨[], by rw [pyD]; exact .int _ _⟩
  | .str z, _, _, _, r, h => by
    cases r
    obtain ⟨t, rfl⟩ := h
    exact ⟨[], by rw [pyD]; exact .str _ _⟩
  | .tup xs, _, _, al, r, h => by
    cases r with
    | tup e rr =>
      obtain rfl := h
      obtain ⟨its, rv, ⟨o, ho, hc, n, hd⟩, _⟩ := inv.tuple (same_t sm e)
      rw [pyD, alike] at al
      obtain ⟨as, ra⟩ := reps_reads inv sm xs _ _ al rr rv
      exact ⟨as, by rw [pyD]; exact .tuple ho hc hd (by simpa using ra)⟩
  | .lst xs, _, _, al, r, h => by
    cases r with
    | lst e rr =>
      obtain rfl := h
      obtain ⟨its, rv, hl, _⟩ := inv.list (SqL.of (sm _ _ e))
      obtain ⟨o, ho, hc, n, hd⟩ := hl.isList
      rw [pyD, alike] at al
      obtain ⟨as, ra⟩ := reps_reads inv sm xs _ _ al rr rv
      exact ⟨_, by rw [pyD]; exact .list ho hc hd (by simpa using ra)⟩
  | .dk _, _, _, al, _, _ => by simp [pyD, alike] at al
  | .dt _, _, _, al, _, _ => by simp [pyD, alike] at al
  | .ins _ _, _, _, al, _, _ => by simp [pyD, alike] at al
  | .st, _, _, al, _, _ => by simp [pyD, alike] at al
  | .scr _, _, _, al, _, _ => by simp [pyD, alike] at al
  | .fn _, _, _, al, _, _ => by simp [pyD, alike] at al
theorem reps_reads (inv : L2.Inv X pins σ H s) (sm : Same F H) : ∀ (l : List D) (xs : List V) (us : List Value), alikeAll (pyDs l) (pyDs l) = true → Reps X.K cl F xs l → Vals xs us → ∃ as, ReadsAll s.heap us (pyDs l) as
  | [], _, _, _, r, h => by
    cases r
    cases h
    exact ⟨[], by rw [pyDs]; exact .nil⟩
  | d :: l, _, _, al, r, h => by
    cases r with
    | cons r1 r2 =>
      cases h with
      | cons h1 h2 =>
        rw [pyDs] at al
        obtain ⟨a1, a2⟩ := alike_all_cons al
        obtain ⟨as, z1⟩ := rep_reads inv sm d _ _ a1 r1 h1
        obtain ⟨bs, z2⟩ := reps_reads inv sm l _ _ a2 r2 h2
        exact ⟨as ++ bs, by rw [pyDs]; exact .cons z1 z2⟩
end
theorem each_rep : ∀ {xs : List V} {us : List Value} {l : List D}, Vals xs us → Reps X.K cl F xs l → EachIs (fun u d => ∃ x, RelV x u ∧ Rep X.K cl F x d) us l
  | _, _, _, .nil, .nil => .nil
  | _, _, _, .cons h1 h2, .cons r1 r2 => .cons ⟨_, h1, r1⟩ (each_rep h2 r2)
theorem rep_each : ∀ {us : List Value} {l : List D}, EachIs (fun u d => ∃ x, RelV x u ∧ Rep X.K cl F x d) us l → ∃ xs, Vals xs us ∧ Reps X.K cl F xs l
  | _, _, .nil => ⟨[], .nil, .nil⟩
  | _, _, .cons ⟨x, h1, r1⟩ t => by
    obtain ⟨xs, h2, r2⟩ := rep_each t
    exact ⟨x :: xs, .cons h1 h2, .cons r1 r2⟩
theorem each_reads (inv : L2.Inv X pins σ H s) (sm : Same F H) {us : List Value} {l : List D} (al : ∀ d ∈ l, alike (pyD d) (pyD d) = true) (e : EachIs (fun u d => ∃ x, RelV x u ∧ Rep X.K cl F x d) us l) : EachIs (fun u d => ∃ as, Reads s.heap u (pyD d) as) us l := by
  induction e with
  | nil => exact .nil
  | cons h t ih =>
    obtain ⟨x, h1, r1⟩ := h
    exact .cons (rep_reads inv sm _ _ _ (al _ (by simp)) r1 h1) (ih fun d hd => al d (by simp [hd]))
end
def rSortD (K : Fg) (cl : Cl) : List V → Hp → VK → Prop := fun vs H Q => ∃ (a : Addr) (F : Hp) (xs : List V) (l : List D), vs = [.ref a] ∧ Same F H ∧ (SqL K H a xs ∨ SqT K H a xs) ∧ Reps K cl F xs l ∧ SrtOk l ∧
  ∀ ys p, Reps K cl F ys (l.mergeSort leD) → H p = none → Q (.ref p) (upd H p (.lst ys))
theorem cr_sortD (hu : X.A.units + 65 < cLine) : CallR X (.builtin "sorted") (rSortD X.K cl) := by
  rintro pins s σ H vs us Q inv r ⟨a, F, xs, l, rfl, sm, hs, rp, ok, q⟩
  obtain ⟨u, rfl, e0⟩ := vals1 r
  obtain rfl : u = .ref a := e0
  have al : ∀ d ∈ l, alike (pyD d) (pyD d) = true := fun d hd => ok.al _ (List.mem_map.mpr ⟨d, hd, rfl⟩) _ (List.mem_map.mpr ⟨d, hd, rfl⟩)
  have main : ∀ its : List Value, Vals xs its → its.length ≤ sizeLine →
      ((∀ F : Value → Shared → Prop, wpAny (model X.prog X.w) X.A.in1.in1 (Builtin.«list.sort» ⟨[.ref (s.heap.objs.size + 1)], []⟩) (fun f t => f = .done (.ret .none) ∧ EP X pins σ Q (.ref (s.heap.objs.size + 1)) t) F { s with heap := copyHeap s.heap its }) →
        wpAny (model X.prog X.w) X.A (call (.builtin "sorted") [.ref a]) (EP X pins σ Q) X.xe s) →
      wpAny (model X.prog X.w) X.A (call (.builtin "sorted") [.ref a]) (EP X pins σ Q) X.xe s := by
    intro its rv hz k
    have ee := each_rep rv rp
    have er := each_reads inv sm al ee
    refine k fun G => ?_
    have er' : EachIs (fun v d => ∃ as, Reads (sortingHeap (copyHeap s.heap its) (s.heap.objs.size + 1) its) v (pyD d) as) its l := er.mono fun _ _ ⟨as, z⟩ => ⟨as, PyProof.Rows.Reads.keeps (fun _ _ => sorting_copy_old) z⟩
    refine list_sort_vals (s := { s with heap := copyHeap s.heap its }) (copyHeap_at s.heap its) (SortsAt.data (s := { s with heap := sortingHeap (copyHeap s.heap its) (s.heap.objs.size + 1) its }) (each_map (R := fun v d => ∃ as, Reads (sortingHeap (copyHeap s.heap its) (s.heap.objs.size + 1) its) v d as) pyD er') ok.al ok.so ?_) hz ⟨rfl, ?_⟩
    · intro d hd
      obtain ⟨z, hz', rfl⟩ := List.mem_map.mp hd
      have := ok.dp z hz'
      show X.A.units + 2 + _ < cLine
      omega
    · obtain ⟨ys, vy, ry⟩ := rep_each (sortVals_data false ee er' ok.al)
      obtain ⟨c, hc⟩ := sortedAll_at s.heap its (sortVals (dataKind (sortingHeap (copyHeap s.heap its) (s.heap.objs.size + 1) its) (l.map pyD)) false its its).toArray
      refine ⟨.ref _, upd H (s.heap.objs.size + 1) (.lst ys), inv.laid (t' := s.toks) (fun b o e => sortedAll_old e) (Nat.le_succ _) ⟨?_, _, c, vy, hc⟩, rfl, q ys _ ry (inv.hok.fresh (Nat.le_succ _))⟩
      rw [vy.length, sortVals_length false rfl]
      exact hz
  rcases hs with hs | hs
  · obtain ⟨its, rv, hl, hz⟩ := inv.list hs
    have hz' : its.length ≤ sizeLine := by rw [← rv.length]; exact hz
    exact main its rv hz' fun bd => sorted_of_sort hl.isList hz' (args_sorted1 _) (fun _ => args_list_sort _) bd
  · obtain ⟨its, rv, ht, hz⟩ := inv.tuple hs
    have hz' : its.length ≤ sizeLine := by rw [← rv.length]; exact hz
    exact main its rv hz' fun bd => sorted_of_tup ht hz' (args_sorted1 _) (fun _ => args_list_sort _) bd
theorem rf_sortD : RfNC K cl (rSortD K cl) fSortD where
  mono := fun x P P' h q => by
    match x, q with
    | [.lst l], q => exact ⟨q.1, h _ q.2⟩
    | [.tup l], q => exact ⟨q.1, h _ q.2⟩
  ok := fun F H v x Q s r q => by
    match x, q, r with
    | [.lst l], q, .cons (.lst e rr) .nil => exact ⟨_, F, _, l, rfl, s, .inl (SqL.of (s _ _ e)), rr, q.1, fun ys p ry hp => q.2 p F _ (Gr.h s (nx_upd hp)) hp (s.free hp) ⟨_, upd_same, ry⟩⟩
    | [.tup l], q, .cons (.tup e rr) .nil => exact ⟨_, F, _, l, rfl, s, .inr (same_t s e), rr, q.1, fun ys p ry hp => q.2 p F _ (Gr.h s (nx_upd hp)) hp (s.free hp) ⟨_, upd_same, ry⟩⟩
theorem bn_sortX (hu : X.A.units + 65 < cLine) (hc : X.calm = true) (hK : X.K = K := by rfl) : BiN X K cl (.builtin "sorted") (fun vs H Q => rSortedU K vs H Q ∨ rSortD K cl vs H Q) fSortX := by
  obtain rfl := hK
  refine ⟨fun pins s σ H vs us Q inv r h => ?_, ⟨fun x P P' h q => ?_, fun F H v x Q sm r q => ?_⟩, rfl⟩
  · rcases h with h | h
    · exact cr_sortedU hc pins s σ H vs us Q inv r h
    · exact cr_sortD hu pins s σ H vs us Q inv r h
  · rcases q with q | q
    · exact .inl ((rf_sorted (K := X.K) (cl := cl)).mono x P P' h q)
    · exact .inr ((rf_sortD (K := X.K) (cl := cl)).mono x P P' h q)
  · rcases q with q | q
    · exact .inl (rf_sorted.ok F H v x Q sm r q)
    · exact .inr (rf_sortD.ok F H v x Q sm r q)
end
end DL

set_option maxHeartbeats 8000000
/-! The text of the law, walked. -/
namespace K62
open PySem L2 DL PyProof.Rows
def topS (i : Nat) : Stmt := PySem.Challenge.pw_foreverdays_k62_fixtures.main.body.getD i (.Pass ⟨0, 0, 0, 0⟩)
abbrev s_check_teams : Stmt := topS 5
theorem sc_check_teams : FnScope ["n"] ["n"] (defScope s_check_teams) := ⟨rfl, rfl, rfl, by decide +kernel, rfl, by decide +kernel, by decide +kernel⟩
abbrev s_game : Stmt := topS 6
theorem sc_game : FnScope ["n", "turn", "k", "one", "two"] ["n", "turn", "k"] (defScope s_game) := ⟨rfl, rfl, rfl, by decide +kernel, rfl, by decide +kernel, by decide +kernel⟩
abbrev s_fixtures : Stmt := topS 7
theorem sc_fixtures : FnScope ["n", "turn", "k"] ["n"] (defScope s_fixtures) := ⟨rfl, rfl, rfl, by decide +kernel, rfl, by decide +kernel, by decide +kernel⟩
abbrev s_takes_fixtures : Stmt := topS 8
theorem sc_takes_fixtures : FnScope ["n", "told", "pairs", "games", "teams", "pair", "team"] ["n", "told"] (defScope s_takes_fixtures) := ⟨rfl, rfl, rfl, by decide +kernel, rfl, by decide +kernel, by decide +kernel⟩
abbrev s_breaks : Stmt := topS 9
theorem sc_breaks : FnScope ["n", "told", "count", "first", "second", "home", "pair"] ["n", "told"] (defScope s_breaks) := ⟨rfl, rfl, rfl, by decide +kernel, rfl, by decide +kernel, by decide +kernel⟩
abbrev s_u_law_draws : Stmt := topS 11
theorem sc_u_law_draws : FnScope ["script", "count", "cells", "found", "mixed", "k", "j", "cell", "again"] ["script", "count"] (defScope s_u_law_draws) := ⟨rfl, rfl, rfl, by decide +kernel, rfl, by decide +kernel, by decide +kernel⟩
abbrev s_u_law_take : Stmt := topS 12
theorem sc_u_law_take : FnScope ["draws", "limit"] ["draws", "limit"] (defScope s_u_law_take) := ⟨rfl, rfl, rfl, by decide +kernel, rfl, by decide +kernel, by decide +kernel⟩
abbrev s_u_law_same : Stmt := topS 13
theorem sc_u_law_same : FnScope ["found", "due", "k"] ["found", "due"] (defScope s_u_law_same) := ⟨rfl, rfl, rfl, by decide +kernel, rfl, by decide +kernel, by decide +kernel⟩
abbrev s_u_law_fixtures : Stmt := topS 14
theorem sc_u_law_fixtures : FnScope ["n", "found", "r", "games", "k", "a", "b"] ["n"] (defScope s_u_law_fixtures) := ⟨rfl, rfl, rfl, by decide +kernel, rfl, by decide +kernel, by decide +kernel⟩
abbrev s_u_law_takes : Stmt := topS 15
theorem sc_u_law_takes : FnScope ["n", "told", "pairs", "games", "a", "b"] ["n", "told"] (defScope s_u_law_takes) := ⟨rfl, rfl, rfl, by decide +kernel, rfl, by decide +kernel, by decide +kernel⟩
abbrev s_u_law_breaks : Stmt := topS 16
theorem sc_u_law_breaks : FnScope ["n", "told", "total", "team", "homes", "games", "a", "b", "k"] ["n", "told"] (defScope s_u_law_breaks) := ⟨rfl, rfl, rfl, by decide +kernel, rfl, by decide +kernel, by decide +kernel⟩
abbrev s_u_law_bent : Stmt := topS 17
theorem sc_u_law_bent : FnScope ["draws", "told", "r", "k", "games", "kind", "following", "one", "other"] ["draws", "told"] (defScope s_u_law_bent) := ⟨rfl, rfl, rfl, by decide +kernel, rfl, by decide +kernel, by decide +kernel⟩
abbrev s_u_law_is_refused : Stmt := topS 18
theorem sc_u_law_is_refused : FnScope ["call", "e"] ["call"] (defScope s_u_law_is_refused) := ⟨rfl, rfl, rfl, by decide +kernel, rfl, by decide +kernel, by decide +kernel⟩
abbrev s_law : Stmt := topS 19
theorem sc_law : FnScope ["script", "draws", "turn", "n", "told", "k", "bent", "good", "bad", "call"] ["script"] (defScope s_law) := ⟨rfl, rfl, rfl, by decide +kernel, rfl, by decide +kernel, by decide +kernel⟩
abbrev s_JobError : Stmt := inClass (topS 2) 0
theorem sc_JobError : IScope ["self", "code"] (defScope s_JobError) := ⟨rfl, rfl, rfl, by decide +kernel, by decide +kernel, by decide +kernel, by decide +kernel, rfl, rfl⟩
structure Txt (P : Program) (K : PySem.W.Frag) (mg : Str → Option Value) where
  a_check_teams : Addr
  e_check_teams : FuncData
  F_check_teams : Fun K "check_teams" "check_teams" s_check_teams a_check_teams e_check_teams
  b_check_teams : Binds K e_check_teams ["n"] []
  d_check_teams : mg "check_teams" = some (.ref a_check_teams)
  a_game : Addr
  e_game : FuncData
  F_game : Fun K "game" "game" s_game a_game e_game
  b_game : Binds K e_game ["n", "turn", "k"] []
  d_game : mg "game" = some (.ref a_game)
  a_fixtures : Addr
  e_fixtures : FuncData
  F_fixtures : Fun K "fixtures" "fixtures" s_fixtures a_fixtures e_fixtures
  b_fixtures : Binds K e_fixtures ["n"] []
  d_fixtures : mg "fixtures" = some (.ref a_fixtures)
  a_takes_fixtures : Addr
  e_takes_fixtures : FuncData
  F_takes_fixtures : Fun K "takes_fixtures" "takes_fixtures" s_takes_fixtures a_takes_fixtures e_takes_fixtures
  b_takes_fixtures : Binds K e_takes_fixtures ["n", "told"] []
  d_takes_fixtures : mg "takes_fixtures" = some (.ref a_takes_fixtures)
  a_breaks : Addr
  e_breaks : FuncData
  F_breaks : Fun K "breaks" "breaks" s_breaks a_breaks e_breaks
  b_breaks : Binds K e_breaks ["n", "told"] []
  d_breaks : mg "breaks" = some (.ref a_breaks)
  a_u_law_draws : Addr
  e_u_law_draws : FuncData
  F_u_law_draws : Fun K "_law_draws" "_law_draws" s_u_law_draws a_u_law_draws e_u_law_draws
  b_u_law_draws : Binds K e_u_law_draws ["script", "count"] []
  d_u_law_draws : mg "_law_draws" = some (.ref a_u_law_draws)
  a_u_law_take : Addr
  e_u_law_take : FuncData
  F_u_law_take : Fun K "_law_take" "_law_take" s_u_law_take a_u_law_take e_u_law_take
  b_u_law_take : Binds K e_u_law_take ["draws", "limit"] []
  d_u_law_take : mg "_law_take" = some (.ref a_u_law_take)
  a_u_law_same : Addr
  e_u_law_same : FuncData
  F_u_law_same : Fun K "_law_same" "_law_same" s_u_law_same a_u_law_same e_u_law_same
  b_u_law_same : Binds K e_u_law_same ["found", "due"] []
  d_u_law_same : mg "_law_same" = some (.ref a_u_law_same)
  a_u_law_fixtures : Addr
  e_u_law_fixtures : FuncData
  F_u_law_fixtures : Fun K "_law_fixtures" "_law_fixtures" s_u_law_fixtures a_u_law_fixtures e_u_law_fixtures
  b_u_law_fixtures : Binds K e_u_law_fixtures ["n"] []
  d_u_law_fixtures : mg "_law_fixtures" = some (.ref a_u_law_fixtures)
  a_u_law_takes : Addr
  e_u_law_takes : FuncData
  F_u_law_takes : Fun K "_law_takes" "_law_takes" s_u_law_takes a_u_law_takes e_u_law_takes
  b_u_law_takes : Binds K e_u_law_takes ["n", "told"] []
  d_u_law_takes : mg "_law_takes" = some (.ref a_u_law_takes)
  a_u_law_breaks : Addr
  e_u_law_breaks : FuncData
  F_u_law_breaks : Fun K "_law_breaks" "_law_breaks" s_u_law_breaks a_u_law_breaks e_u_law_breaks
  b_u_law_breaks : Binds K e_u_law_breaks ["n", "told"] []
  d_u_law_breaks : mg "_law_breaks" = some (.ref a_u_law_breaks)
  a_u_law_bent : Addr
  e_u_law_bent : FuncData
  F_u_law_bent : Fun K "_law_bent" "_law_bent" s_u_law_bent a_u_law_bent e_u_law_bent
  b_u_law_bent : Binds K e_u_law_bent ["draws", "told"] []
  d_u_law_bent : mg "_law_bent" = some (.ref a_u_law_bent)
  a_u_law_is_refused : Addr
  e_u_law_is_refused : FuncData
  F_u_law_is_refused : Fun K "_law_is_refused" "_law_is_refused" s_u_law_is_refused a_u_law_is_refused e_u_law_is_refused
  b_u_law_is_refused : Binds K e_u_law_is_refused ["call"] []
  d_u_law_is_refused : mg "_law_is_refused" = some (.ref a_u_law_is_refused)
  a_law : Addr
  e_law : FuncData
  F_law : Fun K "law" "law" s_law a_law e_law
  b_law : Binds K e_law ["script"] []
  d_law : mg "law" = some (.ref a_law)
  c_law : Addr
  t_law : Addr
  FC_law : FunC K "law" "law" s_law a_law e_law c_law
  C_JobError : Addr
  c_JobError : mg "JobError" = some (.ref C_JobError)
  oex_JobError : OexC K C_JobError
  i_JobError : Addr
  e_JobError : FuncData
  iC_JobError : PySem.W.findIn K (.ref C_JobError) "__init__" = some (some (.ref i_JobError))
  tI_JobError : PySem.W.typeIn K (.ref i_JobError) = some (.type "function")
  ok_JobError : ∀ (w : World) (base : Heap), FnOk P w K mg base (L2.CX P w) 1 i_JobError e_JobError ["self", "code"] (spI K C_JobError ["code"])
  b_JobError : Binds K e_JobError ["self", "code"] []
  xf_JobError : XfC K C_JobError
  nf_JobError_code : PySem.W.findIn K (.ref C_JobError) "code" = some none
  em_JobError_JobError : PySem.W.exmOne K (.ref C_JobError) (.ref C_JobError) = some true
  z_tuple : mg "tuple" = none
  z_range : mg "range" = none
  z_len : mg "len" = none
  z_sorted : mg "sorted" = none
  z_list : mg "list" = none
  z_min : mg "min" = none
  z_max : mg "max" = none
  z_zip : mg "zip" = none
  z_int : mg "int" = none
  z_isinstance : mg "isinstance" = none
  z_bool : mg "bool" = none
  z_str : mg "str" = none
  z_dict : mg "dict" = none
  z_all : mg "all" = none
  z_abs : mg "abs" = none
  t_MOST_TEAMS : Tok
  g_MOST_TEAMS : mg "MOST_TEAMS" = some (.int (20) t_MOST_TEAMS)
section
variable [TN] {P : Program} {w : World} {K : PySem.W.Frag} {mg : Str → Option Value} {base : Heap}
def clW (P : Program) (w : World) (T : Txt P K mg) : Cl := { nm := fun s => if s = "JobError" then some T.C_JobError else none, so := dlS P w }
def clT (P : Program) (w : World) (T : Txt P K mg) : Cl := { clW P w T with tabs := [T.t_law] }
theorem hc_JobError (T : Txt P K mg) : (clW P w T).nm "JobError" = some T.C_JobError := by simp [clW]
theorem ok_take0 {f : Addr} {fd : FuncData} (F : Fun K "_law_take" "_law_take" s_u_law_take f fd) (z_len : mg "len" = none) (z_int : mg "int" = none) : FnOk P w K mg base (L2.CX P w) 1 f fd ["draws", "limit"] spTake := by
  refine F.okX sc_u_law_take (fun vs H Q E h => ?_) (fun cdv A outer s H vs Q E hr h => ?_)
  · obtain ⟨a, ns, b, rfl, _⟩ := h
    rfl
  · obtain ⟨a, ns, b, rfl, ha, hb, q⟩ := h
    refine ⟨_, pss_cons (ps_if (pt_cmpR op_eq (pe_callB call_len_seq (by rfl) z_len PySem.boot_len (pa_cons (pv 0) pa_nil)) pe_int (nomark _)) (pss_one (ps_ret pe_int)) pss_nil)
      (pss_one (ps_ret (pe_op op_mod (pe_callTy call_int1 (by rfl) z_int (by decide +kernel) (pa_cons (pe_bm0 PySem.F.plainAttrs_list PySem.F.slot_list_pop PySem.F.type_list_pop mt_pop (pv 0)) pa_nil)) (pv 1)))), ?_⟩
    refine ⟨_, rfl, ⟨a, _, rfl, .inl (SqL.of ha), ?_⟩⟩
    refine ⟨rfl, _, rfl, ?_⟩
    refine ite2 (fun z => ?_) (fun z => ?_)
    · have := q 0 ns (by omega) hb
      rwa [upd_back ha] at this
    · have hl : 0 < ns.length := by
        have z : ¬ ((ns.length : Int) = 0) := by simpa using z
        omega
      refine ⟨_, rfl, .inl ⟨rfl, _, SqL.of ha⟩, a, _, .int (ns[ns.length - 1]'(by omega)), rfl, rfl, ha, ?_, ?_⟩
      · simp
      · refine .inl ⟨_, rfl, _, rfl, _, _, rfl, rfl, hb, ?_⟩
        rw [← List.map_dropLast]
        exact q _ _ (emod_in hb).1 (emod_in hb).2
theorem ixN_in {n : Nat} {j : Int} (h0 : 0 ≤ j) (h : j < n) : DL.ixN n j = some j.toNat := by
  unfold DL.ixN
  rw [if_pos h0, if_pos h]
theorem dr_u_law_draws : ∀ (ns : List Int) (c : Int), ns.length ≤ 63 → 0 ≤ c → c ≤ 1000 → W0_u_law_draws [.scr ns, .int c] (fun r => ∃ ds : List Int, r = .lst (ds.map D.int)) fun _ => False := by
  intro ns c hn h0 h1
  simp [W0_u_law_draws_w]
  simp only [V_u_law_draws_0_w]
  simp
  have main : ∀ cells : List Int, cells ≠ [] → V_u_law_draws_2 (fun e x => False) { nx := fun x => False, rt := fun r => ∃ ds : List Int, r = D.lst (List.map D.int ds) } [.v (.scr ns), .v (.int c), .o (.lst (cells.map D.int)), .no, .no, .no, .no, .no, .no] := by
    intro cells hc
    simp [V_u_law_draws_2_w]
    simp [V_u_law_draws_3_w]
    simp [V_u_law_draws_4_w]
    refine ⟨by omega, by omega, ?_⟩
    refine forL_inv (fun i ρ => ∃ (ce fo : List Int) (s : Int) (x1 x5 x6 x7 x8 : Sl), ρ = [.no, x1, .o (.lst (ce.map D.int)), .o (.lst (fo.map D.int)), .v (.int s), x5, x6, x7, x8] ∧ ce ≠ [] ∧ fo.length = i ∧ 0 ≤ s ∧ s < 2147483647) ⟨cells, [], 12345, .v (.int c), .no, .no, .no, .no, rfl, hc, rfl, by omega, by omega⟩ ?_ ?_
    · rintro i x ρ nx hx ⟨ce, fo, s, x1, x5, x6, x7, x8, rfl, hce, hfo, hs0, hs1⟩ hn
      obtain ⟨hi, rfl⟩ := rngx_get hx
      have hl : 0 < ce.length := List.length_pos_iff.mpr hce
      have e0 : (0 : Int) + (i : Int) = i := by omega
      have j0 : 0 ≤ (i : Int) % (ce.length : Int) := Int.emod_nonneg _ (by omega)
      have j1 : (i : Int) % (ce.length : Int) < ce.length := Int.emod_lt_of_pos _ (by omega)
      rw [e0]
      simp
      simp [V_u_law_draws_L1_0_w]
      generalize (i : Int) % (ce.length : Int) = j at j0 j1 ⊢
      have ea : DL.atI (ce.map D.int) j = some (D.int (ce[j.toNat]'(by omega))) := by
        unfold DL.atI
        rw [ixN_in j0 (by simpa using j1)]
        simp
      generalize hce' : ce[j.toNat]'(by omega) = cell at ea
      simp [V_u_law_draws_L1_1_w, ea]
      simp [V_u_law_draws_L1_2_w]
      simp [V_u_law_draws_L1_3_w]
      simp [V_u_law_draws_L1_4_w]
      have p0 : 0 ≤ cell % 1000003 := Int.emod_nonneg _ (by omega)
      have p1 : cell % 1000003 < 1000003 := Int.emod_lt_of_pos _ (by omega)
      have q0 : 0 ≤ (s * 48271 + cell % 1000003 * 69621 + (i : Int) * 7919 + 11) % 2147483647 := Int.emod_nonneg _ (by omega)
      have q1 : (s * 48271 + cell % 1000003 * 69621 + (i : Int) * 7919 + 11) % 2147483647 < 2147483647 := Int.emod_lt_of_pos _ (by omega)
      generalize (s * 48271 + cell % 1000003 * 69621 + (i : Int) * 7919 + 11) % 2147483647 = s2 at q0 q1 ⊢
      generalize cell % 1000003 = cm at p0 p1 ⊢
      generalize (s2 * s2 + 31 * s2 + (i : Int)) % 1000003 = y
      refine ⟨hl, mul_ok (by omega) (by omega) (by omega) (by omega), mul_ok (by omega) (by omega) (by omega) (by omega), mul_ok (by omega) (by omega) (by omega) (by omega), mul_ok (by omega) (by omega) (by omega) (by omega), mul_ok (by omega) (by omega) (by omega) (by omega), ?_⟩
      split
      · refine ⟨by omega, div_ok (by omega) (by omega), ?_⟩
        rw [ixN_in j0 j1]
        simp [V_u_law_draws_L1_5_w]
        refine hn _ ⟨ce.set j.toNat (cell / 1000), fo ++ [cell % 1000], s2, .no, .no, .no, .no, .no, ?_, ?_, ?_, q0, q1⟩
        · simp [List.map_set]
        · intro e
          exact hce (by simpa using e)
        · simp [hfo]
      · refine ⟨by omega, ?_⟩
        simp [V_u_law_draws_L1_5_w]
        refine hn _ ⟨ce, fo ++ [y % 1000], s2, .no, .no, .no, .no, .no, ?_, hce, ?_, q0, q1⟩
        · simp
        · simp [hfo]
    · rintro ρ ⟨ce, fo, s, x1, x5, x6, x7, x8, rfl, hce, hfo, hs0, hs1⟩
      dsimp only
      simp [V_u_law_draws_5_w]
      simp only [V_u_law_draws_6_w]
      simp
      exact ⟨fo.reverse, by simp⟩
  simp only [V_u_law_draws_1_w]
  simp
  split
  · exact main [7] (by simp)
  · exact main ns (by assumption)
theorem ok_check_teams (T : Txt P K mg) : FnOk P w K mg base (L2.CX P w) 3 T.a_check_teams T.e_check_teams ["n"] (spD K (clW P w T) W_check_teams) := by
  refine fn_okX T.F_check_teams sc_check_teams (by decide) (fun cdv A outer s H E hr => ?_)
  have hu := hu65 hr
  have tk := takes_of (X := cxOf (L2.CX P w) P w K mg base ["n"] "check_teams" (defScope s_check_teams) T.a_check_teams cdv A outer s H E) rfl rfl rfl rfl
  exact ⟨_, (vss_one (vs_if (VW.b (vw_or (vb_not (vb_chain (cm_le hu) (cm_le hu) ve_int (ve_var (i := 0)) (ve_globI rfl T.g_MOST_TEAMS))) (vw_or1 (vb_cmp (cm_eq hu) (ve_mod (ve_var (i := 0)) ve_int) ve_int)))) (vss_one (vs_raise (c := "JobError") T.oex_JobError T.iC_JobError T.tI_JobError (T.ok_JobError w base) (hr.mono (by decide)) T.b_JobError rfl T.c_JobError (hc_JobError (P := P) (w := w) T) tk rfl (va_cons ve_str va_nil))) vss_nil))⟩
theorem ok_game (T : Txt P K mg) : FnOk P w K mg base (L2.CX P w) 1 T.a_game T.e_game ["n", "turn", "k"] (spD K (clW P w T) W_game) := by
  refine fn_okX T.F_game sc_game (by decide) (fun cdv A outer s H E hr => ?_)
  have hu := hu65 hr
  have tk := takes_of (X := cxOf (L2.CX P w) P w K mg base ["n", "turn", "k", "one", "two"] "game" (defScope s_game) T.a_game cdv A outer s H E) rfl rfl rfl rfl
  exact ⟨_, (vss_cons (vs_set (i := 3) sc_game.nd (ve_if (vb_cmp (cm_eq hu) (ve_var (i := 2)) ve_int) (ve_sub (ve_var (i := 0)) ve_int) (ve_mod (ve_add (ve_var (i := 1)) (ve_var (i := 2))) (ve_sub (ve_var (i := 0)) ve_int))))
      (vss_cons (vs_set (i := 4) sc_game.nd (ve_if (vb_cmp (cm_eq hu) (ve_var (i := 2)) ve_int) (ve_var (i := 1)) (ve_mod (ve_sub (ve_var (i := 1)) (ve_var (i := 2))) (ve_sub (ve_var (i := 0)) ve_int))))
      (vss_one (vs_ret (ve_if (vb_cmp (cm_eq hu) (ve_mod (ve_if (vb_cmp (cm_eq hu) (ve_var (i := 2)) ve_int) (ve_var (i := 1)) (ve_var (i := 2))) ve_int) ve_int) (ve_tup (va_cons (ve_var (i := 3)) (va_cons (ve_var (i := 4)) va_nil))) (ve_tup (va_cons (ve_var (i := 4)) (va_cons (ve_var (i := 3)) va_nil))))))))⟩
theorem ok_fixtures (T : Txt P K mg) : FnOk P w K mg base (L2.CX P w) 4 T.a_fixtures T.e_fixtures ["n"] (spD K (clW P w T) W_fixtures) := by
  refine fn_okX T.F_fixtures sc_fixtures (by decide) (fun cdv A outer s H E hr => ?_)
  have hu := hu65 hr
  have tk := takes_of (X := cxOf (L2.CX P w) P w K mg base ["n", "turn", "k"] "fixtures" (defScope s_fixtures) T.a_fixtures cdv A outer s H E) rfl rfl rfl rfl
  exact ⟨_, (vss_cons (vs_expr (ve_call (ok_check_teams T) (hr.mono (by decide)) rfl T.d_check_teams T.F_check_teams.kp T.b_check_teams tk (va_cons (ve_var (i := 0)) va_nil)))
      (vss_one (vs_ret (ve_cls bi_tuple rfl T.z_tuple (by decide +kernel) (va_cons (VN.e (vn_lc (own := [("turn", 1)]) rfl sc_fixtures.nd (vi_rng1 rfl T.z_range (va_cons (ve_sub (ve_var (i := 0)) ve_int) va_nil)) (blkOk_by (N := ["n", "turn", "k"]) (sc := defScope s_fixtures) (by decide +kernel)) (fun _ _ _ _ _ => (vt_name (i := 1) sc_fixtures.nd)) (fun _ _ _ _ _ => vp_nil) (fun _ _ _ _ _ => (ve_cls bi_tuple rfl T.z_tuple (by decide +kernel) (va_cons (VN.e (vn_lc (own := [("k", 2)]) rfl sc_fixtures.nd (vi_rng1 rfl T.z_range (va_cons (ve_div (ve_var (i := 0)) ve_int) va_nil)) (blkOk_by (N := ["n", "turn", "k"]) (by kernel_rfl)) (fun _ _ _ _ _ => (vt_name (i := 2) sc_fixtures.nd)) (fun _ _ _ _ _ => vp_nil) (fun _ _ _ _ _ => (ve_call (ok_game T) (hr.mono (by decide)) rfl T.d_game T.F_game.kp T.b_game takes_no (va_cons (ve_var (i := 0)) (va_cons (ve_var (i := 1)) (va_cons (ve_var (i := 2)) va_nil))))))) va_nil))))) va_nil)))))⟩
theorem ok_takes_fixtures (T : Txt P K mg) : FnOk P w K mg base (L2.CX P w) 4 T.a_takes_fixtures T.e_takes_fixtures ["n", "told"] (spD K (clW P w T) W_takes_fixtures) := by
  refine fn_okX T.F_takes_fixtures sc_takes_fixtures (by decide) (fun cdv A outer s H E hr => ?_)
  have hu := hu65 hr
  have tk := takes_of (X := cxOf (L2.CX P w) P w K mg base ["n", "told", "pairs", "games", "teams", "pair", "team"] "takes_fixtures" (defScope s_takes_fixtures) T.a_takes_fixtures cdv A outer s H E) rfl rfl rfl rfl
  exact ⟨_, (vss_cons (vs_expr (ve_call (ok_check_teams T) (hr.mono (by decide)) rfl T.d_check_teams T.F_check_teams.kp T.b_check_teams tk (va_cons (ve_var (i := 0)) va_nil)))
      (vss_cons (vs_if (vb_cmp (cm_ne hu) (ve_blt bi_len rfl T.z_len (by decide +kernel) (va_cons (ve_var (i := 1)) va_nil)) (ve_sub (ve_var (i := 0)) ve_int)) (vss_one (vs_ret ve_bl)) vss_nil)
      (vss_cons (vs_own (i := 2) sc_takes_fixtures.nd vn_newT)
      (vss_cons (vs_fgt (js := [3, 4, 5, 6]) (vs_for (passes_of rfl) rfl (vi_seq (ve_var (i := 1))) (vt_name (i := 3) sc_takes_fixtures.nd) (vss_cons (vs_lc2 (i := 4) (own := [("pair", 5), ("team", 6)]) (vs1 := [6]) rfl sc_takes_fixtures.nd (vi_seq (ve_var (i := 3))) (blkOk_by (N := ["n", "told", "pairs", "games", "teams", "pair", "team"]) (sc := defScope s_takes_fixtures) (by decide +kernel)) (by decide) (fun _ _ _ _ _ => (vt_name (i := 5) sc_takes_fixtures.nd)) (fun _ _ _ _ _ => vp_nil) (fun _ _ _ _ _ => (vi_seq (ve_var (i := 5)))) (fun _ _ _ _ _ => (vt_name (i := 6) sc_takes_fixtures.nd)) (fun _ _ _ _ _ => vp_nil) (fun _ _ _ _ _ => (ve_var (i := 6))) (sw_true rfl rfl rfl (by decide +kernel)))
      (vss_cons (vs_if (vb_cmp (cm_ne hu) (VN.e (vn_blt (bn_sortX hu rfl) rfl T.z_sorted (by decide +kernel) (va_cons (ve_var (i := 4)) va_nil))) (VN.e (vn_lstRg rfl rfl T.z_list (rg_1 rfl T.z_range (ve_var (i := 0)))))) (vss_one (vs_ret ve_bl)) vss_nil)
      (vss_cons (vs_updT (i := 2) hu (vn_dcT hu (own := [("pair", 5)]) rfl sc_takes_fixtures.nd (vi_seq (ve_var (i := 3))) (blkOk_by (N := ["n", "told", "pairs", "games", "teams", "pair", "team"]) (sc := defScope s_takes_fixtures) (by decide +kernel)) (fun _ _ _ _ _ => (vt_name (i := 5) sc_takes_fixtures.nd)) (fun _ _ _ _ _ => vp_nil) (fun _ _ _ _ _ => (va_cons (ve_blt (bi_minT rfl) rfl T.z_min (by decide +kernel) (va_cons (ve_var (i := 5)) va_nil)) (va_cons (ve_blt (bi_maxT rfl) rfl T.z_max (by decide +kernel) (va_cons (ve_var (i := 5)) va_nil)) va_nil))) (fun _ _ _ _ _ => ve_bl)))
      (vss_fgt (js := [1, 3, 4, 5, 6]) vss_nil))))))
      (vss_one (vs_ret (ve_bor (ve_cmp (cm_eq hu) (ve_blt bi_lenT rfl T.z_len (by decide +kernel) (va_cons (ve_var (i := 2)) va_nil)) (ve_div (ve_mul (ve_var (i := 0)) (ve_sub (ve_var (i := 0)) ve_int)) ve_int)))))))))⟩
theorem ok_breaks (T : Txt P K mg) : FnOk P w K mg base (L2.CX P w) 4 T.a_breaks T.e_breaks ["n", "told"] (spD K (clW P w T) W_breaks) := by
  refine fn_okX T.F_breaks sc_breaks (by decide) (fun cdv A outer s H E hr => ?_)
  have hu := hu65 hr
  have tk := takes_of (X := cxOf (L2.CX P w) P w K mg base ["n", "told", "count", "first", "second", "home", "pair"] "breaks" (defScope s_breaks) T.a_breaks cdv A outer s H E) rfl rfl rfl rfl
  exact ⟨_, (vss_cons (vs_expr (ve_call (ok_check_teams T) (hr.mono (by decide)) rfl T.d_check_teams T.F_check_teams.kp T.b_check_teams tk (va_cons (ve_var (i := 0)) va_nil)))
      (vss_cons (vs_set (i := 2) sc_breaks.nd ve_int)
      (vss_cons (vs_fgt (js := [0, 3, 4, 5, 6]) (vs_for (passes_of rfl) rfl (vi_zip rfl T.z_zip (va_cons (ve_var (i := 1)) (va_cons (ve_slice (ve_var (i := 1)) (vo_S ve_int) vo_N) va_nil))) (vt_tup rfl (vts_cons (vt_name (i := 3) sc_breaks.nd) (vts_cons (vt_name (i := 4) sc_breaks.nd) vts_nil))) (vss_cons (vs_set (i := 5) sc_breaks.nd (VN.e (vn_dc (own := [("pair", 6)]) rfl sc_breaks.nd (vi_seq (ve_var (i := 3))) (blkOk_by (N := ["n", "told", "count", "first", "second", "home", "pair"]) (sc := defScope s_breaks) (by decide +kernel)) (fun _ _ _ _ _ => (vt_name (i := 6) sc_breaks.nd)) (fun _ _ _ _ _ => vp_nil) (fun _ _ _ _ _ => (ve_ix hu (ve_var (i := 6)) ve_int)) (fun _ _ _ _ _ => ve_bl))))
      (vss_cons (vs_augAdd (i := 2) sc_breaks.nd (ve_blt bi_len rfl T.z_len (by decide +kernel) (va_cons (VN.e (vn_lc (own := [("pair", 6)]) rfl sc_breaks.nd (vi_seq (ve_var (i := 4))) (blkOk_by (N := ["n", "told", "count", "first", "second", "home", "pair"]) (sc := defScope s_breaks) (by decide +kernel)) (fun _ _ _ _ _ => (vt_name (i := 6) sc_breaks.nd)) (fun _ _ _ _ _ => (vp_one (vb_cmp (cm_in hu) (ve_ix hu (ve_var (i := 6)) ve_int) (ve_var (i := 5))))) (fun _ _ _ _ _ => (ve_var (i := 6))))) va_nil)))
      (vss_cons (vs_augAdd (i := 2) sc_breaks.nd (ve_blt bi_len rfl T.z_len (by decide +kernel) (va_cons (VN.e (vn_lc (own := [("pair", 6)]) rfl sc_breaks.nd (vi_seq (ve_var (i := 4))) (blkOk_by (N := ["n", "told", "count", "first", "second", "home", "pair"]) (sc := defScope s_breaks) (by decide +kernel)) (fun _ _ _ _ _ => (vt_name (i := 6) sc_breaks.nd)) (fun _ _ _ _ _ => (vp_one (vb_cmp (cm_notIn hu) (ve_ix hu (ve_var (i := 6)) ve_int) (ve_var (i := 5))))) (fun _ _ _ _ _ => (ve_var (i := 6))))) va_nil)))
      (vss_fgt (js := [0, 1, 3, 4, 5, 6]) vss_nil))))))
      (vss_one (vs_ret (ve_var (i := 2)))))))⟩
theorem ok0_u_law_draws (T : Txt P K mg) : FnOk P w K mg base (L2.CX P w) 1 T.a_u_law_draws T.e_u_law_draws ["script", "count"] (spN K (clW P w T) W0_u_law_draws) := by
  refine fn_clN (cl := { clW P w T with fr := true }) (fn_okF T.F_u_law_draws sc_u_law_draws (by decide) (fun cdv A outer s H E hr => ?_)) rfl rfl rfl
  have hu := hu65 hr
  have tk := takes_of (X := cxOf (L2.CX P w) P w K mg base ["script", "count", "cells", "found", "mixed", "k", "j", "cell", "again"] "_law_draws" (defScope s_u_law_draws) T.a_u_law_draws cdv A outer s H E) rfl rfl rfl rfl
  exact ⟨_, (vss_cons (vs_own (i := 2) sc_u_law_draws.nd (vn_cls bn_list rfl T.z_list (by decide +kernel) (va_cons (ve_var (i := 0)) va_nil)))
      (vss_cons (vs_if (vb_bor (vb_cmp (cm_eq hu) (ve_blt bi_len rfl T.z_len (by decide +kernel) (va_cons (ve_var (i := 2)) va_nil)) ve_int)) (vss_one (vs_own (i := 2) sc_u_law_draws.nd (vn_lst (va_cons ve_int va_nil)))) vss_nil)
      (vss_cons (vs_fgt (js := [0, 3, 4, 5, 6, 7, 8]) (vs_own (i := 3) sc_u_law_draws.nd (vn_lst va_nil)))
      (vss_cons (vs_set (i := 4) sc_u_law_draws.nd ve_int)
      (vss_cons (vs_fgt (js := [0, 5, 6, 7, 8]) (vs_for (passes_of rfl) rfl (vi_rng1 rfl T.z_range (va_cons (ve_var (i := 1)) va_nil)) (vt_name (i := 5) sc_u_law_draws.nd) (vss_cons (vs_set (i := 6) sc_u_law_draws.nd (ve_mod (ve_var (i := 5)) (ve_bor (ve_blt bi_len rfl T.z_len (by decide +kernel) (va_cons (ve_var (i := 2)) va_nil)))))
      (vss_cons (vs_set (i := 7) sc_u_law_draws.nd (ve_ixO (i := 2) hu (ve_var (i := 6))))
      (vss_cons (vs_set (i := 4) sc_u_law_draws.nd (ve_mod (ve_cls bi_int rfl T.z_int (by decide +kernel) (va_cons (ve_add (ve_add (ve_add (ve_mul (ve_var (i := 4)) ve_int) (ve_mul (ve_mod (ve_cls bi_int rfl T.z_int (by decide +kernel) (va_cons (ve_var (i := 7)) va_nil)) ve_int) ve_int)) (ve_mul (ve_var (i := 5)) ve_int)) ve_int) va_nil)) ve_int))
      (vss_cons (vs_set (i := 8) sc_u_law_draws.nd (ve_mod (ve_cls bi_int rfl T.z_int (by decide +kernel) (va_cons (ve_add (ve_add (ve_mul (ve_var (i := 4)) (ve_var (i := 4))) (ve_mul ve_int (ve_var (i := 4)))) (ve_var (i := 5))) va_nil)) ve_int))
      (vss_cons (vs_if (vb_cmp (cm_ge hu) (ve_var (i := 7)) (ve_pow ve_int ve_int)) (vss_cons (vs_app (i := 3) (ve_mod (ve_cls bi_int rfl T.z_int (by decide +kernel) (va_cons (ve_var (i := 7)) va_nil)) ve_int))
      (vss_one (vs_setIx (i := 2) (ve_var (i := 6)) (ve_div (ve_var (i := 7)) ve_int)))) (vss_one (vs_app (i := 3) (ve_mod (ve_cls bi_int rfl T.z_int (by decide +kernel) (va_cons (ve_var (i := 8)) va_nil)) ve_int))))
      (vss_fgt (js := [0, 1, 5, 6, 7, 8]) vss_nil))))))))
      (vss_cons (vs_lop0 (i := 3) PySem.F.slot_list_reverse PySem.F.type_list_reverse mt_reverse rfm_rev)
      (vss_one (vs_retO (i := 3)))))))))⟩
theorem ok_u_law_draws (T : Txt P K mg) : FnOk P w K mg base (L2.CX P w) 1 T.a_u_law_draws T.e_u_law_draws ["script", "count"] (spD K (clW P w T) W_u_law_draws) := draws_view rfl dr_u_law_draws (ok0_u_law_draws T)
theorem ok_u_law_take (T : Txt P K mg) : FnOk P w K mg base (L2.CX P w) 1 T.a_u_law_take T.e_u_law_take ["draws", "limit"] (spD K (clW P w T) wDraw) := take_view rfl (ok_take0 T.F_u_law_take T.z_len T.z_int)
theorem okG_u_law_same (T : Txt P K mg) : ∀ n : Nat, FnOk P w K mg base (L2.CX P w) (0 + n) T.a_u_law_same T.e_u_law_same ["found", "due"] (spD K (clW P w T) (G_u_law_same n))
  | 0 => fn_none
  | n + 1 => by
    have IH := okG_u_law_same T n
    have IH_u_law_same := IH
    · refine fn_okX T.F_u_law_same sc_u_law_same (by decide) (fun cdv A outer s H E hr => ?_)
      have hu := hu65 hr
      have tk := takes_of (X := cxOf (L2.CX P w) P w K mg base ["found", "due", "k"] "_law_same" (defScope s_u_law_same) T.a_u_law_same cdv A outer s H E) rfl rfl rfl rfl
      exact ⟨_, (vss_cons (vs_if (vb_cmp (cm_is hu) (ve_var (i := 1)) ve_non) (vss_one (vs_ret (ve_cmp (cm_is hu) (ve_var (i := 0)) ve_non))) vss_nil)
      (vss_cons (vs_if (vb_val (ve_isi rfl T.z_isinstance (by decide +kernel) rfl T.z_bool (by decide +kernel) (by decide) (ve_var (i := 1)))) (vss_one (vs_ret (ve_and (ve_isi rfl T.z_isinstance (by decide +kernel) rfl T.z_bool (by decide +kernel) (by decide) (ve_var (i := 0))) (ve_one (ve_cmp (cm_eq hu) (ve_var (i := 0)) (ve_var (i := 1))))))) vss_nil)
      (vss_cons (vs_if (vb_val (ve_isi rfl T.z_isinstance (by decide +kernel) rfl T.z_int (by decide +kernel) (by decide) (ve_var (i := 1)))) (vss_one (vs_ret (ve_and (ve_isi rfl T.z_isinstance (by decide +kernel) rfl T.z_int (by decide +kernel) (by decide) (ve_var (i := 0))) (ve_and (ve_not (ve_isi rfl T.z_isinstance (by decide +kernel) rfl T.z_bool (by decide +kernel) (by decide) (ve_var (i := 0)))) (ve_one (ve_cmp (cm_eq hu) (ve_var (i := 0)) (ve_var (i := 1)))))))) vss_nil)
      (vss_cons (vs_if (vb_val (ve_isi rfl T.z_isinstance (by decide +kernel) rfl T.z_str (by decide +kernel) (by decide) (ve_var (i := 1)))) (vss_one (vs_ret (ve_and (ve_isi rfl T.z_isinstance (by decide +kernel) rfl T.z_str (by decide +kernel) (by decide) (ve_var (i := 0))) (ve_one (ve_cmp (cm_eq hu) (ve_var (i := 0)) (ve_var (i := 1))))))) vss_nil)
      (vss_cons (vs_if (vb_val (ve_isi rfl T.z_isinstance (by decide +kernel) rfl T.z_dict (by decide +kernel) (by decide) (ve_var (i := 1)))) (vss_one (vs_ret (ve_and (ve_isi rfl T.z_isinstance (by decide +kernel) rfl T.z_dict (by decide +kernel) (by decide) (ve_var (i := 0))) (ve_one (ve_cmp (cm_eq hu) (ve_var (i := 0)) (ve_var (i := 1))))))) vss_nil)
      (vss_cons (vs_if (VW.b (vw_or (vb_cmp (cm_ne hu) (ve_isi rfl T.z_isinstance (by decide +kernel) rfl T.z_tuple (by decide +kernel) (by decide) (ve_var (i := 1))) (ve_isi rfl T.z_isinstance (by decide +kernel) rfl T.z_tuple (by decide +kernel) (by decide) (ve_var (i := 0)))) (vw_or1 (vb_cmp (cm_ne hu) (ve_isi rfl T.z_isinstance (by decide +kernel) rfl T.z_list (by decide +kernel) (by decide) (ve_var (i := 1))) (ve_isi rfl T.z_isinstance (by decide +kernel) rfl T.z_list (by decide +kernel) (by decide) (ve_var (i := 0))))))) (vss_one (vs_ret ve_bl)) vss_nil)
      (vss_one (vs_ret (ve_and (ve_cmp (cm_eq hu) (ve_blt bi_len rfl T.z_len (by decide +kernel) (va_cons (ve_var (i := 0)) va_nil)) (ve_blt bi_len rfl T.z_len (by decide +kernel) (va_cons (ve_var (i := 1)) va_nil))) (ve_one (ve_blt (bi_all rfl) rfl T.z_all (by decide +kernel) (va_cons (VN.e (vn_lc (own := [("k", 2)]) rfl sc_u_law_same.nd (vi_rng1 rfl T.z_range (va_cons (ve_blt bi_len rfl T.z_len (by decide +kernel) (va_cons (ve_var (i := 1)) va_nil)) va_nil)) (blkOk_by (N := ["found", "due", "k"]) (sc := defScope s_u_law_same) (by decide +kernel)) (fun _ _ _ _ _ => (vt_name (i := 2) sc_u_law_same.nd)) (fun _ _ _ _ _ => vp_nil) (fun _ _ _ _ _ => (ve_call IH_u_law_same hr rfl T.d_u_law_same T.F_u_law_same.kp T.b_u_law_same takes_no (va_cons (ve_ix hu (ve_var (i := 0)) (ve_var (i := 2))) (va_cons (ve_ix hu (ve_var (i := 1)) (ve_var (i := 2))) va_nil)))))) va_nil))))))))))))⟩
theorem ok_u_law_same (T : Txt P K mg) : FnOk P w K mg base (L2.CX P w) 60 T.a_u_law_same T.e_u_law_same ["found", "due"] (spD K (clW P w T) W_u_law_same) := fn_upN (N := 60) (L := 0) fun n => (okG_u_law_same T n)
theorem ok_u_law_fixtures (T : Txt P K mg) : FnOk P w K mg base (L2.CX P w) 1 T.a_u_law_fixtures T.e_u_law_fixtures ["n"] (spD K (clW P w T) W_u_law_fixtures) := by
  refine fn_okX T.F_u_law_fixtures sc_u_law_fixtures (by decide) (fun cdv A outer s H E hr => ?_)
  have hu := hu65 hr
  have tk := takes_of (X := cxOf (L2.CX P w) P w K mg base ["n", "found", "r", "games", "k", "a", "b"] "_law_fixtures" (defScope s_u_law_fixtures) T.a_u_law_fixtures cdv A outer s H E) rfl rfl rfl rfl
  exact ⟨_, (vss_cons (vs_own (i := 1) sc_u_law_fixtures.nd (vn_lst va_nil))
      (vss_cons (vs_fgt (js := [2, 3, 4, 5, 6]) (vs_for (passes_of rfl) rfl (vi_rng1 rfl T.z_range (va_cons (ve_sub (ve_var (i := 0)) ve_int) va_nil)) (vt_name (i := 2) sc_u_law_fixtures.nd) (vss_cons (vs_own (i := 3) sc_u_law_fixtures.nd (vn_lst (va_cons (ve_if (vb_cmp (cm_eq hu) (ve_mod (ve_cls bi_int rfl T.z_int (by decide +kernel) (va_cons (ve_var (i := 2)) va_nil)) ve_int) ve_int) (ve_tup (va_cons (ve_sub (ve_var (i := 0)) ve_int) (va_cons (ve_var (i := 2)) va_nil))) (ve_tup (va_cons (ve_var (i := 2)) (va_cons (ve_sub (ve_var (i := 0)) ve_int) va_nil)))) va_nil)))
      (vss_cons (vs_fgt (js := [4, 5, 6]) (vs_for (passes_of rfl) rfl (vi_rng2 rfl T.z_range (va_cons ve_int (va_cons (ve_div (ve_var (i := 0)) ve_int) va_nil))) (vt_name (i := 4) sc_u_law_fixtures.nd) (vss_cons (vs_par (i := 5) (j := 6) rfl sc_u_law_fixtures.nd (va_cons (ve_mod (ve_cls bi_int rfl T.z_int (by decide +kernel) (va_cons (ve_add (ve_var (i := 2)) (ve_var (i := 4))) va_nil)) (ve_sub (ve_var (i := 0)) ve_int)) (va_cons (ve_mod (ve_cls bi_int rfl T.z_int (by decide +kernel) (va_cons (ve_sub (ve_var (i := 2)) (ve_var (i := 4))) va_nil)) (ve_sub (ve_var (i := 0)) ve_int)) va_nil)))
      (vss_cons (vs_app (i := 3) (ve_if (vb_cmp (cm_eq hu) (ve_mod (ve_cls bi_int rfl T.z_int (by decide +kernel) (va_cons (ve_var (i := 4)) va_nil)) ve_int) ve_int) (ve_tup (va_cons (ve_var (i := 5)) (va_cons (ve_var (i := 6)) va_nil))) (ve_tup (va_cons (ve_var (i := 6)) (va_cons (ve_var (i := 5)) va_nil)))))
      (vss_fgt (js := [4, 5, 6]) vss_nil)))))
      (vss_cons (vs_frz (i := 3) (vs_app (i := 1) (ve_cls bi_tuple rfl T.z_tuple (by decide +kernel) (va_cons (ve_var (i := 3)) va_nil))))
      (vss_fgt (js := [2, 3, 4, 5, 6]) vss_nil))))))
      (vss_one (vs_frz (i := 1) (vs_ret (ve_cls bi_tuple rfl T.z_tuple (by decide +kernel) (va_cons (ve_var (i := 1)) va_nil)))))))⟩
theorem ok_u_law_takes (T : Txt P K mg) : FnOk P w K mg base (L2.CX P w) 1 T.a_u_law_takes T.e_u_law_takes ["n", "told"] (spD K (clW P w T) W_u_law_takes) := by
  refine fn_okX T.F_u_law_takes sc_u_law_takes (by decide) (fun cdv A outer s H E hr => ?_)
  have hu := hu65 hr
  have tk := takes_of (X := cxOf (L2.CX P w) P w K mg base ["n", "told", "pairs", "games", "a", "b"] "_law_takes" (defScope s_u_law_takes) T.a_u_law_takes cdv A outer s H E) rfl rfl rfl rfl
  exact ⟨_, (vss_cons (vs_if (vb_cmp (cm_ne hu) (ve_blt bi_len rfl T.z_len (by decide +kernel) (va_cons (ve_var (i := 1)) va_nil)) (ve_sub (ve_var (i := 0)) ve_int)) (vss_one (vs_ret ve_bl)) vss_nil)
      (vss_cons (vs_own (i := 2) sc_u_law_takes.nd vn_newT)
      (vss_cons (vs_fgt (js := [3, 4, 5]) (vs_for (passes_of rfl) rfl (vi_seq (ve_var (i := 1))) (vt_name (i := 3) sc_u_law_takes.nd) (vss_cons (vs_if (vb_cmp (cm_ne hu) (VN.e (vn_blt (bn_sortX hu rfl) rfl T.z_sorted (by decide +kernel) (va_cons (ve_add (VN.e (vn_lc (own := [("a", 4), ("b", 5)]) rfl sc_u_law_takes.nd (vi_seq (ve_var (i := 3))) (blkOk_by (N := ["n", "told", "pairs", "games", "a", "b"]) (sc := defScope s_u_law_takes) (by decide +kernel)) (fun _ _ _ _ _ => (vt_tup rfl (vts_cons (vt_name (i := 4) sc_u_law_takes.nd) (vts_cons (vt_name (i := 5) sc_u_law_takes.nd) vts_nil)))) (fun _ _ _ _ _ => vp_nil) (fun _ _ _ _ _ => (ve_var (i := 4))))) (VN.e (vn_lc (own := [("a", 4), ("b", 5)]) rfl sc_u_law_takes.nd (vi_seq (ve_var (i := 3))) (blkOk_by (N := ["n", "told", "pairs", "games", "a", "b"]) (sc := defScope s_u_law_takes) (by decide +kernel)) (fun _ _ _ _ _ => (vt_tup rfl (vts_cons (vt_name (i := 4) sc_u_law_takes.nd) (vts_cons (vt_name (i := 5) sc_u_law_takes.nd) vts_nil)))) (fun _ _ _ _ _ => vp_nil) (fun _ _ _ _ _ => (ve_var (i := 5)))))) va_nil))) (VN.e (vn_lstRg rfl rfl T.z_list (rg_1 rfl T.z_range (ve_var (i := 0)))))) (vss_one (vs_ret ve_bl)) vss_nil)
      (vss_cons (vs_fgt (js := [1, 4, 5]) (vs_for (passes_of rfl) rfl (vi_seq (ve_var (i := 3))) (vt_tup rfl (vts_cons (vt_name (i := 4) sc_u_law_takes.nd) (vts_cons (vt_name (i := 5) sc_u_law_takes.nd) vts_nil))) (vss_cons (vs_putT (i := 2) hu (va_cons (ve_blt (bi_min rfl) rfl T.z_min (by decide +kernel) (va_cons (ve_var (i := 4)) (va_cons (ve_var (i := 5)) va_nil))) (va_cons (ve_blt (bi_max rfl) rfl T.z_max (by decide +kernel) (va_cons (ve_var (i := 4)) (va_cons (ve_var (i := 5)) va_nil))) va_nil)) ve_bl)
      (vss_fgt (js := [1, 3, 4, 5]) vss_nil))))
      (vss_fgt (js := [1, 3, 4, 5]) vss_nil)))))
      (vss_one (vs_ret (ve_bor (ve_cmp (cm_eq hu) (ve_blt bi_lenT rfl T.z_len (by decide +kernel) (va_cons (ve_var (i := 2)) va_nil)) (ve_div (ve_mul (ve_var (i := 0)) (ve_sub (ve_var (i := 0)) ve_int)) ve_int))))))))⟩
theorem ok_u_law_breaks (T : Txt P K mg) : FnOk P w K mg base (L2.CX P w) 1 T.a_u_law_breaks T.e_u_law_breaks ["n", "told"] (spD K (clW P w T) W_u_law_breaks) := by
  refine fn_okX T.F_u_law_breaks sc_u_law_breaks (by decide) (fun cdv A outer s H E hr => ?_)
  have hu := hu65 hr
  have tk := takes_of (X := cxOf (L2.CX P w) P w K mg base ["n", "told", "total", "team", "homes", "games", "a", "b", "k"] "_law_breaks" (defScope s_u_law_breaks) T.a_u_law_breaks cdv A outer s H E) rfl rfl rfl rfl
  exact ⟨_, (vss_cons (vs_set (i := 2) sc_u_law_breaks.nd ve_int)
      (vss_cons (vs_fgt (js := [3, 4, 5, 6, 7, 8]) (vs_for (passes_of rfl) rfl (vi_rng1 rfl T.z_range (va_cons (ve_var (i := 0)) va_nil)) (vt_name (i := 3) sc_u_law_breaks.nd) (vss_cons (vs_set (i := 4) sc_u_law_breaks.nd (VN.e (vn_lc (own := [("games", 5)]) rfl sc_u_law_breaks.nd (vi_seq (ve_var (i := 1))) (blkOk_by (N := ["n", "told", "total", "team", "homes", "games", "a", "b", "k"]) (sc := defScope s_u_law_breaks) (by decide +kernel)) (fun _ _ _ _ _ => (vt_name (i := 5) sc_u_law_breaks.nd)) (fun _ _ _ _ _ => vp_nil) (fun _ _ _ _ _ => (ve_blt bi_len rfl T.z_len (by decide +kernel) (va_cons (VN.e (vn_lc (own := [("a", 6), ("b", 7)]) rfl sc_u_law_breaks.nd (vi_seq (ve_var (i := 5))) (blkOk_by (N := ["n", "told", "total", "team", "homes", "games", "a", "b", "k"]) (by kernel_rfl)) (fun _ _ _ _ _ => (vt_tup rfl (vts_cons (vt_name (i := 6) sc_u_law_breaks.nd) (vts_cons (vt_name (i := 7) sc_u_law_breaks.nd) vts_nil)))) (fun _ _ _ _ _ => (vp_one (vb_cmp (cm_eq hu) (ve_var (i := 6)) (ve_var (i := 3))))) (fun _ _ _ _ _ => ve_int))) va_nil))))))
      (vss_cons (vs_set (i := 2) sc_u_law_breaks.nd (ve_add (ve_var (i := 2)) (ve_blt bi_len rfl T.z_len (by decide +kernel) (va_cons (VN.e (vn_lc (own := [("k", 8)]) rfl sc_u_law_breaks.nd (vi_rng1 rfl T.z_range (va_cons (ve_sub (ve_blt bi_len rfl T.z_len (by decide +kernel) (va_cons (ve_var (i := 4)) va_nil)) ve_int) va_nil)) (blkOk_by (N := ["n", "told", "total", "team", "homes", "games", "a", "b", "k"]) (sc := defScope s_u_law_breaks) (by decide +kernel)) (fun _ _ _ _ _ => (vt_name (i := 8) sc_u_law_breaks.nd)) (fun _ _ _ _ _ => (vp_one (vb_cmp (cm_eq hu) (ve_ix hu (ve_var (i := 4)) (ve_var (i := 8))) (ve_ix hu (ve_var (i := 4)) (ve_add (ve_var (i := 8)) ve_int))))) (fun _ _ _ _ _ => ve_int))) va_nil))))
      (vss_fgt (js := [0, 3, 4, 5, 6, 7, 8]) vss_nil)))))
      (vss_one (vs_ret (ve_var (i := 2))))))⟩
theorem ok_u_law_bent (T : Txt P K mg) : FnOk P w K mg base (L2.CX P w) 2 T.a_u_law_bent T.e_u_law_bent ["draws", "told"] (spD K (clW P w T) W_u_law_bent) := by
  refine fn_okX T.F_u_law_bent sc_u_law_bent (by decide) (fun cdv A outer s H E hr => ?_)
  have hu := hu65 hr
  have tk := takes_of (X := cxOf (L2.CX P w) P w K mg base ["draws", "told", "r", "k", "games", "kind", "following", "one", "other"] "_law_bent" (defScope s_u_law_bent) T.a_u_law_bent cdv A outer s H E) rfl rfl rfl rfl
  exact ⟨_, (vss_cons (vs_par (i := 2) (j := 3) rfl sc_u_law_bent.nd (va_cons (ve_call (ok_u_law_take T) (hr.mono (by decide)) rfl T.d_u_law_take T.F_u_law_take.kp T.b_u_law_take tk (va_cons (ve_var (i := 0)) (va_cons (ve_blt bi_len rfl T.z_len (by decide +kernel) (va_cons (ve_var (i := 1)) va_nil)) va_nil))) (va_cons (ve_call (ok_u_law_take T) (hr.mono (by decide)) rfl T.d_u_law_take T.F_u_law_take.kp T.b_u_law_take tk (va_cons (ve_var (i := 0)) (va_cons (ve_blt bi_len rfl T.z_len (by decide +kernel) (va_cons (ve_ix hu (ve_var (i := 1)) ve_int) va_nil)) va_nil))) va_nil)))
      (vss_cons (vs_set (i := 4) sc_u_law_bent.nd (ve_ix hu (ve_var (i := 1)) (ve_var (i := 2))))
      (vss_cons (vs_set (i := 5) sc_u_law_bent.nd (ve_call (ok_u_law_take T) (hr.mono (by decide)) rfl T.d_u_law_take T.F_u_law_take.kp T.b_u_law_take tk (va_cons (ve_var (i := 0)) (va_cons ve_int va_nil))))
      (vss_cons (vs_set (i := 6) sc_u_law_bent.nd (ve_ix hu (ve_var (i := 1)) (ve_mod (ve_cls bi_int rfl T.z_int (by decide +kernel) (va_cons (ve_add (ve_var (i := 2)) ve_int) va_nil)) (ve_blt bi_len rfl T.z_len (by decide +kernel) (va_cons (ve_var (i := 1)) va_nil)))))
      (vss_cons (vs_if (vb_cmp (cm_eq hu) (ve_var (i := 5)) ve_int) (vss_one (vs_ret (ve_add (ve_add (ve_slice (ve_var (i := 1)) vo_N (vo_S (ve_var (i := 2)))) (ve_tup (va_cons (ve_var (i := 6)) va_nil))) (ve_slice (ve_var (i := 1)) (vo_S (ve_add (ve_var (i := 2)) ve_int)) vo_N)))) vss_nil)
      (vss_cons (vs_if (VW.b (vw_and (vb_cmp (cm_eq hu) (ve_var (i := 5)) ve_int) (vw_and1 (vb_cmp (cm_lt hu) (ve_add (ve_var (i := 2)) ve_int) (ve_blt bi_len rfl T.z_len (by decide +kernel) (va_cons (ve_var (i := 1)) va_nil)))))) (vss_cons (vs_set (i := 7) sc_u_law_bent.nd (ve_add (ve_add (ve_slice (ve_var (i := 4)) vo_N (vo_S (ve_var (i := 3)))) (ve_tup (va_cons (ve_ix hu (ve_var (i := 6)) (ve_var (i := 3))) va_nil))) (ve_slice (ve_var (i := 4)) (vo_S (ve_add (ve_var (i := 3)) ve_int)) vo_N)))
      (vss_cons (vs_set (i := 8) sc_u_law_bent.nd (ve_add (ve_add (ve_slice (ve_var (i := 6)) vo_N (vo_S (ve_var (i := 3)))) (ve_tup (va_cons (ve_ix hu (ve_var (i := 4)) (ve_var (i := 3))) va_nil))) (ve_slice (ve_var (i := 6)) (vo_S (ve_add (ve_var (i := 3)) ve_int)) vo_N)))
      (vss_one (vs_ret (ve_add (ve_add (ve_slice (ve_var (i := 1)) vo_N (vo_S (ve_var (i := 2)))) (ve_tup (va_cons (ve_var (i := 7)) (va_cons (ve_var (i := 8)) va_nil)))) (ve_slice (ve_var (i := 1)) (vo_S (ve_add (ve_var (i := 2)) ve_int)) vo_N)))))) vss_nil)
      (vss_cons (vs_if (vb_cmp (cm_eq hu) (ve_var (i := 5)) ve_int) (vss_one (vs_ret (ve_add (ve_slice (ve_var (i := 1)) vo_N (vo_S (ve_var (i := 2)))) (ve_slice (ve_var (i := 1)) (vo_S (ve_add (ve_var (i := 2)) ve_int)) vo_N)))) vss_nil)
      (vss_cons (vs_if (vb_cmp (cm_eq hu) (ve_var (i := 5)) ve_int) (vss_one (vs_ret (ve_add (ve_add (ve_slice (ve_var (i := 1)) vo_N (vo_S (ve_var (i := 2)))) (ve_tup (va_cons (ve_add (ve_add (ve_slice (ve_var (i := 4)) vo_N (vo_S (ve_var (i := 3)))) (ve_tup (va_cons (ve_rev (ve_ix hu (ve_var (i := 4)) (ve_var (i := 3)))) va_nil))) (ve_slice (ve_var (i := 4)) (vo_S (ve_add (ve_var (i := 3)) ve_int)) vo_N)) va_nil))) (ve_slice (ve_var (i := 1)) (vo_S (ve_add (ve_var (i := 2)) ve_int)) vo_N)))) vss_nil)
      (vss_cons (vs_if (vb_cmp (cm_eq hu) (ve_var (i := 5)) ve_int) (vss_one (vs_ret (ve_add (ve_add (ve_slice (ve_var (i := 1)) vo_N (vo_S (ve_var (i := 2)))) (ve_tup (va_cons (ve_add (ve_slice (ve_var (i := 4)) vo_N (vo_S (ve_var (i := 3)))) (ve_slice (ve_var (i := 4)) (vo_S (ve_add (ve_var (i := 3)) ve_int)) vo_N)) va_nil))) (ve_slice (ve_var (i := 1)) (vo_S (ve_add (ve_var (i := 2)) ve_int)) vo_N)))) vss_nil)
      (vss_cons (vs_if (vb_cmp (cm_eq hu) (ve_var (i := 5)) ve_int) (vss_one (vs_ret (ve_add (ve_add (ve_slice (ve_var (i := 1)) vo_N (vo_S (ve_var (i := 2)))) (ve_slice (ve_var (i := 1)) (vo_S (ve_var (i := 2))) (vo_S (ve_add (ve_var (i := 2)) ve_int)))) (ve_slice (ve_var (i := 1)) (vo_S (ve_var (i := 2))) vo_N)))) vss_nil)
      (vss_cons (vs_if (vb_cmp (cm_eq hu) (ve_var (i := 5)) ve_int) (vss_one (vs_ret (ve_add (ve_add (ve_slice (ve_var (i := 1)) vo_N (vo_S (ve_var (i := 2)))) (ve_tup (va_cons (ve_add (ve_add (ve_slice (ve_var (i := 4)) vo_N (vo_S (ve_var (i := 3)))) (ve_tup (va_cons (ve_tup (va_cons (ve_ix hu (ve_ix hu (ve_var (i := 4)) (ve_var (i := 3))) ve_int) (va_cons (ve_ix hu (ve_ix hu (ve_var (i := 4)) ve_int) ve_int) va_nil))) va_nil))) (ve_slice (ve_var (i := 4)) (vo_S (ve_add (ve_var (i := 3)) ve_int)) vo_N)) va_nil))) (ve_slice (ve_var (i := 1)) (vo_S (ve_add (ve_var (i := 2)) ve_int)) vo_N)))) vss_nil)
      (vss_one (vs_ret (ve_rev (ve_var (i := 1))))))))))))))))⟩
theorem ok_law (T : Txt P K mg) (B_law : LamX.TabB base mg T.c_law T.t_law) (hN_law : TN.nm T.t_law = (envOfC "law" (defScope s_law) 0 T.a_law .none).qual ++ "<lambda>") : FnOk P w K mg base (L2.CX P w) 63 T.a_law T.e_law ["script"] (spL K (clT P w T) W_law) := by
  refine fn_okL (cl := clT P w T) T.FC_law sc_law (by decide) (fun A outer s H E hr => ?_)
  have hu := hu65 hr
  have tk := takes_of (X := cxOf (L2.CX P w) P w K mg base ["script", "draws", "turn", "n", "told", "k", "bent", "good", "bad", "call"] "law" (defScope s_law) T.a_law (.ref T.c_law) A outer s H E) rfl rfl rfl rfl
  exact ⟨_, (vss_cons (vs_set (i := 1) sc_law.nd (ve_call (fn_cl (ok_u_law_draws T) rfl rfl) (hr.mono (by decide)) rfl T.d_u_law_draws T.F_u_law_draws.kp T.b_u_law_draws tk (va_cons (ve_var (i := 0)) (va_cons ve_int va_nil))))
      (vss_cons (vs_fgt (js := [0, 2, 3, 4, 5, 6, 7, 8, 9]) (vs_for (passes_of rfl) rfl (vi_rng1 rfl T.z_range (va_cons ve_int va_nil)) (vt_name (i := 2) sc_law.nd) (vss_cons (vs_set (i := 3) sc_law.nd (ve_mul ve_int (ve_add ve_int (ve_call (fn_cl (ok_u_law_take T) rfl rfl) (hr.mono (by decide)) rfl T.d_u_law_take T.F_u_law_take.kp T.b_u_law_take tk (va_cons (ve_var (i := 1)) (va_cons ve_int va_nil))))))
      (vss_cons (vs_set (i := 4) sc_law.nd (ve_call (fn_cl (ok_fixtures T) rfl rfl) (hr.mono (by decide)) rfl T.d_fixtures T.F_fixtures.kp T.b_fixtures tk (va_cons (ve_var (i := 3)) va_nil)))
      (vss_cons (vs_if (VW.b (vw_or (vb_not (vb_val (ve_call (fn_cl (ok_u_law_same T) rfl rfl) (hr.mono (by decide)) rfl T.d_u_law_same T.F_u_law_same.kp T.b_u_law_same tk (va_cons (ve_var (i := 4)) (va_cons (ve_call (fn_cl (ok_u_law_fixtures T) rfl rfl) (hr.mono (by decide)) rfl T.d_u_law_fixtures T.F_u_law_fixtures.kp T.b_u_law_fixtures tk (va_cons (ve_var (i := 3)) va_nil)) va_nil))))) (vw_or (vb_cmp (cm_notB hu) (ve_call (fn_cl (ok_takes_fixtures T) rfl rfl) (hr.mono (by decide)) rfl T.d_takes_fixtures T.F_takes_fixtures.kp T.b_takes_fixtures tk (va_cons (ve_var (i := 3)) (va_cons (ve_var (i := 4)) va_nil))) ve_bl) (vw_or1 (vb_cmp (cm_ne hu) (ve_call (fn_cl (ok_breaks T) rfl rfl) (hr.mono (by decide)) rfl T.d_breaks T.F_breaks.kp T.b_breaks tk (va_cons (ve_var (i := 3)) (va_cons (ve_var (i := 4)) va_nil))) (ve_sub (ve_var (i := 3)) ve_int)))))) (vss_one (vs_ret ve_bl)) vss_nil)
      (vss_cons (vs_fgt (js := [0, 2, 5, 6, 7, 8, 9]) (vs_for (passes_of rfl) rfl (vi_rng1 rfl T.z_range (va_cons ve_int va_nil)) (vt_name (i := 5) sc_law.nd) (vss_cons (vs_set (i := 6) sc_law.nd (ve_call (fn_cl (ok_u_law_bent T) rfl rfl) (hr.mono (by decide)) rfl T.d_u_law_bent T.F_u_law_bent.kp T.b_u_law_bent tk (va_cons (ve_var (i := 1)) (va_cons (ve_var (i := 4)) va_nil))))
      (vss_cons (vs_set (i := 7) sc_law.nd (ve_call (fn_cl (ok_u_law_takes T) rfl rfl) (hr.mono (by decide)) rfl T.d_u_law_takes T.F_u_law_takes.kp T.b_u_law_takes tk (va_cons (ve_var (i := 3)) (va_cons (ve_var (i := 6)) va_nil))))
      (vss_cons (vs_if (VW.b (vw_or (vb_not (vb_val (ve_call (fn_cl (ok_u_law_same T) rfl rfl) (hr.mono (by decide)) rfl T.d_u_law_same T.F_u_law_same.kp T.b_u_law_same tk (va_cons (ve_call (fn_cl (ok_takes_fixtures T) rfl rfl) (hr.mono (by decide)) rfl T.d_takes_fixtures T.F_takes_fixtures.kp T.b_takes_fixtures tk (va_cons (ve_var (i := 3)) (va_cons (ve_var (i := 6)) va_nil))) (va_cons (ve_var (i := 7)) va_nil))))) (vw_or1 (VW.b (vw_and (vb_truth (ve_var (i := 7))) (vw_and1 (vb_not (vb_val (ve_call (fn_cl (ok_u_law_same T) rfl rfl) (hr.mono (by decide)) rfl T.d_u_law_same T.F_u_law_same.kp T.b_u_law_same tk (va_cons (ve_call (fn_cl (ok_breaks T) rfl rfl) (hr.mono (by decide)) rfl T.d_breaks T.F_breaks.kp T.b_breaks tk (va_cons (ve_var (i := 3)) (va_cons (ve_var (i := 6)) va_nil))) (va_cons (ve_call (fn_cl (ok_u_law_breaks T) rfl rfl) (hr.mono (by decide)) rfl T.d_u_law_breaks T.F_u_law_breaks.kp T.b_u_law_breaks tk (va_cons (ve_var (i := 3)) (va_cons (ve_var (i := 6)) va_nil))) va_nil))))))))))) (vss_one (vs_ret ve_bl)) vss_nil)
      (vss_fgt (js := [0, 2, 5, 6, 7, 8, 9]) vss_nil))))))
      (vss_cons (vs_set (i := 8) sc_law.nd (ve_ix hu (ve_tup (va_cons ve_int (va_cons ve_int (va_cons ve_int (va_cons ve_int (va_cons (ve_neg ve_int) (va_cons ve_int va_nil))))))) (ve_call (fn_cl (ok_u_law_take T) rfl rfl) (hr.mono (by decide)) rfl T.d_u_law_take T.F_u_law_take.kp T.b_u_law_take tk (va_cons (ve_var (i := 1)) (va_cons ve_int va_nil)))))
      (vss_cons (vs_forLamT (os := ["JobError"]) (j := 1) (k := 60) (i := 9) (passes_of rfl) rfl (by exact ⟨rfl, T.d_u_law_is_refused, T.F_u_law_is_refused, T.b_u_law_is_refused, sc_u_law_is_refused, rfl, .inl rfl, rfl, rfl, fun _ => pe_bl, fun _ => .bl _, ⟨_, _, _, _, _, rfl⟩, fun cdg s1 H1 => (.cons ⟨rfl, by decide, .inl T.c_JobError⟩ (show (clT P w T).nm "JobError" = some T.C_JobError from hc_JobError (P := P) (w := w) T) T.em_JobError_JobError (fun m hm ne D h => by
          simp only [List.mem_cons, List.mem_nil_iff, or_false] at hm
          rcases hm with rfl
          · exact absurd rfl ne) (vx_cmp (fun _ _ _ => cm_eq (hu_sub hr _ _)) (vx_fld (i := 1) rfl rfl T.xf_JobError T.nf_JobError_code) vx_str) .nil)⟩) B_law rfl (by simp [clT]) (by exact qual_as hN_law) (hr.mono (by decide)) (by exact (.cons (show LamX.lamSB (defScope s_law) _ = true by decide +kernel) rfl (fun _ _ _ _ _ => rfl) (fun A1 outer1 s1 H1 E1 f1 c1 hr1 => (ve_call (fn_cl (ok_fixtures T) rfl rfl) (hr1.mono (by decide)) rfl T.d_fixtures T.F_fixtures.kp T.b_fixtures (takes_of rfl rfl rfl rfl) (va_cons (ve_var (i := 8)) va_nil))) rfl (.cons (show LamX.lamSB (defScope s_law) _ = true by decide +kernel) rfl (fun _ _ _ _ _ => rfl) (fun A1 outer1 s1 H1 E1 f1 c1 hr1 => (ve_call (fn_cl (ok_takes_fixtures T) rfl rfl) (hr1.mono (by decide)) rfl T.d_takes_fixtures T.F_takes_fixtures.kp T.b_takes_fixtures (takes_of rfl rfl rfl rfl) (va_cons (ve_var (i := 8)) (va_cons (ve_tup va_nil) va_nil)))) rfl (.cons (show LamX.lamSB (defScope s_law) _ = true by decide +kernel) rfl (fun _ _ _ _ _ => rfl) (fun A1 outer1 s1 H1 E1 f1 c1 hr1 => (ve_call (fn_cl (ok_breaks T) rfl rfl) (hr1.mono (by decide)) rfl T.d_breaks T.F_breaks.kp T.b_breaks (takes_of rfl rfl rfl rfl) (va_cons (ve_var (i := 8)) (va_cons (ve_tup va_nil) va_nil)))) rfl .nil)))) sc_law.nd)
      (vss_fgt (js := [0, 2, 3, 4, 5, 6, 7, 8, 9]) vss_nil)))))))))
      (vss_one (vs_ret ve_bl))))⟩
end
end K62

set_option maxHeartbeats 8000000
/-! The last steps. -/
namespace K62
open PySem L2 DL PyProof.Rows
theorem all_mk {P : Program} {w : World} {K : PySem.W.Frag} {h : Heap} {mg : Str → Option Value} {fa : Addr} (X : K.In h) (G : h.Ns mainGlobals mg) (hfa : mg "law" = some (.ref fa))
    {f0 : Addr} {od0 an0 : Option Addr} {sl0 : Array (Option Value)} {oc0 kV0 dc0 pm0 cd0 ct0 : Value}
    {f1 : Addr} {od1 an1 : Option Addr} {sl1 : Array (Option Value)} {oc1 kV1 dc1 pm1 cd1 ct1 : Value}
    {f2 : Addr} {od2 an2 : Option Addr} {sl2 : Array (Option Value)} {oc2 kV2 dc2 pm2 cd2 ct2 : Value}
    {f3 : Addr} {od3 an3 : Option Addr} {sl3 : Array (Option Value)} {oc3 kV3 dc3 pm3 cd3 ct3 : Value}
    {f4 : Addr} {od4 an4 : Option Addr} {sl4 : Array (Option Value)} {oc4 kV4 dc4 pm4 cd4 ct4 : Value}
    {f5 : Addr} {od5 an5 : Option Addr} {sl5 : Array (Option Value)} {oc5 kV5 dc5 pm5 cd5 ct5 : Value}
    {f6 : Addr} {od6 an6 : Option Addr} {sl6 : Array (Option Value)} {oc6 kV6 dc6 pm6 cd6 ct6 : Value}
    {f7 : Addr} {od7 an7 : Option Addr} {sl7 : Array (Option Value)} {oc7 kV7 dc7 pm7 cd7 ct7 : Value}
    {f8 : Addr} {od8 an8 : Option Addr} {sl8 : Array (Option Value)} {oc8 kV8 dc8 pm8 cd8 ct8 : Value}
    {f9 : Addr} {od9 an9 : Option Addr} {sl9 : Array (Option Value)} {oc9 kV9 dc9 pm9 cd9 ct9 : Value}
    {f10 : Addr} {od10 an10 : Option Addr} {sl10 : Array (Option Value)} {oc10 kV10 dc10 pm10 cd10 ct10 : Value}
    {f11 : Addr} {od11 an11 : Option Addr} {sl11 : Array (Option Value)} {oc11 kV11 dc11 pm11 cd11 ct11 : Value}
    {f12 : Addr} {od12 an12 : Option Addr} {sl12 : Array (Option Value)} {oc12 kV12 dc12 pm12 cd12 ct12 : Value}
    {f13 : Addr} {od13 an13 : Option Addr} {sl13 : Array (Option Value)} {oc13 kV13 dc13 pm13 ct13 : Value} {cx13 tx13 : Addr}
    (a0 : PySem.W.nsIn K mainGlobals "check_teams" = some (some (.ref f0)))
    (l0 : K.lookup f0 = some ⟨oc0, od0, .func (PySem.W.fnOf "check_teams" "check_teams" (defArgs s_check_teams) (defBody s_check_teams) (defScope s_check_teams) .none kV0 dc0 pm0 an0 cd0 ct0), sl0⟩) (c0 : PySem.W.codeIn K cd0 "check_teams" = true) (k0 : PySem.W.keepIn K (.ref f0) = true)
    (a1 : PySem.W.nsIn K mainGlobals "game" = some (some (.ref f1)))
    (l1 : K.lookup f1 = some ⟨oc1, od1, .func (PySem.W.fnOf "game" "game" (defArgs s_game) (defBody s_game) (defScope s_game) .none kV1 dc1 pm1 an1 cd1 ct1), sl1⟩) (c1 : PySem.W.codeIn K cd1 "game" = true) (k1 : PySem.W.keepIn K (.ref f1) = true)
    (a2 : PySem.W.nsIn K mainGlobals "fixtures" = some (some (.ref f2)))
    (l2 : K.lookup f2 = some ⟨oc2, od2, .func (PySem.W.fnOf "fixtures" "fixtures" (defArgs s_fixtures) (defBody s_fixtures) (defScope s_fixtures) .none kV2 dc2 pm2 an2 cd2 ct2), sl2⟩) (c2 : PySem.W.codeIn K cd2 "fixtures" = true) (k2 : PySem.W.keepIn K (.ref f2) = true)
    (a3 : PySem.W.nsIn K mainGlobals "takes_fixtures" = some (some (.ref f3)))
    (l3 : K.lookup f3 = some ⟨oc3, od3, .func (PySem.W.fnOf "takes_fixtures" "takes_fixtures" (defArgs s_takes_fixtures) (defBody s_takes_fixtures) (defScope s_takes_fixtures) .none kV3 dc3 pm3 an3 cd3 ct3), sl3⟩) (c3 : PySem.W.codeIn K cd3 "takes_fixtures" = true) (k3 : PySem.W.keepIn K (.ref f3) = true)
    (a4 : PySem.W.nsIn K mainGlobals "breaks" = some (some (.ref f4)))
    (l4 : K.lookup f4 = some ⟨oc4, od4, .func (PySem.W.fnOf "breaks" "breaks" (defArgs s_breaks) (defBody s_breaks) (defScope s_breaks) .none kV4 dc4 pm4 an4 cd4 ct4), sl4⟩) (c4 : PySem.W.codeIn K cd4 "breaks" = true) (k4 : PySem.W.keepIn K (.ref f4) = true)
    (a5 : PySem.W.nsIn K mainGlobals "_law_draws" = some (some (.ref f5)))
    (l5 : K.lookup f5 = some ⟨oc5, od5, .func (PySem.W.fnOf "_law_draws" "_law_draws" (defArgs s_u_law_draws) (defBody s_u_law_draws) (defScope s_u_law_draws) .none kV5 dc5 pm5 an5 cd5 ct5), sl5⟩) (c5 : PySem.W.codeIn K cd5 "_law_draws" = true) (k5 : PySem.W.keepIn K (.ref f5) = true)
    (a6 : PySem.W.nsIn K mainGlobals "_law_take" = some (some (.ref f6)))
    (l6 : K.lookup f6 = some ⟨oc6, od6, .func (PySem.W.fnOf "_law_take" "_law_take" (defArgs s_u_law_take) (defBody s_u_law_take) (defScope s_u_law_take) .none kV6 dc6 pm6 an6 cd6 ct6), sl6⟩) (c6 : PySem.W.codeIn K cd6 "_law_take" = true) (k6 : PySem.W.keepIn K (.ref f6) = true)
    (a7 : PySem.W.nsIn K mainGlobals "_law_same" = some (some (.ref f7)))
    (l7 : K.lookup f7 = some ⟨oc7, od7, .func (PySem.W.fnOf "_law_same" "_law_same" (defArgs s_u_law_same) (defBody s_u_law_same) (defScope s_u_law_same) .none kV7 dc7 pm7 an7 cd7 ct7), sl7⟩) (c7 : PySem.W.codeIn K cd7 "_law_same" = true) (k7 : PySem.W.keepIn K (.ref f7) = true)
    (a8 : PySem.W.nsIn K mainGlobals "_law_fixtures" = some (some (.ref f8)))
    (l8 : K.lookup f8 = some ⟨oc8, od8, .func (PySem.W.fnOf "_law_fixtures" "_law_fixtures" (defArgs s_u_law_fixtures) (defBody s_u_law_fixtures) (defScope s_u_law_fixtures) .none kV8 dc8 pm8 an8 cd8 ct8), sl8⟩) (c8 : PySem.W.codeIn K cd8 "_law_fixtures" = true) (k8 : PySem.W.keepIn K (.ref f8) = true)
    (a9 : PySem.W.nsIn K mainGlobals "_law_takes" = some (some (.ref f9)))
    (l9 : K.lookup f9 = some ⟨oc9, od9, .func (PySem.W.fnOf "_law_takes" "_law_takes" (defArgs s_u_law_takes) (defBody s_u_law_takes) (defScope s_u_law_takes) .none kV9 dc9 pm9 an9 cd9 ct9), sl9⟩) (c9 : PySem.W.codeIn K cd9 "_law_takes" = true) (k9 : PySem.W.keepIn K (.ref f9) = true)
    (a10 : PySem.W.nsIn K mainGlobals "_law_breaks" = some (some (.ref f10)))
    (l10 : K.lookup f10 = some ⟨oc10, od10, .func (PySem.W.fnOf "_law_breaks" "_law_breaks" (defArgs s_u_law_breaks) (defBody s_u_law_breaks) (defScope s_u_law_breaks) .none kV10 dc10 pm10 an10 cd10 ct10), sl10⟩) (c10 : PySem.W.codeIn K cd10 "_law_breaks" = true) (k10 : PySem.W.keepIn K (.ref f10) = true)
    (a11 : PySem.W.nsIn K mainGlobals "_law_bent" = some (some (.ref f11)))
    (l11 : K.lookup f11 = some ⟨oc11, od11, .func (PySem.W.fnOf "_law_bent" "_law_bent" (defArgs s_u_law_bent) (defBody s_u_law_bent) (defScope s_u_law_bent) .none kV11 dc11 pm11 an11 cd11 ct11), sl11⟩) (c11 : PySem.W.codeIn K cd11 "_law_bent" = true) (k11 : PySem.W.keepIn K (.ref f11) = true)
    (a12 : PySem.W.nsIn K mainGlobals "_law_is_refused" = some (some (.ref f12)))
    (l12 : K.lookup f12 = some ⟨oc12, od12, .func (PySem.W.fnOf "_law_is_refused" "_law_is_refused" (defArgs s_u_law_is_refused) (defBody s_u_law_is_refused) (defScope s_u_law_is_refused) .none kV12 dc12 pm12 an12 cd12 ct12), sl12⟩) (c12 : PySem.W.codeIn K cd12 "_law_is_refused" = true) (k12 : PySem.W.keepIn K (.ref f12) = true)
    (a13 : PySem.W.nsIn K mainGlobals "law" = some (some (.ref f13)))
    (l13 : K.lookup f13 = some ⟨oc13, od13, .func (PySem.W.fnOf "law" "law" (defArgs s_law) (defBody s_law) (defScope s_law) .none kV13 dc13 pm13 an13 (.ref cx13) ct13), sl13⟩) (c13 : PySem.W.codeIn K (.ref cx13) "law" = true) (k13 : PySem.W.keepIn K (.ref f13) = true)
    {cq13 : Value} {oq13 : Option Addr} {vq13 : Array Value} {sq13 : Array (Option Value)} (lq13 : K.lookup cx13 = some ⟨cq13, oq13, .fields vq13, sq13⟩) (tq13 : vq13[11]? = some (.ref tx13)) (hq13 : PySem.W.codeHdIn K cx13 tx13 = true) (nq13 : K.lookup tx13 = none) (eq13 : h.get? tx13 = some { cls := .none, data := .fields #[] })
    (z_tuple : PySem.W.nsIn K mainGlobals "tuple" = some none)
    (z_range : PySem.W.nsIn K mainGlobals "range" = some none)
    (z_len : PySem.W.nsIn K mainGlobals "len" = some none)
    (z_sorted : PySem.W.nsIn K mainGlobals "sorted" = some none)
    (z_list : PySem.W.nsIn K mainGlobals "list" = some none)
    (z_min : PySem.W.nsIn K mainGlobals "min" = some none)
    (z_max : PySem.W.nsIn K mainGlobals "max" = some none)
    (z_zip : PySem.W.nsIn K mainGlobals "zip" = some none)
    (z_int : PySem.W.nsIn K mainGlobals "int" = some none)
    (z_isinstance : PySem.W.nsIn K mainGlobals "isinstance" = some none)
    (z_bool : PySem.W.nsIn K mainGlobals "bool" = some none)
    (z_str : PySem.W.nsIn K mainGlobals "str" = some none)
    (z_dict : PySem.W.nsIn K mainGlobals "dict" = some none)
    (z_all : PySem.W.nsIn K mainGlobals "all" = some none)
    (z_abs : PySem.W.nsIn K mainGlobals "abs" = some none)
    (z_super : PySem.W.nsIn K mainGlobals "super" = some none) (opq : PySem.W.nsIn K cStatics "thirdparty.any" = some none) (top : (P.main.scope.names.lookup ("super" : Str)).isSome = false)
    {C_JobError : Addr} (aC_JobError : PySem.W.nsIn K mainGlobals "JobError" = some (some (.ref C_JobError)))
    (ex_JobError : PySem.W.subIn K (.ref C_JobError) (.type "BaseException") = some true) (ty_JobError : PySem.W.typeIn K (.ref C_JobError) = some (.type "type")) (is_JobError : PySem.W.isClsIn K C_JobError = true)
    {nm_JobError} {qn_JobError} {N_JobError} {bs_JobError} {bm_JobError} {sn_JobError} {sub_JobError} {ab_JobError} {col_JobError} {dd_JobError} {k0_JobError} {k1_JobError} {k2_JobError} {k3_JobError} {k5_JobError} (lC_JobError : K.lookup C_JobError = some (excClassObj nm_JobError qn_JobError C_JobError N_JobError bs_JobError bm_JobError true sn_JobError sub_JobError ab_JobError col_JobError dd_JobError k0_JobError k1_JobError k2_JobError k3_JobError k5_JobError "ValueError.__new__")) (re_JobError : PySem.HandSPX.refsVE bm_JobError = true) (sa_JobError : PySem.W.findIn K (.ref C_JobError) "__setattr__" = some (some (.builtin "object.__setattr__"))) (kC_JobError : PySem.W.keepIn K (.ref C_JobError) = true) {i_JobError : Addr} (iC_JobError : PySem.W.findIn K (.ref C_JobError) "__init__" = some (some (.ref i_JobError))) (tI_JobError : PySem.W.typeIn K (.ref i_JobError) = some (.type "function")) {oc_JobError kV_JobError doc_JobError pm_JobError ct_JobError : Value} {od_JobError an_JobError : Option Addr} {osl_JobError : Array (Option Value)} {cda_JobError cc_JobError : Addr} (lf_JobError : K.lookup i_JobError = some ⟨oc_JobError, od_JobError, .func (PySem.W.ksFn "__init__" "JobError.__init__" (defArgs (inClass (topS 2) 0)) (defBody (inClass (topS 2) 0)) (defScope (inClass (topS 2) 0)) .none kV_JobError doc_JobError pm_JobError an_JobError (.ref cda_JobError) ct_JobError cc_JobError), osl_JobError⟩) (cd_JobError : PySem.W.codeIn K (.ref cda_JobError) "JobError.__init__" = true) {cl1_JobError : Value} {od1_JobError : Option Addr} {vs1_JobError : Array Value} {sl1_JobError : Array (Option Value)} {fi_JobError : Str} {tf_JobError : Tok} (lcd_JobError : K.lookup cda_JobError = some ⟨cl1_JobError, od1_JobError, .fields vs1_JobError, sl1_JobError⟩) (v2_JobError : vs1_JobError[2]? = some (.str fi_JobError tf_JobError)) (pf_JobError : (P.main.file == fi_JobError) = true) {cl2_JobError : Value} {od2_JobError : Option Addr} {sl2_JobError : Array (Option Value)} (lcc_JobError : K.lookup cc_JobError = some ⟨cl2_JobError, od2_JobError, .cell (some (.ref C_JobError)), sl2_JobError⟩) (sup_JobError : PySem.W.ks_superIn K C_JobError C_JobError "__init__" = some (some (.builtin "ValueError.__init__"))) (sub_JobError : PySem.W.subIn K (.ref C_JobError) (.type "ValueError") = some true) (mro_JobError : PySem.W.mroIn K C_JobError (.ref C_JobError) = some true) (ga_JobError : PySem.W.findIn K (.ref C_JobError) "__getattribute__" = some (some (.builtin "BaseException.__getattribute__"))) (gg_JobError : PySem.W.findIn K (.ref C_JobError) "__getattr__" = some none) (hdC_JobError : PySem.W.hasDictIn K C_JobError = true)
    (nf_JobError_code : PySem.W.findIn K (.ref C_JobError) "code" = some none)
    (sb_JobError_JobError : PySem.W.subIn K (.ref C_JobError) (.ref C_JobError) = some true)
    {t_MOST_TEAMS : Tok} (g_MOST_TEAMS : PySem.W.nsIn K mainGlobals "MOST_TEAMS" = some (some (.int (20) t_MOST_TEAMS))) :
    ∃ (fd : FuncData) (cs : List (Addr × Addr)), (∀ p ∈ cs, h.get? p.2 = some { cls := .none, data := .fields #[] }) ∧ (∀ p ∈ cs, K.lookup p.2 = none) ∧ (∀ p ∈ cs, PySem.W.CodeHd h p.1 p.2) ∧ (∀ (s : Shared) (v : Value), BindsTo s fd ⟨[v], []⟩ [("script", v)]) ∧ ∀ base : Heap, K.In base → base.Ns mainGlobals mg → (∀ p ∈ cs, LamX.TabB base mg p.1 p.2) → FnOk P w K mg base (L2.CX P w) 63 fa fd ["script"] (spLawT K (cs.map (·.2))) := by
  have e := hfa.symm.trans (PySem.W.mg_of X G a13)
  cases e
  letI : TN := ⟨[tx13], fun P => if P = tx13 then (envOfC "law" (defScope s_law) 0 fa .none).qual ++ "<lambda>" else default⟩
  let T : Txt P K mg := { a_check_teams := f0, e_check_teams := _, F_check_teams := fun_mk l0 c0 k0, b_check_teams := (fun_mk (st := s_check_teams) l0 c0 k0).binds (fun _ _ _ _ _ _ us hl => match us, hl with | [_], _ => rfl), d_check_teams := PySem.W.mg_of X G a0, a_game := f1, e_game := _, F_game := fun_mk l1 c1 k1, b_game := (fun_mk (st := s_game) l1 c1 k1).binds (fun _ _ _ _ _ _ us hl => match us, hl with | [_, _, _], _ => rfl), d_game := PySem.W.mg_of X G a1, a_fixtures := f2, e_fixtures := _, F_fixtures := fun_mk l2 c2 k2, b_fixtures := (fun_mk (st := s_fixtures) l2 c2 k2).binds (fun _ _ _ _ _ _ us hl => match us, hl with | [_], _ => rfl), d_fixtures := PySem.W.mg_of X G a2, a_takes_fixtures := f3, e_takes_fixtures := _, F_takes_fixtures := fun_mk l3 c3 k3, b_takes_fixtures := (fun_mk (st := s_takes_fixtures) l3 c3 k3).binds (fun _ _ _ _ _ _ us hl => match us, hl with | [_, _], _ => rfl), d_takes_fixtures := PySem.W.mg_of X G a3, a_breaks := f4, e_breaks := _, F_breaks := fun_mk l4 c4 k4, b_breaks := (fun_mk (st := s_breaks) l4 c4 k4).binds (fun _ _ _ _ _ _ us hl => match us, hl with | [_, _], _ => rfl), d_breaks := PySem.W.mg_of X G a4, a_u_law_draws := f5, e_u_law_draws := _, F_u_law_draws := fun_mk l5 c5 k5, b_u_law_draws := (fun_mk (st := s_u_law_draws) l5 c5 k5).binds (fun _ _ _ _ _ _ us hl => match us, hl with | [_, _], _ => rfl), d_u_law_draws := PySem.W.mg_of X G a5, a_u_law_take := f6, e_u_law_take := _, F_u_law_take := fun_mk l6 c6 k6, b_u_law_take := (fun_mk (st := s_u_law_take) l6 c6 k6).binds (fun _ _ _ _ _ _ us hl => match us, hl with | [_, _], _ => rfl), d_u_law_take := PySem.W.mg_of X G a6, a_u_law_same := f7, e_u_law_same := _, F_u_law_same := fun_mk l7 c7 k7, b_u_law_same := (fun_mk (st := s_u_law_same) l7 c7 k7).binds (fun _ _ _ _ _ _ us hl => match us, hl with | [_, _], _ => rfl), d_u_law_same := PySem.W.mg_of X G a7, a_u_law_fixtures := f8, e_u_law_fixtures := _, F_u_law_fixtures := fun_mk l8 c8 k8, b_u_law_fixtures := (fun_mk (st := s_u_law_fixtures) l8 c8 k8).binds (fun _ _ _ _ _ _ us hl => match us, hl with | [_], _ => rfl), d_u_law_fixtures := PySem.W.mg_of X G a8, a_u_law_takes := f9, e_u_law_takes := _, F_u_law_takes := fun_mk l9 c9 k9, b_u_law_takes := (fun_mk (st := s_u_law_takes) l9 c9 k9).binds (fun _ _ _ _ _ _ us hl => match us, hl with | [_, _], _ => rfl), d_u_law_takes := PySem.W.mg_of X G a9, a_u_law_breaks := f10, e_u_law_breaks := _, F_u_law_breaks := fun_mk l10 c10 k10, b_u_law_breaks := (fun_mk (st := s_u_law_breaks) l10 c10 k10).binds (fun _ _ _ _ _ _ us hl => match us, hl with | [_, _], _ => rfl), d_u_law_breaks := PySem.W.mg_of X G a10, a_u_law_bent := f11, e_u_law_bent := _, F_u_law_bent := fun_mk l11 c11 k11, b_u_law_bent := (fun_mk (st := s_u_law_bent) l11 c11 k11).binds (fun _ _ _ _ _ _ us hl => match us, hl with | [_, _], _ => rfl), d_u_law_bent := PySem.W.mg_of X G a11, a_u_law_is_refused := f12, e_u_law_is_refused := _, F_u_law_is_refused := fun_mk l12 c12 k12, b_u_law_is_refused := (fun_mk (st := s_u_law_is_refused) l12 c12 k12).binds (fun _ _ _ _ _ _ us hl => match us, hl with | [_], _ => rfl), d_u_law_is_refused := PySem.W.mg_of X G a12, a_law := fa, e_law := _, F_law := fun_mk l13 c13 k13, b_law := (fun_mk (st := s_law) l13 c13 k13).binds (fun _ _ _ _ _ _ us hl => match us, hl with | [_], _ => rfl), c_law := cx13, t_law := tx13, FC_law := ⟨⟨_, _, _, _, _, _, _, _, rfl, l13, c13⟩⟩, d_law := PySem.W.mg_of X G a13, C_JobError := C_JobError, c_JobError := PySem.W.mg_of X G aC_JobError, nf_JobError_code := nf_JobError_code, oex_JobError := ⟨⟨_, _, _, _, _, _, _, _, _, _, _, _, _, _, _, lC_JobError, re_JobError⟩, sa_JobError, ex_JobError, ty_JobError, kC_JobError⟩, i_JobError := i_JobError, e_JobError := _, iC_JobError := iC_JobError, tI_JobError := tI_JobError, xf_JobError := ⟨ga_JobError, gg_JobError, ex_JobError, hdC_JobError⟩, ok_JobError := fun w base => err1R (k := 0) sc_JobError ⟨⟨⟨_, _, _, _, _, _, _, _, _, _, _, _, _, _, _, lC_JobError, re_JobError⟩, sa_JobError, ex_JobError, ty_JobError, kC_JobError⟩, ⟨_, _, _, _, _, _, lcd_JobError, v2_JobError, pf_JobError⟩, ⟨_, _, _, lf_JobError⟩, ⟨_, _, _, lcc_JobError⟩, top, opq, sup_JobError, sub_JobError, mro_JobError⟩ cd_JobError rfl rfl (PySem.W.mg_none_of X G z_super) nf_JobError_code (by decide) (by decide) (by decide), b_JobError := .all (fun us hl => match us, hl with | [_, _], _ => rfl), em_JobError_JobError := exm_mk ex_JobError is_JobError ty_JobError sb_JobError_JobError, z_tuple := PySem.W.mg_none_of X G z_tuple, z_range := PySem.W.mg_none_of X G z_range, z_len := PySem.W.mg_none_of X G z_len, z_sorted := PySem.W.mg_none_of X G z_sorted, z_list := PySem.W.mg_none_of X G z_list, z_min := PySem.W.mg_none_of X G z_min, z_max := PySem.W.mg_none_of X G z_max, z_zip := PySem.W.mg_none_of X G z_zip, z_int := PySem.W.mg_none_of X G z_int, z_isinstance := PySem.W.mg_none_of X G z_isinstance, z_bool := PySem.W.mg_none_of X G z_bool, z_str := PySem.W.mg_none_of X G z_str, z_dict := PySem.W.mg_none_of X G z_dict, z_all := PySem.W.mg_none_of X G z_all, z_abs := PySem.W.mg_none_of X G z_abs, t_MOST_TEAMS := t_MOST_TEAMS, g_MOST_TEAMS := PySem.W.mg_of X G g_MOST_TEAMS }
  refine ⟨T.e_law, [(cx13, tx13)], fun p hp => by
    simp only [List.mem_cons, List.mem_nil_iff, or_false] at hp
    rcases hp with rfl
    · exact eq13, fun p hp => by
    simp only [List.mem_cons, List.mem_nil_iff, or_false] at hp
    rcases hp with rfl
    · exact nq13, fun p hp => by
    simp only [List.mem_cons, List.mem_nil_iff, or_false] at hp
    rcases hp with rfl
    · exact PySem.W.codeHd_of_K X hq13, fun s v => .of_eq rfl, fun base _ _ hB => ?_⟩
  have ht : ∀ v : Value, (if tx13 = tx13 then (envOfC "law" (defScope s_law) 0 fa .none).qual ++ "<lambda>" else default) = (envOfC "law" (defScope s_law) 0 fa .none).qual ++ "<lambda>" := fun _ => if_pos rfl
  exact law_okL (ok_law T (hB (cx13, tx13) (by simp)) (ht .none)) vc_law fun P h => h
end K62
open PySem PySem.W PyProof.Rows
set_option maxRecDepth 100000 in
set_option maxHeartbeats 0 in
theorem PySem.Challenge.cw_foreverdays_k62_fixtures_holds : PySem.Challenge.rw_foreverdays_k62_fixtures.Holds := by
  w_on; o_law; k_head; (case hw => w_witness2)
  k_fill
  refine DL.walkL (l := PySem.Challenge.rw_foreverdays_k62_fixtures) (k := 63) rfl rfl ⟨rfl, by decide, by decide⟩ (fun w h Y => PySem.W.km_in_of Y) ?F
  case F =>
    intro w mg fa h Y KX G hmg
    refine' K62.all_mk KX G hmg ?a0 ?l0 ?c0 ?k0 ?a1 ?l1 ?c1 ?k1 ?a2 ?l2 ?c2 ?k2 ?a3 ?l3 ?c3 ?k3 ?a4 ?l4 ?c4 ?k4 ?a5 ?l5 ?c5 ?k5 ?a6 ?l6 ?c6 ?k6 ?a7 ?l7 ?c7 ?k7 ?a8 ?l8 ?c8 ?k8 ?a9 ?l9 ?c9 ?k9 ?a10 ?l10 ?c10 ?k10 ?a11 ?l11 ?c11 ?k11 ?a12 ?l12 ?c12 ?k12 ?a13 ?l13 ?c13 ?k13 ?lq13 ?tq13 ?hq13 ?nq13 ?eq13 ?z_tuple ?z_range ?z_len ?z_sorted ?z_list ?z_min ?z_max ?z_zip ?z_int ?z_isinstance ?z_bool ?z_str ?z_dict ?z_all ?z_abs ?z_super ?opq ?top ?aC_JobError ?ex_JobError ?ty_JobError ?is_JobError ?lC_JobError ?re_JobError ?sa_JobError ?kC_JobError ?iC_JobError ?tI_JobError ?lf_JobError ?cd_JobError ?lcd_JobError ?v2_JobError ?pf_JobError ?lcc_JobError ?sup_JobError ?sub_JobError ?mro_JobError ?ga_JobError ?gg_JobError ?hdC_JobError ?nf_JobError_code ?sb_JobError_JobError ?g_MOST_TEAMS
    (case a0 => k_is)
    (case l0 => k_is)
    (case c0 => k_is)
    (case k0 => k_is)
    (case a1 => k_is)
    (case l1 => k_is)
    (case c1 => k_is)
    (case k1 => k_is)
    (case a2 => k_is)
    (case l2 => k_is)
    (case c2 => k_is)
    (case k2 => k_is)
    (case a3 => k_is)
    (case l3 => k_is)
    (case c3 => k_is)
    (case k3 => k_is)
    (case a4 => k_is)
    (case l4 => k_is)
    (case c4 => k_is)
    (case k4 => k_is)
    (case a5 => k_is)
    (case l5 => k_is)
    (case c5 => k_is)
    (case k5 => k_is)
    (case a6 => k_is)
    (case l6 => k_is)
    (case c6 => k_is)
    (case k6 => k_is)
    (case a7 => k_is)
    (case l7 => k_is)
    (case c7 => k_is)
    (case k7 => k_is)
    (case a8 => k_is)
    (case l8 => k_is)
    (case c8 => k_is)
    (case k8 => k_is)
    (case a9 => k_is)
    (case l9 => k_is)
    (case c9 => k_is)
    (case k9 => k_is)
    (case a10 => k_is)
    (case l10 => k_is)
    (case c10 => k_is)
    (case k10 => k_is)
    (case a11 => k_is)
    (case l11 => k_is)
    (case c11 => k_is)
    (case k11 => k_is)
    (case a12 => k_is)
    (case l12 => k_is)
    (case c12 => k_is)
    (case k12 => k_is)
    (case a13 => k_is)
    (case l13 => k_is)
    (case c13 => k_is)
    (case k13 => k_is)
    (case lq13 => k_is)
    (case tq13 => rfl)
    (case hq13 => first | kernel_rfl | decide +kernel | rfl)
    (case nq13 => first | k_is | kernel_rfl | rfl)
    (case eq13 => exact PySem.W.km_tabs_of Y _ (by k_mem))
    (case z_tuple => k_is)
    (case z_range => k_is)
    (case z_len => k_is)
    (case z_sorted => k_is)
    (case z_list => k_is)
    (case z_min => k_is)
    (case z_max => k_is)
    (case z_zip => k_is)
    (case z_int => k_is)
    (case z_isinstance => k_is)
    (case z_bool => k_is)
    (case z_str => k_is)
    (case z_dict => k_is)
    (case z_all => k_is)
    (case z_abs => k_is)
    (case z_super => k_is)
    (case opq => k_is)
    (case top => first | rfl | decide +kernel)
    (case aC_JobError => k_is)
    (case ex_JobError => k_is)
    (case ty_JobError => k_is)
    (case is_JobError => k_is)
    (case lC_JobError => k_is)
    (case re_JobError => first | rfl | decide +kernel)
    (case sa_JobError => k_is)
    (case kC_JobError => k_is)
    (case iC_JobError => k_is)
    (case tI_JobError => k_is)
    (case lf_JobError => k_is)
    (case cd_JobError => k_is)
    (case lcd_JobError => k_is)
    (case v2_JobError => rfl)
    (case pf_JobError => first | rfl | decide +kernel)
    (case lcc_JobError => k_is)
    (case sup_JobError => ks_is)
    (case sub_JobError => k_is)
    (case mro_JobError => k_is)
    (case ga_JobError => k_is)
    (case gg_JobError => k_is)
    (case hdC_JobError => k_is)
    (case nf_JobError_code => k_is)
    (case sb_JobError_JobError => k_is)
    (case g_MOST_TEAMS => k_is)
