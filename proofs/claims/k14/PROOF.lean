import PyProof.Rows.All
import Wide.All
import OpenK.AllK
import Wide.FinOn
import HandS.ForMost
import HandS.ForExc
import HandS.Wide
import HandS.TupAny
import HandS.TupLen
import HandS.Style
import HandS.Flow
import HandS.SortInts
import HandS.IsInst
import HandS.Conv
import HandS.EndBits
import HandS.NoneIn
import HandS.TupMul
import HandS.Deep
import HandS.Iter
import HandS.Zip
import HandS.Rev
import HandS.CallSlots
import HandS.SortRule
import HandS.More
import HandS.Gcd
import HandS.Text
import HandS.StrMore
import HandS.StrSplit
import PyProof.ReprRoads
import HandS.ExcInit
import HandS.FStr
import KE.KExcSuper
import HandS.TryOnly
import HandS.ExcField
import PyProof.StrLawsRepr
import PyProof.FString3
import PyProof.Rows.StrIntSpec
import HandS.Star
import HandS.Lambda
import PyProof.ZipIter
import PyProof.StrLoop
import PyProof.StrWalks
import HandS.Zip0
import PySem.Challenge.RW_foreverdays_k14_quantities_of_the_sky
set_option Elab.async false
set_option linter.all false
set_option maxRecDepth 100000
/-! DCore: deep data D, environments by slots, and the transformers that a def's body is read as. No heap, no program: plain Lean. -/
namespace DL
open PySem

abbrev Key := Sum Int Str

/-- deep data -/
inductive D where
  | non
  | bl (b : Bool)
  | int (i : Int)
  | str (x : Str)
  | tup (l : List D)
  | lst (l : List D)
  | dk (l : List (Key × D))
  | dt (l : List (List Key × D))
  | ins (c : String) (l : List (Str × D))
  /-- the drawing state of a law; the script; a class or def -/
  | st
  | scr (ns : List Int)
  | fn (x : String)

/-- a slot: nothing known, frozen data, a list or dict of the def's own that may still change -/
inductive Sl where
  | no
  | v (d : D)
  | o (d : D)

abbrev Env := List Sl
structure Err where
  cls : String
  fs : List (Str × D)
abbrev EK := Err → Env → Prop
abbrev DK := D → Prop
abbrev DT := EK → Env → DK → Prop
abbrev DB := EK → Env → (Bool → Prop) → Prop
abbrev DA := EK → Env → (List D → Prop) → Prop
abbrev DI := EK → Env → (List D → Prop) → Prop
structure DE where
  nx : Env → Prop
  rt : DK
  bk : Env → Prop := fun _ => False
  ct : Env → Prop := fun _ => False
  /-- what is given, where the own slots still count -/
  ro : D → Env → Prop := fun _ _ => False
abbrev DS := EK → DE → Env → Prop
abbrev DG := D → Env → (Env → Prop) → Prop
abbrev DGs := List D → Env → (Env → Prop) → Prop
abbrev DO := EK → Env → (Option Int → Prop) → Prop
/-- what a def is read as: arguments, what is wanted of the value, of an error -/
abbrev DF := List D → DK → (Err → Prop) → Prop

/-! ### limits of the model -/
def lineMax : Nat := 16777216

/-! ### operations on data -/
def eqK (a b : Key) : Bool := decide (a = b)
mutual
def eqD : D → D → Bool
  | .non, .non => true
  | .bl a, .bl b => a == b
  | .bl a, .int j => (if a then 1 else 0) == j
  | .int i, .bl b => i == (if b then 1 else 0)
  | .int i, .int j => i == j
  | .str x, .str y => x == y
  | .tup xs, .tup ys => eqDs xs ys
  | .lst xs, .lst ys => eqDs xs ys
  | _, _ => false
def eqDs : List D → List D → Bool
  | [], [] => true
  | x :: xs, y :: ys => eqD x y && eqDs xs ys
  | _, _ => false
end
mutual
/-- data whose == is known here: None, bools, ints, texts, tuples and lists of these, not too deep -/
def okD : Nat → D → Bool
  | _, .non => true
  | _, .bl _ => true
  | _, .int _ => true
  | _, .str x => x.cps.all (· < 0x110000)
  | n + 1, .tup xs => okDs n xs
  | n + 1, .lst xs => okDs n xs
  | _, _ => false
def okDs : Nat → List D → Bool
  | _, [] => true
  | n, x :: xs => okD n x && okDs n xs
end
def isFlat : D → Bool
  | .non => true
  | .bl _ => true
  | .int _ => true
  | .str _ => true
  | _ => false

def oAdd (x y : D) (Q : DK) : Prop := match x, y with
  | .int i, .int j => Q (.int (i + j))
  | .str a, .str b => a.length + b.length ≤ lineMax ∧ Q (.str (a ++ b))
  | .lst a, .lst b => a.length + b.length ≤ lineMax ∧ Q (.lst (a ++ b))
  | .tup a, .tup b => a.length + b.length ≤ lineMax ∧ Q (.tup (a ++ b))
  | _, _ => False
def oSub (x y : D) (Q : DK) : Prop := match x, y with
  | .int i, .int j => Q (.int (i - j))
  | _, _ => False
/-- a factor below 2^64, or both together below a million bits -/
def mulOk (i j : Int) : Prop := i.natAbs.log2 + j.natAbs.log2 < 1000000
def oMul (x y : D) (Q : DK) : Prop := match x, y with
  | .int i, .int j => mulOk i j ∧ Q (.int (i * j))
  | .lst a, .int k => -(2 ^ 63) ≤ k ∧ k < 2 ^ 63 ∧ a.length * k.toNat ≤ lineMax ∧ Q (.lst (List.replicate k.toNat a).flatten)
  | .tup a, .int k => -(2 ^ 63) ≤ k ∧ k ≤ 1000 ∧ a.length ≤ 1000 ∧ Q (.tup (List.replicate k.toNat a).flatten)
  | _, _ => False
def divOk (j : Int) : Prop := 0 < j ∧ j.natAbs.log2 < 9000
def oDiv (x y : D) (Q : DK) : Prop := match x, y with
  | .int i, .int j => divOk j ∧ Q (.int (i / j))
  | _, _ => False
def oMod (x y : D) (Q : DK) : Prop := match x, y with
  | .int i, .int j => 0 < j ∧ Q (.int (i % j))
  | _, _ => False
def oPow (x y : D) (Q : DK) : Prop := match x, y with
  | .int i, .int j => (0 ≤ j ∧ j ≤ 1000000 ∧ i.natAbs < 2 ^ 64) ∧ Q (.int (i ^ j.toNat))
  | _, _ => False
def oNeg (x : D) (Q : DK) : Prop := match x with
  | .int i => Q (.int (-i))
  | _ => False
def oEq (x y : D) (Q : DK) : Prop := okD 60 x = true ∧ okD 60 y = true ∧ Q (.bl (eqD x y))
def oNe (x y : D) (Q : DK) : Prop := okD 60 x = true ∧ okD 60 y = true ∧ Q (.bl (!eqD x y))
def oLt (x y : D) (Q : DK) : Prop := match x, y with
  | .int i, .int j => Q (.bl (decide (i < j)))
  | .str a, .str b => Q (.bl (decide (a.cps.toList < b.cps.toList)))
  | _, _ => False
def oLe (x y : D) (Q : DK) : Prop := match x, y with
  | .int i, .int j => Q (.bl (decide (i ≤ j)))
  | .str a, .str b => Q (.bl (!decide (b.cps.toList < a.cps.toList)))
  | _, _ => False
def oGt (x y : D) (Q : DK) : Prop := match x, y with
  | .int i, .int j => Q (.bl (decide (j < i)))
  | .str a, .str b => Q (.bl (decide (b.cps.toList < a.cps.toList)))
  | _, _ => False
def oGe (x y : D) (Q : DK) : Prop := match x, y with
  | .int i, .int j => Q (.bl (decide (j ≤ i)))
  | .str a, .str b => Q (.bl (!decide (a.cps.toList < b.cps.toList)))
  | _, _ => False
def isNon : D → Bool
  | .non => true
  | _ => false
def oIsN (x : D) (Q : DK) : Prop := Q (.bl (isNon x))
def oNotN (x : D) (Q : DK) : Prop := Q (.bl (!isNon x))
def oIs (x y : D) (Q : DK) : Prop := isNon y = true ∧ oIsN x Q
def oIsNot (x y : D) (Q : DK) : Prop := isNon y = true ∧ oNotN x Q
def oAddI (x y : D) (Q : DK) : Prop := match x, y with
  | .int i, .int j => Q (.int (i + j))
  | _, _ => False
def inD (x : D) (xs : List D) : Bool := xs.any fun y => eqD y x
/-- keys -/
def keyOf : D → Option Key
  | .int i => some (.inl i)
  | .str x => some (.inr x)
  | _ => none
def keysOf : List D → Option (List Key)
  | [] => some []
  | d :: r => match keyOf d, keysOf r with
    | some k, some ks => some (k :: ks)
    | _, _ => none
def dKey : Key → D
  | .inl i => .int i
  | .inr x => .str x
def lookD {κ : Type} [DecidableEq κ] (kvs : List (κ × D)) (k : κ) : Option D := (kvs.find? fun kv => decide (kv.1 = k)).map (·.2)
/-- in its place, or at the end -/
def putD {κ : Type} [DecidableEq κ] (kvs : List (κ × D)) (k : κ) (v : D) : List (κ × D) :=
  if (kvs.any fun kv => decide (kv.1 = k)) = true then kvs.map (fun kv => if kv.1 = k then (kv.1, v) else kv) else kvs ++ [(k, v)]
def oIn (x y : D) (Q : DK) : Prop := match y with
  | .lst xs => okD 60 x = true ∧ okDs 59 xs = true ∧ Q (.bl (inD x xs))
  | .tup xs => ((isFlat x = true ∧ xs.all isFlat = true) ∨ (okD 60 x = true ∧ okDs 59 xs = true)) ∧ Q (.bl (inD x xs))
  | .dk kvs => match keyOf x with
    | some k => Q (.bl (lookD kvs k).isSome)
    | none => False
  | _ => False
def neg1 (Q : DK) : DK := fun d => match d with
  | .bl b => Q (.bl (!b))
  | _ => False
def oNotIn (x y : D) (Q : DK) : Prop := oIn x y (neg1 Q)
/-- the place that an index means -/
def ixN (n : Nat) (i : Int) : Option Nat := if 0 ≤ i then (if i < n then some i.toNat else none) else if -(n : Int) ≤ i then some (i + n).toNat else none
def atI {α : Type} (xs : List α) (i : Int) : Option α := (ixN xs.length i).bind fun j => xs[j]?
def oGet (o : Option D) (Q : DK) : Prop := match o with
  | some d => Q d
  | none => False
def oIx (x y : D) (Q : DK) : Prop := match x, y with
  | .lst xs, .int i => oGet (atI xs i) Q
  | .tup xs, .int i => oGet (atI xs i) Q
  | .str z, .int i => z.length ≤ lineMax ∧ oGet ((atI z.cps.toList i).map fun c => .str ⟨#[c]⟩) Q
  | .dk kvs, y => match keyOf y with
    | some k => oGet (lookD kvs k) Q
    | none => False
  | _, _ => False
/-- the cut of a slice -/
def sIx (n d : Nat) : Option Int → Nat
  | none => d
  | some i => if i < 0 then (i + n).toNat else min i.toNat n
def cutL {α : Type} (xs : List α) (lo hi : Option Int) : List α := (xs.drop (sIx xs.length 0 lo)).take (sIx xs.length xs.length hi - sIx xs.length 0 lo)
def oCut (x : D) (lo hi : Option Int) (Q : DK) : Prop := match x with
  | .lst xs => Q (.lst (cutL xs lo hi))
  | .tup xs => Q (.tup (cutL xs lo hi))
  | .str z => z.length ≤ lineMax ∧ Q (.str ⟨(cutL z.cps.toList lo hi).toArray⟩)
  | _ => False

/-! ### expressions -/
def dVar (i : Nat) : DT := fun _ ρ Q => match ρ[i]? with
  | some (.v d) => Q d
  | _ => False
def dC (d : D) : DT := fun _ _ Q => Q d
def dOp (f : D → D → DK → Prop) (a b : DT) : DT := fun E ρ Q => a E ρ fun x => b E ρ fun y => f x y Q
def dUn (f : D → DK → Prop) (a : DT) : DT := fun E ρ Q => a E ρ fun x => f x Q
/-- a < b < c -/
def dChain (f g : D → D → DK → Prop) (a b c : DT) : DT := fun E ρ Q => a E ρ fun x => b E ρ fun y => f x y fun z => match z with
  | .bl k => if k = true then c E ρ fun u => g y u Q else Q (.bl false)
  | _ => False
def aNil : DA := fun _ _ Q => Q []
def aCons (a : DT) (r : DA) : DA := fun E ρ Q => a E ρ fun x => r E ρ fun xs => Q (x :: xs)
def dTup (a : DA) : DT := fun E ρ Q => a E ρ fun xs => xs.length ≤ lineMax ∧ Q (.tup xs)
def dLst (a : DA) : DT := fun E ρ Q => a E ρ fun xs => xs.length ≤ lineMax ∧ Q (.lst xs)
/-- what a def gives, and all that follows from it -/
def up (W : DF) : DF := fun ds Q E => ∃ Q' E', W ds Q' E' ∧ (∀ d, Q' d → Q d) ∧ ∀ e, E' e → E e
theorem up.of {W : DF} {ds : List D} {Q : DK} {E : Err → Prop} (h : W ds Q E) : up W ds Q E := ⟨Q, E, h, fun _ q => q, fun _ q => q⟩
theorem up.mono {W : DF} {ds : List D} {Q Q' : DK} {E E' : Err → Prop} (h : up W ds Q E) (hq : ∀ d, Q d → Q' d) (he : ∀ e, E e → E' e) : up W ds Q' E' := by
  obtain ⟨Q1, E1, h, a, b⟩ := h
  exact ⟨Q1, E1, h, fun d q => hq d (a d q), fun e q => he e (b e q)⟩
/-- a recursive def, by the depth of its calls -/
def upN (G : Nat → DF) (N : Nat) : DF := fun ds Q E => ∃ n, n ≤ N ∧ G n ds Q E
def dCall (W : DF) (a : DA) : DT := fun E ρ Q => a E ρ fun xs => up W xs Q fun e => E e ρ
/-- a call of a built-in by values -/
def dBlt (f : List D → DK → Prop) (a : DA) : DT := fun E ρ Q => a E ρ fun xs => f xs Q
def bT (a : DT) : DB := fun E ρ Q => a E ρ fun x => match x with
  | .bl b => Q b
  | _ => False
def truthD (x : D) (Q : Bool → Prop) : Prop := match x with
  | .bl b => Q b
  | .non => Q false
  | .int i => Q (i != 0)
  | .str z => z.length ≤ lineMax ∧ Q (z.length != 0)
  | .lst xs => Q (!xs.isEmpty)
  | .tup xs => Q (!xs.isEmpty)
  | .dk kvs => Q (!kvs.isEmpty)
  | _ => False
def bTruth (a : DT) : DB := fun E ρ Q => a E ρ fun x => truthD x Q
def bAnd (a b : DB) : DB := fun E ρ Q => a E ρ fun c => if c = true then b E ρ Q else Q false
def bOr (a b : DB) : DB := fun E ρ Q => a E ρ fun c => if c = true then Q true else b E ρ Q
def bNot (a : DB) : DB := fun E ρ Q => a E ρ fun c => Q (!c)
def dAndV (a b : DT) : DT := fun E ρ Q => a E ρ fun x => match x with
  | .bl c => if c = true then b E ρ Q else Q (.bl false)
  | _ => False
def dOrV (a b : DT) : DT := fun E ρ Q => a E ρ fun x => match x with
  | .bl c => if c = true then Q (.bl true) else b E ρ Q
  | _ => False
def dNotV (a : DT) : DT := fun E ρ Q => a E ρ fun x => match x with
  | .bl c => Q (.bl (!c))
  | _ => False
def dIf (c : DB) (a b : DT) : DT := fun E ρ Q => c E ρ fun k => if k = true then a E ρ Q else b E ρ Q
def oN : DO := fun _ _ Q => Q none
def oS (a : DT) : DO := fun E ρ Q => a E ρ fun x => match x with
  | .int i => Q (some i)
  | _ => False
def dSlice (a : DT) (lo hi : DO) : DT := fun E ρ Q => a E ρ fun x => lo E ρ fun l => hi E ρ fun h => oCut x l h Q

/-! ### what is walked -/
def rng (lo : Int) (n : Nat) : List D := (List.range n).map fun k => .int (lo + (k : Nat))
def rngC (lo c : Int) (n : Nat) : List D := (List.range n).map fun k => .int (lo + (k : Nat) * c)
def iSeq (a : DT) : DI := fun E ρ Q => a E ρ fun x => match x with
  | .lst xs => Q xs
  | .tup xs => Q xs
  | .str z => Q (z.cps.toList.map fun c => .str ⟨#[c]⟩)
  | _ => False
def iRng1 (a : DA) : DI := fun E ρ Q => a E ρ fun xs => match xs with
  | [.int j] => -(2 ^ 62) ≤ j ∧ j < 2 ^ 62 ∧ Q (rng 0 j.toNat)
  | _ => False
def iRng2 (a : DA) : DI := fun E ρ Q => a E ρ fun xs => match xs with
  | [.int i, .int j] => (-(2 ^ 62) ≤ i ∧ i < 2 ^ 62 ∧ -(2 ^ 62) ≤ j ∧ j < 2 ^ 62) ∧ Q (rng i (j - i).toNat)
  | _ => False

/-- enumerate, zip, reversed -/
def enumD (xs : List D) : List D := xs.zipIdx.map fun p => .tup [.int (p.2 : Nat), p.1]
def zipD (xs ys : List D) : List D := (xs.zip ys).map fun p => .tup [p.1, p.2]
def iEnum (a : DA) : DI := fun E ρ Q => a E ρ fun xs => match xs with
  | [.lst xs] => Q (enumD xs)
  | _ => False
def iZip (a : DA) : DI := fun E ρ Q => a E ρ fun xs => match xs with
  | [.lst xs, .lst ys] => Q (zipD xs ys)
  | [.tup xs, .tup ys] => Q (zipD xs ys)
  | _ => False
def iRev (a : DT) : DI := fun E ρ Q => a E ρ fun x => match x with
  | .lst xs => Q xs.reverse
  | .tup xs => Q xs.reverse
  | _ => False

/-! ### targets -/
def gName (i : Nat) : DG := fun d ρ Q => Q (ρ.set i (.v d))
def gNil : DGs := fun xs ρ Q => xs = [] ∧ Q ρ
def gCons (g : DG) (r : DGs) : DGs := fun xs ρ Q => match xs with
  | x :: ys => g x ρ fun ρ' => r ys ρ' Q
  | [] => False
def gTup (g : DGs) : DG := fun d ρ Q => match d with
  | .tup xs => g xs ρ Q
  | .lst xs => g xs ρ Q
  | _ => False

/-! ### statements -/
def sNext : DS := fun _ K ρ => K.nx ρ
def sSeq (a b : DS) : DS := fun E K ρ => a E { K with nx := b E K } ρ
def sBreak : DS := fun _ K ρ => K.bk ρ
def sCont : DS := fun _ K ρ => K.ct ρ
def sDrop (a : DT) : DS := fun E K ρ => a E ρ fun _ => K.nx ρ
def sRet (a : DT) : DS := fun E K ρ => a E ρ K.rt
def sRetN : DS := fun _ K _ => K.rt .non
/-- return e, where the own slots still count -/
def sRetX (a : DT) : DS := fun E K ρ => a E ρ fun d => K.ro d ρ
def sRetNX : DS := fun _ K ρ => K.ro .non ρ
def sIf (c : DB) (a b : DS) : DS := fun E K ρ => c E ρ fun k => if k = true then a E K ρ else b E K ρ
def sAsg (a : DT) (g : DG) : DS := fun E K ρ => a E ρ fun x => g x ρ K.nx
def sSet (i : Nat) (a : DT) : DS := fun E K ρ => a E ρ fun x => K.nx (ρ.set i (.v x))
/-- a new list (or dict) of the def's own, kept to be changed -/
def sOwn (i : Nat) (a : DT) : DS := fun E K ρ => a E ρ fun x => K.nx (ρ.set i (.o x))
/-- what slot i holds changes no more -/
def frz (i : Nat) (ρ : Env) : Env := match ρ[i]? with
  | some (.o d) => ρ.set i (.v d)
  | _ => ρ
def sFrz (i : Nat) (a : DS) : DS := fun E K ρ => a E K (frz i ρ)
/-- the slots js are forgotten -/
def fgt (js : List Nat) (ρ : Env) : Env := js.foldl (fun ρ j => ρ.set j .no) ρ
def sFgt (js : List Nat) (a : DS) : DS := fun E K ρ => a E K (fgt js ρ)
def sPar (i j : Nat) (a : DA) : DS := fun E K ρ => a E ρ fun xs => match xs with
  | [x, y] => K.nx ((ρ.set i (.v x)).set j (.v y))
  | _ => False
def sAug (i : Nat) (f : D → D → DK → Prop) (a : DT) : DS := fun E K ρ => match ρ[i]? with
  | some (.v x) => a E ρ fun y => f x y fun z => K.nx (ρ.set i (.v z))
  | _ => False
/-- xs.append(e) -/
def sApp (i : Nat) (a : DT) : DS := fun E K ρ => match ρ[i]? with
  | some (.o (.lst xs)) => a E ρ fun x => xs.length < lineMax ∧ K.nx (ρ.set i (.o (.lst (xs ++ [x]))))
  | _ => False
/-- one turn after another, over what is left -/
def forL (g : DG) (b : DS) (E : EK) (K : DE) : List D → Env → Prop
  | [], ρ => K.nx ρ
  | x :: r, ρ => g x ρ fun ρ' => b E { nx := forL g b E K r, ct := forL g b E K r, bk := K.nx, rt := K.rt, ro := K.ro } ρ'
def sFor (it : DI) (g : DG) (b : DS) : DS := fun E K ρ => it E ρ fun xs => forL g b E K xs ρ
def whileN (c : DB) (b : DS) (E : EK) (K : DE) : Nat → Env → Prop
  | 0, _ => False
  | n + 1, ρ => c E ρ fun k => if k = true then b E { nx := whileN c b E K n, ct := whileN c b E K n, bk := K.nx, rt := K.rt, ro := K.ro } ρ else K.nx ρ
def sWhile (c : DB) (b : DS) : DS := fun E K ρ => ∃ n, whileN c b E K n ρ
/-- a def: its parameters in the first slots, the rest empty -/
def envOf (n : Nat) (ds : List D) : Env := ds.map Sl.v ++ List.replicate (n - ds.length) .no
def defT (np n : Nat) (b : DS) : DF := fun ds Q E => ds.length = np ∧ b (fun e _ => E e) { nx := fun _ => Q .non, rt := Q } (envOf n ds)
/-- a list comprehension: own slots wiped, one turn after another -/
def wipeE (ρ : Env) (vs : List Nat) : Env := vs.foldl (fun ρ j => ρ.set j .no) ρ
def noE : EK := fun _ _ => False
def lcL (g : DG) (t : DB) (e : DT) (ρ : Env) : List D → List D → (List D → Prop) → Prop
  | [], acc, Q => Q acc
  | x :: r, acc, Q => g x ρ fun ρ' => t noE ρ' fun k => if k = true then e noE ρ' fun y => acc.length < lineMax ∧ lcL g t e ρ r (acc ++ [y]) Q else lcL g t e ρ r acc Q
/-- a def's own objects are not seen in a comprehension -/
def noOwn (ρ : Env) : Env := ρ.map fun s => match s with
  | .v d => .v d
  | _ => .no
def dLc (it : DI) (g : DG) (t : DB) (e : DT) (vs : List Nat) : DT := fun E ρ Q => it E ρ fun xs => lcL g t e (noOwn (wipeE ρ vs)) xs [] fun r => Q (.lst r)
def bYes : DB := fun _ _ Q => Q true

/-! ### built-ins -/
def intsOf : List D → Option (List Int)
  | [] => some []
  | .int i :: r => (intsOf r).map fun ns => i :: ns
  | _ :: _ => none
def blsOf : List D → Option (List Bool)
  | [] => some []
  | .bl i :: r => (blsOf r).map fun ns => i :: ns
  | _ :: _ => none
def fLen (xs : List D) (Q : DK) : Prop := match xs with
  | [.lst l] => Q (.int l.length)
  | [.tup l] => Q (.int l.length)
  | [.str z] => z.length ≤ lineMax ∧ Q (.int z.length)
  | [.dk l] => Q (.int l.length)
  | [.scr ns] => Q (.int ns.length)
  | _ => False
def fAbs (xs : List D) (Q : DK) : Prop := match xs with
  | [.int i] => Q (.int (if i < 0 then -i else i))
  | _ => False
def fGcd (xs : List D) (Q : DK) : Prop := match xs with
  | [.int i, .int j] => Q (.int ((Nat.gcd i.natAbs j.natAbs : Nat) : Int))
  | _ => False
def fMin (xs : List D) (Q : DK) : Prop := match xs with
  | [.int i, .int j] => Q (.int (if j < i then j else i))
  | [.lst l] => match intsOf l with
    | some ns => ns ≠ [] ∧ ∀ m, m ∈ ns → (∀ y ∈ ns, m ≤ y) → Q (.int m)
    | none => False
  | _ => False
def fMax (xs : List D) (Q : DK) : Prop := match xs with
  | [.int i, .int j] => Q (.int (if j > i then j else i))
  | [.lst l] => match intsOf l with
    | some ns => ns ≠ [] ∧ ∀ m, m ∈ ns → (∀ y ∈ ns, y ≤ m) → Q (.int m)
    | none => False
  | _ => False
def fSum (xs : List D) (Q : DK) : Prop := match xs with
  | [.lst l] => match intsOf l with
    | some ns => Q (.int ns.sum)
    | none => False
  | [.tup l] => match intsOf l with
    | some ns => Q (.int ns.sum)
    | none => False
  | _ => False
def fAll (xs : List D) (Q : DK) : Prop := match xs with
  | [.lst l] => match blsOf l with
    | some ns => Q (.bl (ns.all id))
    | none => False
  | _ => False
def fAny (xs : List D) (Q : DK) : Prop := match xs with
  | [.lst l] => match blsOf l with
    | some ns => Q (.bl (ns.any id))
    | none => False
  | _ => False
/-- sorted ints: the one ascending arrangement -/
def keyD : Key → D
  | .inl i => .int i
  | .inr x => .str x
/-- a dict's keys, all ints -/
def ikeys : List (Key × D) → Option (List Int)
  | [] => some []
  | (.inl i, _) :: r => (ikeys r).map (i :: ·)
  | _ => none
def pairD (p : Int × Int) : D := .tup [.int p.1, .int p.2]
/-- a list of pairs of ints -/
def pair1 : D → Option (Int × Int)
  | .tup [.int i, .int j] => some (i, j)
  | _ => none
def pairsOf : List D → Option (List (Int × Int))
  | [] => some []
  | x :: r => (pair1 x).bind fun p => (pairsOf r).map (p :: ·)
theorem pair1_eq {x : D} {p : Int × Int} (h : pair1 x = some p) : x = pairD p := by
  unfold pair1 at h
  split at h
  · cases h; rfl
  · cases h
def lexLe (p q : Int × Int) : Prop := p.1 < q.1 ∨ (p.1 = q.1 ∧ p.2 ≤ q.2)
def fSorted (xs : List D) (Q : DK) : Prop := match xs with
  | [.lst l] => match intsOf l with
    | some ns => ∀ ns' : List Int, ns'.Perm ns → ns'.Pairwise (· ≤ ·) → Q (.lst (ns'.map .int))
    | none => match pairsOf l with
      | some ps => ∀ ps' : List (Int × Int), ps'.Perm ps → ps'.Pairwise lexLe → Q (.lst (ps'.map pairD))
      | none => False
  | [.dk kvs] => match ikeys kvs with
    | some ns => ns.length < 64 ∧ ∀ ns' : List Int, ns'.Perm ns → ns'.Pairwise (· ≤ ·) → Q (.lst (ns'.map .int))
    | none => False
  | _ => False
/-- sorted(set(xs)): the ascending list of the same numbers -/
def fSetSorted (xs : List D) (Q : DK) : Prop := match xs with
  | [.lst l] => match intsOf l with
    | some ns => ns.length ≤ 4000 ∧ ∀ ys : List Int, ys.Pairwise (· < ·) → (∀ j, j ∈ ys ↔ j ∈ ns) → Q (.lst (ys.map .int))
    | none => False
  | _ => False
def fList (xs : List D) (Q : DK) : Prop := match xs with
  | [.lst l] => Q (.lst l)
  | [.tup l] => Q (.lst l)
  | [.dk kvs] => Q (.lst (kvs.map fun kv => keyD kv.1))
  | [.scr ns] => Q (.lst (ns.map .int))
  | _ => False
def fTuple (xs : List D) (Q : DK) : Prop := match xs with
  | [.lst l] => Q (.tup l)
  | [.tup l] => Q (.tup l)
  | _ => False
def fInt (xs : List D) (Q : DK) : Prop := match xs with
  | [.int i] => Q (.int i)
  | [.bl b] => Q (.int (if b then 1 else 0))
  | _ => False
def fStr (xs : List D) (Q : DK) : Prop := match xs with
  | [.int i] => i.natAbs.log2 < 1920 ∧ Q (.str (Str.ofString (toString i)))
  | _ => False
def fDivmod (xs : List D) (Q : DK) : Prop := match xs with
  | [.int i, .int j] => (0 < j ∧ j < 1073741824) ∧ Q (.tup [.int (i / j), .int (i % j)])
  | _ => False
def tyName : D → String
  | .non => "NoneType"
  | .bl _ => "bool"
  | .int _ => "int"
  | .str _ => "str"
  | .tup _ => "tuple"
  | .lst _ => "list"
  | .dk _ => "dict"
  | _ => ""
/-- isinstance against one of int, bool, str, tuple, list, dict -/
def isTy (c : String) (d : D) : Bool := tyName d == c || (tyName d == "bool" && c == "int")
def dIsi (c : String) (a : DT) : DT := fun E ρ Q => a E ρ fun d => tyName d ≠ "" ∧ Q (.bl (isTy c d))
/-- own objects are only looked at, the answer is flat -/
def bor (ρ : Env) : Env := ρ.map fun s => match s with
  | .o d => .v d
  | s => s
def dBor (a : DT) : DT := fun _ ρ Q => a noE (bor ρ) fun d => isFlat d = true ∧ Q d
/-- xs[i] of a list of the def's own -/
def dIxO (i : Nat) (a : DT) : DT := fun E ρ Q => match ρ[i]? with
  | some (.o (.lst xs)) => a E ρ fun y => match y with
    | .int k => oGet (atI xs k) Q
    | _ => False
  | _ => False
/-- list(xs), tuple(xs) of a list of the def's own, which stays its own -/
def dListO (i : Nat) : DT := fun _ ρ Q => match ρ[i]? with
  | some (.o (.lst xs)) => Q (.lst xs)
  | _ => False
def dTupleO (i : Nat) : DT := fun _ ρ Q => match ρ[i]? with
  | some (.o (.lst xs)) => Q (.tup xs)
  | _ => False
/-- a test in which own objects are only looked at -/
def bBor (a : DB) : DB := fun _ ρ Q => a noE (bor ρ) Q
/-! the laws' own draws -/
def wStart : DF := fun ds Q _ => match ds with
  | [.scr ns] => ns.length ≤ 63 ∧ Q .st
  | _ => False
def wDraw : DF := fun ds Q _ => match ds with
  | [.st, .int b] => 0 < b ∧ b.natAbs.log2 < 9000 ∧ ∀ r, 0 ≤ r → r < b → Q (.int r)
  | _ => False
/-! instances -/
def putFD (f : Str) (v : D) : List (Str × D) → List (Str × D)
  | [] => [(f, v)]
  | (g, x) :: r => if g = f then (g, v) :: r else (g, x) :: putFD f v r
/-- x.f -/
def dFld (c : String) (f : Str) (a : DT) : DT := fun E ρ Q => a E ρ fun x => match x with
  | .ins c' fs => c' = c ∧ oGet (fs.lookup f) Q
  | _ => False
/-- self.f = value, self being made -/
def sFldO (c : String) (i : Nat) (f : Str) (a : DT) : DS := fun E K ρ => match ρ[i]? with
  | some (.o (.ins c' fs)) => c' = c ∧ a E ρ fun v => fs.length < 1000 ∧ K.nx (ρ.set i (.o (.ins c (putFD f v fs))))
  | _ => False
/-- x.m(..), nothing let out -/
def dMeth (c : String) (m : Str) (W : DF) (a : DT) (r : DA) : DT := fun E ρ Q => a E ρ fun x => match x with
  | .ins c' fs => c' = c ∧ fs.lookup m = none ∧ r E ρ fun xs => up W (.ins c' fs :: xs) Q fun _ => False
  | _ => False
/-- C(..), nothing let out -/
def dMake (W : DF) (r : DA) : DT := fun E ρ Q => r E ρ fun xs => up W xs Q fun _ => False
/-- what __init__ makes -/
def madeQ (Q : DK) (ρ : Env) : Prop := match ρ[(0 : Nat)]? with
  | some (.o (.ins c fs)) => Q (.ins c fs)
  | _ => False
def mkT (c : String) (np n : Nat) (b : DS) : DF := fun ds Q E => ds.length + 1 = np ∧ b (fun e _ => E e) { nx := madeQ Q, rt := fun _ => False } ((envOf n (.non :: ds)).set 0 (.o (.ins c [])))
/-! ### own lists and dicts changed -/
def gOL (o : Option Sl) (Q : List D → Prop) : Prop := match o with
  | some (.o (.lst xs)) => Q xs
  | _ => False
def gOD (o : Option Sl) (Q : List (Key × D) → Prop) : Prop := match o with
  | some (.o (.dk xs)) => Q xs
  | _ => False
def gI (d : D) (Q : Int → Prop) : Prop := match d with
  | .int b => Q b
  | _ => False
def gK (d : D) (Q : Key → Prop) : Prop := match keyOf d with
  | some k => Q k
  | none => False
def gSm {α : Type} (o : Option α) (Q : α → Prop) : Prop := match o with
  | some k => Q k
  | none => False
/-- an own list's method, its value dropped -/
def sLop (f : List D → List D → (List D → Prop) → Prop) (i : Nat) (a : DA) : DS := fun E K ρ => gOL ρ[i]? fun xs => a E ρ fun ys => f xs ys fun zs => K.nx (ρ.set i (.o (.lst zs)))
def lExt (xs ys : List D) (Q : List D → Prop) : Prop := match ys with
  | [.lst zs] => xs.length + zs.length ≤ lineMax ∧ Q (xs ++ zs)
  | _ => False
def lIns (xs ys : List D) (Q : List D → Prop) : Prop := match ys with
  | [.int k, y] => (xs.length < lineMax ∧ 0 ≤ k ∧ k < 2 ^ 63) ∧ Q (xs.take k.toNat ++ [y] ++ xs.drop k.toNat)
  | _ => False
def lRev (xs ys : List D) (Q : List D → Prop) : Prop := ys = [] ∧ Q xs.reverse
def lClr (xs ys : List D) (Q : List D → Prop) : Prop := ys = [] ∧ Q []
/-- pop: what is given, what is left -/
def lPop0 (xs : List D) (Q : D → List D → Prop) : Prop := gSm xs[xs.length - 1]? fun y => Q y xs.dropLast
def lPop1 (xs : List D) (k : Int) (Q : D → List D → Prop) : Prop := (-(2 ^ 63) ≤ k ∧ k < 2 ^ 63) ∧ gSm (ixN xs.length k) fun j => gSm xs[j]? fun y => Q y (xs.eraseIdx j)
def lPop (xs ys : List D) (Q : D → List D → Prop) : Prop := match ys with
  | [] => lPop0 xs Q
  | [.int k] => lPop1 xs k Q
  | _ => False
/-- xs.pop(..) -/
def sPop (i : Nat) (a : DA) : DS := fun E K ρ => gOL ρ[i]? fun xs => a E ρ fun ys => lPop xs ys fun _ zs => K.nx (ρ.set i (.o (.lst zs)))
/-- y = xs.pop(..) -/
def sPopTo (i j : Nat) (a : DA) : DS := fun E K ρ => gOL ρ[i]? fun xs => a E ρ fun ys => lPop xs ys fun y zs => K.nx ((ρ.set i (.o (.lst zs))).set j (.v y))
/-- xs.append(xs.pop(..)) -/
def sPopApp (i : Nat) (a : DA) : DS := fun E K ρ => gOL ρ[i]? fun xs => a E ρ fun ys => lPop xs ys fun y zs => zs.length < lineMax ∧ K.nx (ρ.set i (.o (.lst (zs ++ [y]))))
/-- xs[i] = v -/
def sSetIx (i : Nat) (a b : DT) : DS := fun E K ρ => gOL ρ[i]? fun xs => b E ρ fun v => a E ρ fun k => gI k fun k => gSm (ixN xs.length k) fun j => K.nx (ρ.set i (.o (.lst (xs.set j v))))
/-- xs[i] += v -/
def sAugIx (f : D → D → DK → Prop) (i : Nat) (a b : DT) : DS := fun E K ρ => gOL ρ[i]? fun xs => a E ρ fun k => gI k fun k => gSm (ixN xs.length k) fun j => gSm xs[j]? fun x => b E ρ fun y => f x y fun z => K.nx (ρ.set i (.o (.lst (xs.set j z))))
/-- {} -/
def dNewK : DT := fun _ _ Q => Q (.dk [])
/-- d[k] = v -/
def sPutK (i : Nat) (a b : DT) : DS := fun E K ρ => gOD ρ[i]? fun kvs => b E ρ fun v => a E ρ fun k => gK k fun k => kvs.length < 1000000 ∧ K.nx (ρ.set i (.o (.dk (putD kvs k v))))
/-- d[k] of an own dict -/
def dIxK (i : Nat) (a : DT) : DT := fun E ρ Q => gOD ρ[i]? fun kvs => a E ρ fun k => gK k fun k => oGet (lookD kvs k) Q
def gDk (d : D) (Q : List (Key × D) → Prop) : Prop := match d with
  | .dk kvs => Q kvs
  | _ => False
/-- x.get(k), x.get(k, d) -/
def dGetK1 (a b : DT) : DT := fun E ρ Q => a E ρ fun x => gDk x fun kvs => b E ρ fun k => gK k fun k => Q ((lookD kvs k).getD .non)
def dGetK2 (a b c : DT) : DT := fun E ρ Q => a E ρ fun x => gDk x fun kvs => b E ρ fun k => c E ρ fun z => gK k fun k => Q ((lookD kvs k).getD z)
/-- {k: v, ..} -/
def keyV : List (D × D) → Option (List (Key × D))
  | [] => some []
  | (k, v) :: r => match keyOf k, keyV r with
    | some k, some kvs => some ((k, v) :: kvs)
    | _, _ => none
def mergeD (kvs : List (Key × D)) : List (Key × D) := kvs.foldl (fun acc p => putD acc p.1 p.2) []
def DPs := EK → Env → (List (D × D) → Prop) → Prop
def pNil : DPs := fun _ _ Q => Q []
def pCons (a b : DT) (r : DPs) : DPs := fun E ρ Q => a E ρ fun x => b E ρ fun y => r E ρ fun ps => Q ((x, y) :: ps)
def dDisp (a : DPs) : DT := fun E ρ Q => a E ρ fun ps => gSm (keyV ps) fun kvs => ps.length ≤ 15 ∧ Q (.dk (mergeD kvs))
/-! a def that gives a new list of its own -/
def gO (o : Option Sl) (Q : DK) : Prop := match o with
  | some (.o d) => Q d
  | _ => False
def sRetO (i : Nat) : DS := fun _ K ρ => gO ρ[i]? K.rt
def defF (np n : Nat) (b : DS) : DF := fun ds Q E => ds.length = np ∧ b (fun e _ => E e) { nx := fun _ => False, rt := Q } (envOf n ds)
/-! a def that changes the list or dict that stands at its parameter j: what is given, what stands there then -/
def dPair (d o : D) : D := .tup [d, o]
def defX (j np n : Nat) (b : DS) : DF := fun ds Q E => ds.length = np ∧ b (fun e _ => E e) { nx := fun ρ => gO ρ[j]? fun o => Q (dPair .non o), rt := fun _ => False, ro := fun d ρ => gO ρ[j]? fun o => Q (dPair d o) } ((envOf n ds).set j (.o (ds.getD j .non)))
/-- the arguments, the own thing of slot i among them -/
def aOwn (i : Nat) (r : DA) : DA := fun E ρ Q => gO ρ[i]? fun d => r E ρ fun xs => Q (d :: xs)
def gPair (d : D) (Q : D → D → Prop) : Prop := match d with
  | .tup [x, y] => Q x y
  | _ => False
/-- f(.., x, ..) of the own thing x of slot i, its value dropped; kept in slot k -/
def sCallX (i : Nat) (W : DF) (a : DA) : DS := fun E K ρ => a E ρ fun xs => up W xs (fun r => gPair r fun _ o => K.nx (ρ.set i (.o o))) fun e => E e (ρ.set i .no)
def sCallXTo (i k : Nat) (W : DF) (a : DA) : DS := fun E K ρ => a E ρ fun xs => up W xs (fun r => gPair r fun d o => K.nx ((ρ.set i (.o o)).set k (.v d))) fun e => E e (ρ.set i .no)
/-- what an own error may carry -/
def okE : D → Prop
  | .str x => x.length ≤ 1000 ∧ ∀ c ∈ x.cps.toList, c < 16 ^ 8
  | .int i => i.natAbs.log2 < 1920
  | _ => False
def sRaise (c : String) (fs : List Str) (a : DA) : DS := fun E _ ρ => a E ρ fun xs => xs.length = fs.length ∧ (∀ x ∈ xs, okE x) ∧ E ⟨c, (fs.zip xs).reverse⟩ ρ
/-- try: b, except one of ms: s; the others, of os, go on -/
def sTry (ms os : List String) (b s : DS) : DS := fun E B ρ => b (fun e ρ' => if e.cls ∈ ms then s noE B ρ' else e.cls ∈ os ∧ E e ρ') B ρ
/-- try: b, except m as n: return n.f; n's slot is i -/
def sTryR (m : String) (os : List String) (i : Nat) (f : Str) (b : DS) : DS := fun E B ρ => b (fun e ρ' => if e.cls = m then i < ρ'.length ∧ (match e.fs.lookup f with | some d => B.rt d | none => False) else e.cls ∈ os ∧ E e ρ') B ρ
/-- the keys of an own dict, walked -/
def iKeyO (i : Nat) : DI := fun _ ρ Q => gOD ρ[i]? fun kvs => Q (kvs.map fun kv => keyD kv.1)
end DL

/-! DWalk: the transformers of DCore are sound for the hand layer's readings. -/
namespace DL
open PySem L2

abbrev Fg := PySem.W.Frag
/-- the text's names of classes and defs; what stands at a drawing state's address a: its cells at c, n of them -/
structure Cl where
  nm : String → Option Addr
  so : Bool × (Addr → Addr → Nat → HO)
  /-- the instance that is being made -/
  me : Option Addr := none
  /-- what is given back is a new object of the def's own -/
  fr : Bool := false
  /-- the own things that stand at parameters -/
  pin : Nat → Option Addr := fun _ => none

/-! ### what a value represents in a frozen heap -/
mutual
inductive Rep (K : Fg) (cl : Cl) (F : Hp) : V → D → Prop
  | non : Rep K cl F .non .non
  | bl (b : Bool) : Rep K cl F (.bl b) (.bl b)
  | int (i : Int) : Rep K cl F (.int i) (.int i)
  | str (x : Str) : Rep K cl F (.str x) (.str x)
  | tup {a : Addr} {vs : List V} {ds : List D} : SqT K F a vs → Reps K cl F vs ds → Rep K cl F (.ref a) (.tup ds)
  | lst {a : Addr} {vs : List V} {ds : List D} : F a = some (.lst vs) → Reps K cl F vs ds → Rep K cl F (.ref a) (.lst ds)
  | dk {a : Addr} {ws : List (L2.Key × V)} {kvs : List (DL.Key × D)} : F a = some (.dK ws) → KReps K cl F ws kvs → Rep K cl F (.ref a) (.dk kvs)
  | dt {a : Addr} {ws : List (List L2.Key × V)} {kvs : List (List DL.Key × D)} : F a = some (.dT ws) → TReps K cl F ws kvs → Rep K cl F (.ref a) (.dt kvs)
  | ins {a C dx : Addr} {ws : List (Str × V)} {c : String} {kvs : List (Str × D)} : cl.nm c = some C → F a = some (.ins C dx ws) → F dx = some (.own a) → FReps K cl F ws kvs → Rep K cl F (.ref a) (.ins c kvs)
  | st {a c : Addr} {ns : List Int} : F a = some (cl.so.2 a c ns.length) → (cl.so.1 = true → F c = some (.lst (ns.map V.int))) → (∀ n ∈ ns, 0 ≤ n) → Rep K cl F (.ref a) .st
  | scr {a : Addr} {ns : List Int} : SqL K F a (ns.map V.int) → Rep K cl F (.ref a) (.scr ns)
  | fn {a : Addr} {x : String} : cl.nm x = some a → Rep K cl F (.ref a) (.fn x)
inductive Reps (K : Fg) (cl : Cl) (F : Hp) : List V → List D → Prop
  | nil : Reps K cl F [] []
  | cons {v : V} {d : D} {vs : List V} {ds : List D} : Rep K cl F v d → Reps K cl F vs ds → Reps K cl F (v :: vs) (d :: ds)
inductive KReps (K : Fg) (cl : Cl) (F : Hp) : List (L2.Key × V) → List (DL.Key × D) → Prop
  | nil : KReps K cl F [] []
  | cons {k : L2.Key} {v : V} {d : D} {vs : List (L2.Key × V)} {ds : List (DL.Key × D)} : Rep K cl F v d → KReps K cl F vs ds → KReps K cl F ((k, v) :: vs) ((k, d) :: ds)
inductive TReps (K : Fg) (cl : Cl) (F : Hp) : List (List L2.Key × V) → List (List DL.Key × D) → Prop
  | nil : TReps K cl F [] []
  | cons {k : List L2.Key} {v : V} {d : D} {vs : List (List L2.Key × V)} {ds : List (List DL.Key × D)} : Rep K cl F v d → TReps K cl F vs ds → TReps K cl F ((k, v) :: vs) ((k, d) :: ds)
inductive FReps (K : Fg) (cl : Cl) (F : Hp) : List (Str × V) → List (Str × D) → Prop
  | nil : FReps K cl F [] []
  | cons {k : Str} {v : V} {d : D} {vs : List (Str × V)} {ds : List (Str × D)} : Rep K cl F v d → FReps K cl F vs ds → FReps K cl F ((k, v) :: vs) ((k, d) :: ds)
end
theorem same_t {K : Fg} {H H' : Hp} {a : Addr} {xs : List V} (e : Same H H') (h : SqT K H a xs) : SqT K H' a xs := by
  rcases h with (h | ⟨o, h⟩) | h
  · exact .inl (.inl (e _ _ h))
  · exact .inl (.inr ⟨o, e _ _ h⟩)
  · exact .inr h
section
variable {K : Fg} {cl : Cl} {F F' : Hp}
mutual
theorem Rep.mono (e : Same F F') : ∀ {v : V} {d : D}, Rep K cl F v d → Rep K cl F' v d
  | _, _, .non => .non
  | _, _, .bl b => .bl b
  | _, _, .int b => .int b
  | _, _, .str b => .str b
  | _, _, .tup h r => .tup (same_t e h) (Reps.mono e r)
  | _, _, .lst h r => .lst (e _ _ h) (Reps.mono e r)
  | _, _, .dk h r => .dk (e _ _ h) (KReps.mono e r)
  | _, _, .dt h r => .dt (e _ _ h) (TReps.mono e r)
  | _, _, .ins c h g r => .ins c (e _ _ h) (e _ _ g) (FReps.mono e r)
  | _, _, .st h g z => .st (e _ _ h) (fun t => e _ _ (g t)) z
  | _, _, .scr h => .scr (e.seq h)
  | _, _, .fn h => .fn h
theorem Reps.mono (e : Same F F') : ∀ {vs : List V} {ds : List D}, Reps K cl F vs ds → Reps K cl F' vs ds
  | _, _, .nil => .nil
  | _, _, .cons h r => .cons (Rep.mono e h) (Reps.mono e r)
theorem KReps.mono (e : Same F F') : ∀ {vs : List (L2.Key × V)} {ds : List (DL.Key × D)}, KReps K cl F vs ds → KReps K cl F' vs ds
  | _, _, .nil => .nil
  | _, _, .cons h r => .cons (Rep.mono e h) (KReps.mono e r)
theorem TReps.mono (e : Same F F') : ∀ {vs : List (List L2.Key × V)} {ds : List (List DL.Key × D)}, TReps K cl F vs ds → TReps K cl F' vs ds
  | _, _, .nil => .nil
  | _, _, .cons h r => .cons (Rep.mono e h) (TReps.mono e r)
theorem FReps.mono (e : Same F F') : ∀ {vs : List (Str × V)} {ds : List (Str × D)}, FReps K cl F vs ds → FReps K cl F' vs ds
  | _, _, .nil => .nil
  | _, _, .cons h r => .cons (Rep.mono e h) (FReps.mono e r)
end
end

/-! ### growth -/
/-- frozen F in H grows to F' in H': what was tracked stays, what is newly frozen is new -/
structure Gr (F H F' H' : Hp) : Prop where
  f : Same F F'
  k : Same H H'
  s : Same F' H'
  n : ∀ p, F' p ≠ none → F p = none → H p = none
theorem Gr.refl {F H : Hp} (s : Same F H) : Gr F H F H := ⟨Same.refl _, Same.refl _, s, fun _ a b => absurd b a⟩
theorem Gr.trans {F H F1 H1 F2 H2 : Hp} (a : Gr F H F1 H1) (b : Gr F1 H1 F2 H2) : Gr F H F2 H2 := by
  refine ⟨a.f.trans b.f, a.k.trans b.k, b.s, fun p h2 h0 => ?_⟩
  cases h1 : F1 p with
  | none => exact a.k.free (b.n p h2 h1)
  | some o => exact a.n p (by rw [h1]; simp) h0
theorem Gr.h {F H H' : Hp} (s : Same F H) (k : Same H H') : Gr F H F H' := ⟨Same.refl _, k, s.trans k, fun _ a b => absurd b a⟩
theorem same_upd {H : Hp} {p : Addr} {o : HO} (h : H p = none) : Same H (upd H p o) := fun b x e => by
  rw [upd_ne (ne_of_none e h)]
  exact e
theorem same_upd2 {F H : Hp} {p : Addr} {o : HO} (e : Same F H) : Same (upd F p o) (upd H p o) := fun b x q => by
  by_cases hb : b = p
  · subst hb
    rw [upd_same] at q ⊢
    exact q
  · rw [upd_ne hb] at q ⊢
    exact e b x q
/-- a new object is laid and frozen -/
theorem Gr.new {F H : Hp} {p : Addr} {o : HO} (s : Same F H) (h : H p = none) : Gr F H (upd F p o) (upd H p o) := by
  refine ⟨same_upd (s.free h), same_upd h, same_upd2 s, fun q a b => ?_⟩
  by_cases hq : q = p
  · subst hq
    exact h
  · rw [upd_ne hq] at a
    exact absurd b a
/-- what the def has made of its own may be frozen -/
theorem Gr.keepNone {F H F' H' : Hp} (g : Gr F H F' H') {l : Addr} {o : HO} (h : H l = some o) (f : F l = none) : F' l = none := by
  cases q : F' l with
  | none => rfl
  | some u =>
    have z := g.n l (by rw [q]; simp) f
    rw [h] at z
    cases z

/-! ### slots -/
def Own (K : Fg) (cl : Cl) (F H : Hp) (a : Addr) : D → Prop
  | .lst ds => ∃ vs, H a = some (.lst vs) ∧ Reps K cl F vs ds
  | .dk kvs => ∃ ws, H a = some (.dK ws) ∧ KReps K cl F ws kvs
  | .dt kvs => ∃ ws, H a = some (.dT ws) ∧ TReps K cl F ws kvs
  | .ins c kvs => ∃ ws, (∃ C dx, cl.nm c = some C ∧ H a = some (.ins C dx ws) ∧ F dx = some (.own a) ∧ cl.me = some a) ∧ FReps K cl F ws kvs
  | _ => False
theorem Own.there {K : Fg} {cl : Cl} {F H : Hp} {a : Addr} {d : D} (h : Own K cl F H a d) : ∃ o, H a = some o := by
  cases d <;> first | exact h.elim | (obtain ⟨_, e, _⟩ := h; exact ⟨_, e⟩) | (obtain ⟨_, ⟨_, _, _, e, _⟩, _⟩ := h; exact ⟨_, e⟩)
theorem Own.mono {K : Fg} {cl : Cl} {F H F' H' : Hp} {a : Addr} {d : D} (f : Same F F') (k : ∀ o, H a = some o → H' a = some o) (h : Own K cl F H a d) : Own K cl F' H' a d := by
  cases d with
  | lst ds => obtain ⟨vs, e, r⟩ := h; exact ⟨vs, k _ e, r.mono f⟩
  | dk ds => obtain ⟨vs, e, r⟩ := h; exact ⟨vs, k _ e, r.mono f⟩
  | dt ds => obtain ⟨vs, e, r⟩ := h; exact ⟨vs, k _ e, r.mono f⟩
  | ins c ds => obtain ⟨vs, ⟨C, dx, n, e, o, m⟩, r⟩ := h; exact ⟨vs, ⟨C, dx, n, k _ e, f _ _ o, m⟩, r.mono f⟩
  | _ => exact h.elim
def SlRep (K : Fg) (cl : Cl) (H0 F H : Hp) (x : Option V) (a : Addr) : Sl → Prop
  | .no => True
  | .v d => ∃ v, x = some v ∧ Rep K cl F v d
  | .o d => x = some (.ref a) ∧ H0 a = none ∧ F a = none ∧ Own K cl F H a d
structure Hold (K : Fg) (cl : Cl) (F0 H0 F H : Hp) (σ : L2.St) (ρ : DL.Env) : Prop where
  g : Gr F0 H0 F H
  len : σ.length = ρ.length
  sl : ∃ θ : Nat → Addr, (∀ (i : Nat) s, ρ[i]? = some s → SlRep K cl H0 F H (σ[i]?.join) (θ i) s) ∧ (∀ (i j : Nat) di dj, ρ[i]? = some (.o di) → ρ[j]? = some (.o dj) → θ i = θ j → i = j) ∧ ∀ (i : Nat) a d, cl.pin i = some a → ρ[i]? = some (.o d) → θ i = a
section
variable {K : Fg} {cl : Cl} {F0 H0 F H F' H' : Hp} {σ : L2.St} {ρ : DL.Env}
theorem Hold.grow (h : Hold K cl F0 H0 F H σ ρ) (g : Gr F H F' H') : Hold K cl F0 H0 F' H' σ ρ := by
  obtain ⟨θ, hs, hd⟩ := h.sl
  refine ⟨h.g.trans g, h.len, θ, fun i s e => ?_, hd⟩
  have q := hs i s e
  cases s with
  | no => trivial
  | v d => obtain ⟨v, e1, r⟩ := q; exact ⟨v, e1, r.mono g.f⟩
  | o d =>
    obtain ⟨e1, n0, nf, w⟩ := q
    obtain ⟨o, ho⟩ := w.there
    exact ⟨e1, n0, g.keepNone ho nf, w.mono g.f fun o e => g.k _ _ e⟩
theorem Hold.same (h : Hold K cl F0 H0 F H σ ρ) : Same F H := h.g.s
theorem join_some {σ : L2.St} {i : Nat} {v : V} (h : σ[i]?.join = some v) : σ[i]? = some (some v) := by
  cases e : σ[i]? with
  | none => rw [e] at h; cases h
  | some x =>
    rw [e] at h
    have h' : x = some v := h
    rw [h']
theorem Hold.var {i : Nat} {d : D} (h : Hold K cl F0 H0 F H σ ρ) (e : ρ[i]? = some (.v d)) : ∃ v, σ[i]? = some (some v) ∧ Rep K cl F v d := by
  obtain ⟨θ, hs, _⟩ := h.sl
  obtain ⟨v, e1, r⟩ := hs i _ e
  exact ⟨v, join_some e1, r⟩
/-- a slot is set to frozen data -/
theorem Hold.set {i : Nat} {d : D} {v : V} (h : Hold K cl F0 H0 F H σ ρ) (r : Rep K cl F v d) : Hold K cl F0 H0 F H (σ.set i (some v)) (ρ.set i (.v d)) := by
  obtain ⟨θ, hs, hd, hp⟩ := h.sl
  have ne : ∀ {a da}, (ρ.set i (Sl.v d))[a]? = some (Sl.o da) → ρ[a]? = some (Sl.o da) := fun {a da} q => by
      by_cases ha : a = i
      · subst ha
        have hl : a < ρ.length := by
          have := (List.getElem?_eq_some_iff.mp q).1
          simpa using this
        rw [List.getElem?_set_self hl] at q
        cases q
      · rwa [List.getElem?_set_ne (Ne.symm ha)] at q
  refine ⟨h.g, by simp [h.len], θ, fun j s e => ?_, fun j k dj dk e1 e2 => ?_, fun j a dj e1 e2 => hp j a dj e1 (ne e2)⟩
  · by_cases hj : j = i
    · subst hj
      have hl : j < ρ.length := by
        have := (List.getElem?_eq_some_iff.mp e).1
        simpa using this
      rw [List.getElem?_set_self hl] at e
      cases e
      refine ⟨v, ?_, r⟩
      rw [List.getElem?_set_self (by rw [h.len]; exact hl)]
      rfl
    · rw [List.getElem?_set_ne (Ne.symm hj)] at e ⊢
      exact hs j s e
  · exact hd j k dj dk (ne e1) (ne e2)
/-- a slot is set to a new object of the def's own -/
theorem Hold.own {i : Nat} {d : D} {a : Addr} (hpi : cl.pin i = none) (h : Hold K cl F0 H0 F H σ ρ) (g : Gr F H F' H') (ha : H a = none) (hf : F' a = none) (w : Own K cl F' H' a d) : Hold K cl F0 H0 F' H' (σ.set i (some (.ref a))) (ρ.set i (.o d)) := by
  have h1 := h.grow g
  obtain ⟨θ0, hs0, _⟩ := h.sl
  obtain ⟨θ, hs, hd, hp⟩ := h.sl
  refine ⟨h1.g, by simp [h.len], fun j => if j = i then a else θ j, fun j s e => ?_, fun j k dj dk e1 e2 q => ?_, fun j b dj e1 e2 => ?_⟩
  · by_cases hj : j = i
    · subst hj
      have hl : j < ρ.length := by
        have := (List.getElem?_eq_some_iff.mp e).1
        simpa using this
      rw [List.getElem?_set_self hl] at e
      cases e
      show SlRep K cl H0 F' H' _ (if j = j then a else θ j) _
      rw [if_pos rfl]
      refine ⟨?_, h.g.k.free ha, hf, w⟩
      rw [List.getElem?_set_self (by rw [h.len]; exact hl)]
      rfl
    · rw [List.getElem?_set_ne (Ne.symm hj)] at e ⊢
      show SlRep K cl H0 F' H' _ (if j = i then a else θ j) _
      rw [if_neg hj]
      have q := hs j s e
      cases s with
      | no => trivial
      | v d => obtain ⟨v, e1, r⟩ := q; exact ⟨v, e1, r.mono g.f⟩
      | o d =>
        obtain ⟨e1, n0, nf, w⟩ := q
        obtain ⟨o, ho⟩ := w.there
        exact ⟨e1, n0, g.keepNone ho nf, w.mono g.f fun o e => g.k _ _ e⟩
  · have q : (if j = i then a else θ j) = (if k = i then a else θ k) := q
    have ne : ∀ {b db}, b ≠ i → (ρ.set i (Sl.o d))[b]? = some (Sl.o db) → ρ[b]? = some (Sl.o db) := fun {b db} hb q => by
      rwa [List.getElem?_set_ne (Ne.symm hb)] at q
    have far : ∀ {b db}, b ≠ i → (ρ.set i (Sl.o d))[b]? = some (Sl.o db) → θ b ≠ a := fun {b db} hb q z => by
      obtain ⟨_, _, _, w⟩ := hs b _ (ne hb q)
      obtain ⟨o, ho⟩ := w.there
      rw [z, ha] at ho
      cases ho
    by_cases hj : j = i
    · by_cases hk : k = i
      · rw [hj, hk]
      · rw [if_pos hj, if_neg hk] at q
        exact absurd q.symm (far hk e2)
    · by_cases hk : k = i
      · rw [if_neg hj, if_pos hk] at q
        exact absurd q (far hj e1)
      · rw [if_neg hj, if_neg hk] at q
        exact hd j k dj dk (ne hj e1) (ne hk e2) q
  · show (if j = i then a else θ j) = b
    by_cases hj : j = i
    · subst hj
      rw [hpi] at e1
      cases e1
    · rw [if_neg hj]
      rw [List.getElem?_set_ne (Ne.symm hj)] at e2
      exact hp j b dj e1 e2
/-- forgetting -/
theorem Hold.drop {i : Nat} (h : Hold K cl F0 H0 F H σ ρ) : Hold K cl F0 H0 F H σ (ρ.set i .no) := by
  obtain ⟨θ, hs, hd, hp⟩ := h.sl
  have ne : ∀ {a : Nat} {s : Sl}, s ≠ Sl.no → (ρ.set i Sl.no)[a]? = some s → ρ[a]? = some s := fun {a s} hn q => by
    by_cases ha : a = i
    · subst ha
      have hl : a < ρ.length := by
        have := (List.getElem?_eq_some_iff.mp q).1
        simpa using this
      rw [List.getElem?_set_self hl] at q
      exact absurd (Option.some.inj q).symm hn
    · rwa [List.getElem?_set_ne (Ne.symm ha)] at q
  refine ⟨h.g, by simp [h.len], θ, fun j s e => ?_, fun j k dj dk e1 e2 => hd j k dj dk (ne (by simp) e1) (ne (by simp) e2), fun j a dj e1 e2 => hp j a dj e1 (ne (by simp) e2)⟩
  cases s with
  | no => trivial
  | v d => exact hs j _ (ne (by simp) e)
  | o d => exact hs j _ (ne (by simp) e)
theorem Hold.fgt (js : List Nat) : ∀ {ρ : DL.Env}, Hold K cl F0 H0 F H σ ρ → Hold K cl F0 H0 F H σ (DL.fgt js ρ) := by
  induction js with
  | nil => intro ρ h; exact h
  | cons j r ih => intro ρ h; exact ih h.drop
/-- a slot's own object is frozen -/
theorem Hold.frz (i : Nat) (h : Hold K cl F0 H0 F H σ ρ) : ∃ F', Hold K cl F0 H0 F' H σ (DL.frz i ρ) := by
  unfold DL.frz
  cases e : ρ[i]? with
  | none => exact ⟨F, h⟩
  | some s =>
    cases s with
    | no => exact ⟨F, h⟩
    | v d => exact ⟨F, h⟩
    | o d =>
      obtain ⟨θ, hs, hd, hpn⟩ := h.sl
      obtain ⟨e1, n0, nf, w⟩ := hs i _ e
      obtain ⟨ob, ho⟩ := w.there
      have sf : Same F (upd F (θ i) ob) := same_upd nf
      have s2 : Same (upd F (θ i) ob) H := fun b u q => by
        by_cases hb : b = θ i
        · subst hb
          rw [upd_same] at q
          cases q
          exact ho
        · rw [upd_ne hb] at q
          exact h.g.s b u q
      have rr : Rep K cl (upd F (θ i) ob) (.ref (θ i)) d := by
        have eo : (upd F (θ i) ob) (θ i) = some ob := upd_same
        cases d with
        | lst ds => obtain ⟨vs, q, r⟩ := w; rw [ho] at q; cases q; exact .lst eo (r.mono sf)
        | dk ds => obtain ⟨vs, q, r⟩ := w; rw [ho] at q; cases q; exact .dk eo (r.mono sf)
        | dt ds => obtain ⟨vs, q, r⟩ := w; rw [ho] at q; cases q; exact .dt eo (r.mono sf)
        | ins c ds => obtain ⟨vs, ⟨C, dx, n, q, o, _⟩, r⟩ := w; rw [ho] at q; cases q; exact .ins n eo (sf _ _ o) (r.mono sf)
        | _ => exact w.elim
      have hg : Gr F0 H0 (upd F (θ i) ob) H := ⟨h.g.f.trans sf, h.g.k, s2, fun p a b => by
        by_cases hp : p = θ i
        · subst hp; exact n0
        · rw [upd_ne hp] at a
          exact h.g.n p a b⟩
      have ne : ∀ {a : Nat} {s : Sl}, a ≠ i → (ρ.set i (Sl.v d))[a]? = some s → ρ[a]? = some s := fun {a s} hb q => by
        rwa [List.getElem?_set_ne (Ne.symm hb)] at q
      have me : ∀ {s : Sl}, (ρ.set i (Sl.v d))[i]? = some s → s = Sl.v d := fun {s} q => by
        have hl : i < ρ.length := (List.getElem?_eq_some_iff.mp e).1
        rw [List.getElem?_set_self hl] at q
        exact (Option.some.inj q).symm
      refine ⟨upd F (θ i) ob, hg, by simp [h.len], θ, fun j s q => ?_, fun j k dj dk q1 q2 => ?_, fun j b dj q1 q2 => ?_⟩
      · by_cases hj : j = i
        · subst hj
          cases me q
          exact ⟨_, e1, rr⟩
        · have q' := hs j s (ne hj q)
          cases s with
          | no => trivial
          | v d' => obtain ⟨v, z1, r⟩ := q'; exact ⟨v, z1, r.mono sf⟩
          | o d' =>
            obtain ⟨z1, z0, zf, zw⟩ := q'
            have hne : θ j ≠ θ i := fun z => hj (hd j i _ _ (ne hj q) e z)
            exact ⟨z1, z0, by rw [upd_ne hne]; exact zf, zw.mono sf fun _ x => x⟩
      · have nj : j ≠ i := fun z => by subst z; have := me q1; cases this
        have nk : k ≠ i := fun z => by subst z; have := me q2; cases this
        exact hd j k dj dk (ne nj q1) (ne nk q2)
      · have nj : j ≠ i := fun z => by subst z; have := me q2; cases this
        exact hpn j b dj q1 (ne nj q2)
end
end DL

/-! DJudge: readings of the hand layer refined by the transformers of DCore; the rules. -/
namespace DL
open PySem L2

theorem line_eq : lineMax = sizeLine := by rw [sizeLine_eq]; rfl
/-- an error's value -/
def RepErr (K : Fg) (cl : Cl) (F : Hp) (c : Value) (dx : Option Addr) (e : Err) : Prop :=
  ∃ C, cl.nm e.cls = some C ∧ c = .ref C ∧ match dx with
    | none => e.fs = []
    | some d => ∃ ws, F d = some (.xd ws) ∧ FReps K cl F ws e.fs
def LinkE (K : Fg) (cl : Cl) (F0 H0 : Hp) (W : WX) (E : EK) : Prop :=
  ∀ err ρ σ F H c dx, Hold K cl F0 H0 F H σ ρ → E err ρ → RepErr K cl F c dx err → W c dx σ H
structure LinkD (K : Fg) (cl : Cl) (F0 H0 : Hp) (A : Ends) (B : DE) : Prop where
  nx : ∀ F H σ ρ, Hold K cl F0 H0 F H σ ρ → B.nx ρ → A.nx σ H
  bk : ∀ F H σ ρ, Hold K cl F0 H0 F H σ ρ → B.bk ρ → A.bk σ H
  ct : ∀ F H σ ρ, Hold K cl F0 H0 F H σ ρ → B.ct ρ → A.ct σ H
  rt : ∀ F H v d, Gr F0 H0 F H → (cl.fr = false → Rep K cl F v d) → (cl.fr = true → ∃ p, v = .ref p ∧ H0 p = none ∧ F p = none ∧ Own K cl F H p d) → B.rt d → A.rt v H
  ro : ∀ F H σ ρ v d, Hold K cl F0 H0 F H σ ρ → Rep K cl F v d → B.ro d ρ → A.rt v H

structure RfE (K : Fg) (cl : Cl) (W : WX) (te : TE) (t : DT) : Prop where
  mono2 : ∀ E E' ρ (P P' : DK), (∀ e ρ, E e ρ → E' e ρ) → (∀ d, P d → P' d) → t E ρ P → t E' ρ P'
  ok : ∀ F0 H0 F H σ ρ E (Q : VK), Hold K cl F0 H0 F H σ ρ → LinkE K cl F0 H0 W E → t E ρ (fun d => ∀ v F' H', Gr F H F' H' → Rep K cl F' v d → Q v H') → te σ H Q
structure RfB (K : Fg) (cl : Cl) (W : WX) (te : TT) (t : DB) : Prop where
  mono2 : ∀ E E' ρ (P P' : Bool → Prop), (∀ e ρ, E e ρ → E' e ρ) → (∀ d, P d → P' d) → t E ρ P → t E' ρ P'
  ok : ∀ F0 H0 F H σ ρ E (Q : Bool → Hp → Prop), Hold K cl F0 H0 F H σ ρ → LinkE K cl F0 H0 W E → t E ρ (fun b => ∀ F' H', Gr F H F' H' → Q b H') → te σ H Q
structure RfA (K : Fg) (cl : Cl) (W : WX) (te : TA) (t : DA) : Prop where
  mono2 : ∀ E E' ρ (P P' : List D → Prop), (∀ e ρ, E e ρ → E' e ρ) → (∀ d, P d → P' d) → t E ρ P → t E' ρ P'
  ok : ∀ F0 H0 F H σ ρ E (Q : List V → Hp → Prop), Hold K cl F0 H0 F H σ ρ → LinkE K cl F0 H0 W E → t E ρ (fun ds => ∀ vs F' H', Gr F H F' H' → Reps K cl F' vs ds → Q vs H') → te σ H Q
/-- an iterator that gives the data ds -/
def WalkD (K : Fg) (cl : Cl) (J : It) (F : Hp) (ds : List D) : Prop :=
  ∀ F2 H2, Same F F2 → Same F2 H2 → J.stop ds.length H2 ∧ ∀ (i : Nat) d, ds[i]? = some d → J.go i H2 ∧ ∀ x H3, J.yld i H2 x H3 → ∃ F3, Gr F2 H2 F3 H3 ∧ Rep K cl F3 x d
structure RfI (K : Fg) (cl : Cl) (W : WX) (wi : TI) (t : DI) : Prop where
  mono2 : ∀ E E' ρ (P P' : List D → Prop), (∀ e ρ, E e ρ → E' e ρ) → (∀ d, P d → P' d) → t E ρ P → t E' ρ P'
  ok : ∀ F0 H0 F H σ ρ E (R : It → Hp → Prop), Hold K cl F0 H0 F H σ ρ → LinkE K cl F0 H0 W E → t E ρ (fun ds => ∀ J F' H', Gr F H F' H' → WalkD K cl J F' ds → R J H') → wi σ H R
def Agree (js : List Nat) (σ σ' : L2.St) : Prop := σ'.length = σ.length ∧ ∀ i : Nat, i ∉ js → σ'[i]? = σ[i]?
structure RfG (K : Fg) (cl : Cl) (js : List Nat) (g : TG) (t : DG) : Prop where
  mono : ∀ d ρ (P P' : DL.Env → Prop), (∀ ρ, P ρ → P' ρ) → t d ρ P → t d ρ P'
  ok : ∀ F0 H0 F H σ ρ v d (Q : L2.St → Hp → Prop), Hold K cl F0 H0 F H σ ρ → Rep K cl F v d → t d ρ (fun ρ' => ∀ σ', Hold K cl F0 H0 F H σ' ρ' → Agree js σ σ' → Q σ' H) → g v σ H Q
structure RfGs (K : Fg) (cl : Cl) (js : List Nat) (g : TGs) (t : DGs) : Prop where
  mono : ∀ d ρ (P P' : DL.Env → Prop), (∀ ρ, P ρ → P' ρ) → t d ρ P → t d ρ P'
  ok : ∀ F0 H0 F H σ ρ v d (Q : L2.St → Hp → Prop), Hold K cl F0 H0 F H σ ρ → Reps K cl F v d → t d ρ (fun ρ' => ∀ σ', Hold K cl F0 H0 F H σ' ρ' → Agree js σ σ' → Q σ' H) → g v σ H Q
structure RfO (K : Fg) (cl : Cl) (W : WX) (te : TO) (t : DO) : Prop where
  mono2 : ∀ E E' ρ (P P' : Option Int → Prop), (∀ e ρ, E e ρ → E' e ρ) → (∀ d, P d → P' d) → t E ρ P → t E' ρ P'
  ok : ∀ F0 H0 F H σ ρ E (Q : Option Int → Hp → Prop), Hold K cl F0 H0 F H σ ρ → LinkE K cl F0 H0 W E → t E ρ (fun b => ∀ F' H', Gr F H F' H' → Q b H') → te σ H Q
structure LeD (A B : DE) : Prop where
  nx : ∀ ρ, A.nx ρ → B.nx ρ
  rt : ∀ d, A.rt d → B.rt d
  bk : ∀ ρ, A.bk ρ → B.bk ρ
  ct : ∀ ρ, A.ct ρ → B.ct ρ
  ro : ∀ d ρ, A.ro d ρ → B.ro d ρ
structure RfS (K : Fg) (cl : Cl) (W : WX) (ts : TS) (t : DS) : Prop where
  mono2 : ∀ E E' A B ρ, (∀ e ρ, E e ρ → E' e ρ) → LeD A B → t E A ρ → t E' B ρ
  ok : ∀ F0 H0 F H σ ρ E B A, Hold K cl F0 H0 F H σ ρ → LinkE K cl F0 H0 W E → LinkD K cl F0 H0 A B → t E B ρ → ts A σ H

theorem RfE.mono {K : Fg} {cl : Cl} {W : WX} {te : TE} {t : DT} (h : RfE K cl W te t) (E : EK) (ρ : DL.Env) (P P' : DK) (f : ∀ d, P d → P' d) (q : t E ρ P) : t E ρ P' := h.mono2 E E ρ P P' (fun _ _ z => z) f q
theorem RfB.mono {K : Fg} {cl : Cl} {W : WX} {te : TT} {t : DB} (h : RfB K cl W te t) (E : EK) (ρ : DL.Env) (P P' : Bool → Prop) (f : ∀ d, P d → P' d) (q : t E ρ P) : t E ρ P' := h.mono2 E E ρ P P' (fun _ _ z => z) f q
theorem RfA.mono {K : Fg} {cl : Cl} {W : WX} {te : TA} {t : DA} (h : RfA K cl W te t) (E : EK) (ρ : DL.Env) (P P' : List D → Prop) (f : ∀ d, P d → P' d) (q : t E ρ P) : t E ρ P' := h.mono2 E E ρ P P' (fun _ _ z => z) f q
theorem RfI.mono {K : Fg} {cl : Cl} {W : WX} {te : TI} {t : DI} (h : RfI K cl W te t) (E : EK) (ρ : DL.Env) (P P' : List D → Prop) (f : ∀ d, P d → P' d) (q : t E ρ P) : t E ρ P' := h.mono2 E E ρ P P' (fun _ _ z => z) f q
theorem RfO.mono {K : Fg} {cl : Cl} {W : WX} {te : TO} {t : DO} (h : RfO K cl W te t) (E : EK) (ρ : DL.Env) (P P' : Option Int → Prop) (f : ∀ d, P d → P' d) (q : t E ρ P) : t E ρ P' := h.mono2 E E ρ P P' (fun _ _ z => z) f q
theorem RfS.mono {K : Fg} {cl : Cl} {W : WX} {ts : TS} {t : DS} (h : RfS K cl W ts t) (E : EK) (A B : DE) (ρ : DL.Env) (f : LeD A B) (q : t E A ρ) : t E B ρ := h.mono2 E E A B ρ (fun _ _ z => z) f q

/-! ### the rules' own form: syntax, reading, transformer -/
structure VE (X : Cx) (K : Fg) (cl : Cl) (W : WX) (e : Expr) (te : TE) (t : DT) : Prop where
  pe : PE X e te
  rf : RfE K cl W te t
  hK : X.K = K
structure VB (X : Cx) (K : Fg) (cl : Cl) (W : WX) (e : Expr) (te : TT) (t : DB) : Prop where
  pe : PT X e te
  rf : RfB K cl W te t
  hK : X.K = K
structure VW (X : Cx) (K : Fg) (cl : Cl) (W : WX) (e : Expr) (te : TT) (t : DB) : Prop where
  pe : PW X e te
  rf : RfB K cl W te t
  hK : X.K = K
structure VA (X : Cx) (K : Fg) (cl : Cl) (W : WX) (e : List Expr) (te : TA) (t : DA) : Prop where
  pe : PA X e te
  rf : RfA K cl W te t
  hK : X.K = K
structure VI (X : Cx) (K : Fg) (cl : Cl) (W : WX) (tg e : Expr) (te : TI) (t : DI) : Prop where
  pe : PI X tg e te
  rf : RfI K cl W te t
  hK : X.K = K
structure VG (X : Cx) (K : Fg) (cl : Cl) (js : List Nat) (e : Expr) (te : TG) (t : DG) : Prop where
  pe : PG X e te
  rf : RfG K cl js te t
  hK : X.K = K
structure VGs (X : Cx) (K : Fg) (cl : Cl) (js : List Nat) (e : List Expr) (te : TGs) (t : DGs) : Prop where
  pe : PGs X e te
  rf : RfGs K cl js te t
  hK : X.K = K
structure VO (X : Cx) (K : Fg) (cl : Cl) (W : WX) (e : Option Expr) (te : TO) (t : DO) : Prop where
  pe : PO X e te
  rf : RfO K cl W te t
  hK : X.K = K
structure VS (X : Cx) (K : Fg) (cl : Cl) (W : WX) (e : Stmt) (te : TS) (t : DS) : Prop where
  pe : PS X e te
  rf : RfS K cl W te t
  hK : X.K = K
structure VSs (X : Cx) (K : Fg) (cl : Cl) (W : WX) (e : List Stmt) (te : TS) (t : DS) : Prop where
  pe : PSs X e te
  rf : RfS K cl W te t
  hK : X.K = K

section
variable {K : Fg} {cl : Cl} {W : WX} {ta tb tc : TE} {a b c : DT}
/-! ### expressions -/
theorem rfe_var {i : Nat} : RfE K cl W (tVar i) (dVar i) where
  mono2 := fun E E' ρ P P' hE h q => by
    unfold dVar at q ⊢
    split at q
    · exact h _ q
    · exact q.elim
  ok := fun F0 H0 F H σ ρ E Q hh _ q => by
    unfold dVar at q
    split at q
    · rename_i d e
      obtain ⟨v, e1, r⟩ := hh.var e
      exact ⟨v, e1, q v F H (Gr.refl hh.g.s) r⟩
    · exact q.elim
theorem rfe_c {v : V} {d : D} (r : ∀ F, Rep K cl F v d) : RfE K cl W (tC v) (dC d) where
  mono2 := fun E E' ρ P P' hE h q => h _ q
  ok := fun F0 H0 F H σ ρ E Q hh _ q => q v F H (Gr.refl hh.g.s) (r F)
structure RfOp (K : Fg) (cl : Cl) (r : R2) (f : D → D → DK → Prop) : Prop where
  mono : ∀ x y (P P' : DK), (∀ d, P d → P' d) → f x y P → f x y P'
  ok : ∀ F H v u x y (Q : VK), Same F H → Rep K cl F v x → Rep K cl F u y → f x y (fun d => ∀ v' F' H', Gr F H F' H' → Rep K cl F' v' d → Q v' H') → r v u H Q
theorem rfe_op {r : R2} {f : D → D → DK → Prop} (o : RfOp K cl r f) (ha : RfE K cl W ta a) (hb : RfE K cl W tb b) : RfE K cl W (tOp r ta tb) (dOp f a b) where
  mono2 := fun E E' ρ P P' hE h q => ha.mono2 E E' ρ _ _ hE (fun x q => hb.mono2 E E' ρ _ _ hE (fun y q => o.mono x y P P' h q) q) q
  ok := fun F0 H0 F H σ ρ E Q hh le q => by
    refine ha.ok F0 H0 F H σ ρ E _ hh le (ha.mono E ρ _ _ (fun x q v F1 H1 g1 r1 => ?_) q)
    refine hb.ok F0 H0 F1 H1 σ ρ E _ (hh.grow g1) le (hb.mono E ρ _ _ (fun y q u F2 H2 g2 r2 => ?_) q)
    exact o.ok F2 H2 v u x y Q g2.s (r1.mono g2.f) r2 (o.mono x y _ _ (fun d q v' F' H' g3 r3 => q v' F' H' ((g1.trans g2).trans g3) r3) q)
structure RfU (K : Fg) (cl : Cl) (r : V → Hp → VK → Prop) (f : D → DK → Prop) : Prop where
  mono : ∀ x (P P' : DK), (∀ d, P d → P' d) → f x P → f x P'
  ok : ∀ F H v x (Q : VK), Same F H → Rep K cl F v x → f x (fun d => ∀ v' F' H', Gr F H F' H' → Rep K cl F' v' d → Q v' H') → r v H Q
theorem rfe_un {r : V → Hp → VK → Prop} {f : D → DK → Prop} (o : RfU K cl r f) (ha : RfE K cl W ta a) : RfE K cl W (tUn r ta) (dUn f a) where
  mono2 := fun E E' ρ P P' hE h q => ha.mono2 E E' ρ _ _ hE (fun x q => o.mono x P P' h q) q
  ok := fun F0 H0 F H σ ρ E Q hh le q => by
    refine ha.ok F0 H0 F H σ ρ E _ hh le (ha.mono E ρ _ _ (fun x q v F1 H1 g1 r1 => ?_) q)
    exact o.ok F1 H1 v x Q g1.s r1 (o.mono x _ _ (fun d q v' F' H' g3 r3 => q v' F' H' (g1.trans g3) r3) q)
/-- calls on lists of values -/
structure RfC (K : Fg) (cl : Cl) (r : List V → Hp → VK → Prop) (f : List D → DK → Prop) : Prop where
  mono : ∀ x (P P' : DK), (∀ d, P d → P' d) → f x P → f x P'
  ok : ∀ F H v x (Q : VK), Same F H → Reps K cl F v x → f x (fun d => ∀ v' F' H', Gr F H F' H' → Rep K cl F' v' d → Q v' H') → r v H Q
theorem rfa_nil : RfA K cl W tNil aNil where
  mono2 := fun E E' ρ P P' hE h q => h _ q
  ok := fun F0 H0 F H σ ρ E Q hh _ q => q [] F H (Gr.refl hh.g.s) .nil
theorem rfa_cons {tr : TA} {r : DA} (ha : RfE K cl W ta a) (hr : RfA K cl W tr r) : RfA K cl W (tCons ta tr) (aCons a r) where
  mono2 := fun E E' ρ P P' hE h q => ha.mono2 E E' ρ _ _ hE (fun x q => hr.mono2 E E' ρ _ _ hE (fun y q => h _ q) q) q
  ok := fun F0 H0 F H σ ρ E Q hh le q => by
    refine ha.ok F0 H0 F H σ ρ E _ hh le (ha.mono E ρ _ _ (fun x q v F1 H1 g1 r1 => ?_) q)
    refine hr.ok F0 H0 F1 H1 σ ρ E _ (hh.grow g1) le (hr.mono E ρ _ _ (fun y q u F2 H2 g2 r2 => ?_) q)
    exact q _ F2 H2 (g1.trans g2) (.cons (r1.mono g2.f) r2)
theorem rfe_cb {tr : TA} {r : DA} {rr : List V → Hp → VK → Prop} {f : List D → DK → Prop} (o : RfC K cl rr f) (hr : RfA K cl W tr r) : RfE K cl W (tCB rr tr) (dBlt f r) where
  mono2 := fun E E' ρ P P' hE h q => hr.mono2 E E' ρ _ _ hE (fun x q => o.mono x P P' h q) q
  ok := fun F0 H0 F H σ ρ E Q hh le q => by
    refine hr.ok F0 H0 F H σ ρ E _ hh le (hr.mono E ρ _ _ (fun x q v F1 H1 g1 r1 => ?_) q)
    exact o.ok F1 H1 v x Q g1.s r1 (o.mono x _ _ (fun d q v' F' H' g3 r3 => q v' F' H' (g1.trans g3) r3) q)
theorem Reps.length {F : Hp} {vs : List V} {ds : List D} (r : Reps K cl F vs ds) : vs.length = ds.length := by
  induction ds generalizing vs with
  | nil => cases r; rfl
  | cons d ds ih => cases r with
    | cons h r => simp [ih r]
theorem rfe_tup {tr : TA} {r : DA} (hr : RfA K cl W tr r) : RfE K cl W (tTup tr) (dTup r) where
  mono2 := fun E E' ρ P P' hE h q => hr.mono2 E E' ρ _ _ hE (fun x q => ⟨q.1, h _ q.2⟩) q
  ok := fun F0 H0 F H σ ρ E Q hh le q => by
    refine hr.ok F0 H0 F H σ ρ E _ hh le (hr.mono E ρ _ _ (fun x q v F1 H1 g1 r1 => ?_) q)
    refine ⟨by rw [r1.length, ← line_eq]; exact q.1, fun p hp => ?_⟩
    exact q.2 _ (upd F1 p (.tup v)) _ (g1.trans (Gr.new g1.s hp)) (.tup (SqT.of upd_same) (r1.mono (same_upd (g1.s.free hp))))
/-- a new list that may still be changed -/
structure RfN (K : Fg) (cl : Cl) (W : WX) (te : TE) (t : DT) : Prop where
  mono2 : ∀ E E' ρ (P P' : DK), (∀ e ρ, E e ρ → E' e ρ) → (∀ d, P d → P' d) → t E ρ P → t E' ρ P'
  ok : ∀ F0 H0 F H σ ρ E (Q : VK), Hold K cl F0 H0 F H σ ρ → LinkE K cl F0 H0 W E → t E ρ (fun d => ∀ p F' H', Gr F H F' H' → H p = none → F' p = none → Own K cl F' H' p d → Q (.ref p) H') → te σ H Q
theorem RfN.mono {te : TE} {t : DT} (h : RfN K cl W te t) (E : EK) (ρ : DL.Env) (P P' : DK) (f : ∀ d, P d → P' d) (q : t E ρ P) : t E ρ P' := h.mono2 E E ρ P P' (fun _ _ z => z) f q
theorem RfN.e {te : TE} {t : DT} (h : RfN K cl W te t) : RfE K cl W te t where
  mono2 := h.mono2
  ok := fun F0 H0 F H σ ρ E Q hh le q => by
    refine h.ok F0 H0 F H σ ρ E Q hh le (h.mono E ρ _ _ (fun d q p F' H' g hp hf w => ?_) q)
    obtain ⟨ob, ho⟩ := w.there
    have sf : Same F' (upd F' p ob) := same_upd hf
    have s2 : Same (upd F' p ob) H' := fun b u z => by
      by_cases hb : b = p
      · subst hb
        rw [upd_same] at z
        cases z
        exact ho
      · rw [upd_ne hb] at z
        exact g.s b u z
    refine q _ (upd F' p ob) H' ⟨g.f.trans sf, g.k, s2, fun c x y => ?_⟩ ?_
    · by_cases hc : c = p
      · subst hc; exact hp
      · rw [upd_ne hc] at x
        exact g.n c x y
    · have eo : (upd F' p ob) p = some ob := upd_same
      cases d with
      | lst ds => obtain ⟨vs, z, r⟩ := w; rw [ho] at z; cases z; exact .lst eo (r.mono sf)
      | dk ds => obtain ⟨vs, z, r⟩ := w; rw [ho] at z; cases z; exact .dk eo (r.mono sf)
      | dt ds => obtain ⟨vs, z, r⟩ := w; rw [ho] at z; cases z; exact .dt eo (r.mono sf)
      | ins c ds => obtain ⟨vs, ⟨C, dx, n, z, o, _⟩, r⟩ := w; rw [ho] at z; cases z; exact .ins n eo (sf _ _ o) (r.mono sf)
      | _ => exact w.elim
theorem rfn_lst {tr : TA} {r : DA} (hr : RfA K cl W tr r) : RfN K cl W (tLst tr) (dLst r) where
  mono2 := fun E E' ρ P P' hE h q => hr.mono2 E E' ρ _ _ hE (fun x q => ⟨q.1, h _ q.2⟩) q
  ok := fun F0 H0 F H σ ρ E Q hh le q => by
    refine hr.ok F0 H0 F H σ ρ E _ hh le (hr.mono E ρ _ _ (fun x q v F1 H1 g1 r1 => ?_) q)
    refine ⟨by rw [r1.length, ← line_eq]; exact q.1, fun p hp => ?_⟩
    exact q.2 p F1 _ (g1.trans (Gr.h g1.s (same_upd hp))) (g1.k.free hp) (g1.s.free hp) ⟨v, upd_same, r1⟩

/-! ### tests -/
theorem rfb_T {te : TE} {t : DT} (ha : RfE K cl W te t) : RfB K cl W (tB te) (bT t) where
  mono2 := fun E E' ρ P P' hE h q => ha.mono2 E E' ρ _ _ hE (fun x q => by cases x <;> first | exact h _ q | exact q.elim) q
  ok := fun F0 H0 F H σ ρ E Q hh le q => by
    refine ha.ok F0 H0 F H σ ρ E _ hh le (ha.mono E ρ _ _ (fun x q v F1 H1 g1 r1 => ?_) q)
    cases r1 with
    | bl b => exact ⟨b, rfl, q F1 H1 g1⟩
    | _ => exact q.elim
theorem rfb_and {t u : TT} {p r : DB} (ha : RfB K cl W t p) (hb : RfB K cl W u r) : RfB K cl W (tAnd t u) (bAnd p r) where
  mono2 := fun E E' ρ P P' hE h q => ha.mono2 E E' ρ _ _ hE (fun k q => by
    cases k with
    | true => exact hb.mono2 E E' ρ _ _ hE h q
    | false => exact h _ q) q
  ok := fun F0 H0 F H σ ρ E Q hh le q => by
    refine ha.ok F0 H0 F H σ ρ E _ hh le (ha.mono E ρ _ _ (fun k q F1 H1 g1 => ?_) q)
    cases k with
    | true => exact hb.ok F0 H0 F1 H1 σ ρ E Q (hh.grow g1) le (hb.mono E ρ _ _ (fun k q F2 H2 g2 => q F2 H2 (g1.trans g2)) q)
    | false => exact q F1 H1 g1
theorem rfb_or {t u : TT} {p r : DB} (ha : RfB K cl W t p) (hb : RfB K cl W u r) : RfB K cl W (tOr t u) (bOr p r) where
  mono2 := fun E E' ρ P P' hE h q => ha.mono2 E E' ρ _ _ hE (fun k q => by
    cases k with
    | false => exact hb.mono2 E E' ρ _ _ hE h q
    | true => exact h _ q) q
  ok := fun F0 H0 F H σ ρ E Q hh le q => by
    refine ha.ok F0 H0 F H σ ρ E _ hh le (ha.mono E ρ _ _ (fun k q F1 H1 g1 => ?_) q)
    cases k with
    | false => exact hb.ok F0 H0 F1 H1 σ ρ E Q (hh.grow g1) le (hb.mono E ρ _ _ (fun k q F2 H2 g2 => q F2 H2 (g1.trans g2)) q)
    | true => exact q F1 H1 g1
theorem rfb_not {t : TT} {p : DB} (ha : RfB K cl W t p) : RfB K cl W (tNot t) (bNot p) where
  mono2 := fun E E' ρ P P' hE h q => ha.mono2 E E' ρ _ _ hE (fun k q => h _ q) q
  ok := fun F0 H0 F H σ ρ E Q hh le q => ha.ok F0 H0 F H σ ρ E _ hh le q
theorem rfe_andV {ta tb : TE} {a b : DT} (ha : RfE K cl W ta a) (hb : RfE K cl W tb b) : RfE K cl W (tAndV ta tb) (dAndV a b) where
  mono2 := fun E E' ρ P P' hE h q => ha.mono2 E E' ρ _ _ hE (fun x q => by
    cases x with
    | bl k =>
      cases k with
      | true => exact hb.mono2 E E' ρ _ _ hE h q
      | false => exact h _ q
    | _ => exact q.elim) q
  ok := fun F0 H0 F H σ ρ E Q hh le q => by
    refine ha.ok F0 H0 F H σ ρ E _ hh le (ha.mono E ρ _ _ (fun x q v F1 H1 g1 r1 => ?_) q)
    cases r1 with
    | bl k =>
      refine ⟨k, rfl, ?_⟩
      cases k with
      | true => exact hb.ok F0 H0 F1 H1 σ ρ E Q (hh.grow g1) le (hb.mono E ρ _ _ (fun y q v F2 H2 g2 r2 => q v F2 H2 (g1.trans g2) r2) q)
      | false => exact q _ F1 H1 g1 (.bl false)
    | _ => exact q.elim
theorem rfe_orV {ta tb : TE} {a b : DT} (ha : RfE K cl W ta a) (hb : RfE K cl W tb b) : RfE K cl W (tOrV ta tb) (dOrV a b) where
  mono2 := fun E E' ρ P P' hE h q => ha.mono2 E E' ρ _ _ hE (fun x q => by
    cases x with
    | bl k =>
      cases k with
      | false => exact hb.mono2 E E' ρ _ _ hE h q
      | true => exact h _ q
    | _ => exact q.elim) q
  ok := fun F0 H0 F H σ ρ E Q hh le q => by
    refine ha.ok F0 H0 F H σ ρ E _ hh le (ha.mono E ρ _ _ (fun x q v F1 H1 g1 r1 => ?_) q)
    cases r1 with
    | bl k =>
      refine ⟨k, rfl, ?_⟩
      cases k with
      | false => exact hb.ok F0 H0 F1 H1 σ ρ E Q (hh.grow g1) le (hb.mono E ρ _ _ (fun y q v F2 H2 g2 r2 => q v F2 H2 (g1.trans g2) r2) q)
      | true => exact q _ F1 H1 g1 (.bl true)
    | _ => exact q.elim
theorem rfe_notV {ta : TE} {a : DT} (ha : RfE K cl W ta a) : RfE K cl W (tNotV ta) (dNotV a) where
  mono2 := fun E E' ρ P P' hE h q => ha.mono2 E E' ρ _ _ hE (fun x q => by cases x <;> first | exact h _ q | exact q.elim) q
  ok := fun F0 H0 F H σ ρ E Q hh le q => by
    refine ha.ok F0 H0 F H σ ρ E _ hh le (ha.mono E ρ _ _ (fun x q v F1 H1 g1 r1 => ?_) q)
    cases r1 with
    | bl k => exact ⟨k, rfl, q _ F1 H1 g1 (.bl _)⟩
    | _ => exact q.elim
theorem rfe_if {t : TT} {p : DB} (hc : RfB K cl W t p) (ha : RfE K cl W ta a) (hb : RfE K cl W tb b) : RfE K cl W (tIf t ta tb) (dIf p a b) where
  mono2 := fun E E' ρ P P' hE h q => hc.mono2 E E' ρ _ _ hE (fun k q => by
    cases k with
    | true => exact ha.mono2 E E' ρ _ _ hE h q
    | false => exact hb.mono2 E E' ρ _ _ hE h q) q
  ok := fun F0 H0 F H σ ρ E Q hh le q => by
    refine hc.ok F0 H0 F H σ ρ E _ hh le (hc.mono E ρ _ _ (fun k q F1 H1 g1 => ?_) q)
    cases k with
    | true => exact ha.ok F0 H0 F1 H1 σ ρ E Q (hh.grow g1) le (ha.mono E ρ _ _ (fun y q v F2 H2 g2 r2 => q v F2 H2 (g1.trans g2) r2) q)
    | false => exact hb.ok F0 H0 F1 H1 σ ρ E Q (hh.grow g1) le (hb.mono E ρ _ _ (fun y q v F2 H2 g2 r2 => q v F2 H2 (g1.trans g2) r2) q)
theorem rfe_chain {r r' : R2} {f g : D → D → DK → Prop} (o : RfOp K cl r f) (o' : RfOp K cl r' g) (ha : RfE K cl W ta a) (hb : RfE K cl W tb b) (hc : RfE K cl W tc c) : RfE K cl W (tChain r r' ta tb tc) (dChain f g a b c) where
  mono2 := fun E E' ρ P P' hE h q => ha.mono2 E E' ρ _ _ hE (fun x q => hb.mono2 E E' ρ _ _ hE (fun y q => o.mono x y _ _ (fun z q => by
    cases z with
    | bl k =>
      cases k with
      | true => exact hc.mono2 E E' ρ _ _ hE (fun u q => o'.mono y u _ _ h q) q
      | false => exact h _ q
    | _ => exact q.elim) q) q) q
  ok := fun F0 H0 F H σ ρ E Q hh le q => by
    refine ha.ok F0 H0 F H σ ρ E _ hh le (ha.mono E ρ _ _ (fun x q v F1 H1 g1 r1 => ?_) q)
    refine hb.ok F0 H0 F1 H1 σ ρ E _ (hh.grow g1) le (hb.mono E ρ _ _ (fun y q u F2 H2 g2 r2 => ?_) q)
    refine o.ok F2 H2 v u x y _ g2.s (r1.mono g2.f) r2 (o.mono x y _ _ (fun z q w F3 H3 g3 r3 => ?_) q)
    cases r3 with
    | bl k =>
      refine ⟨k, rfl, ?_⟩
      cases k with
      | false => exact q _ F3 H3 ((g1.trans g2).trans g3) (.bl false)
      | true =>
        refine hc.ok F0 H0 F3 H3 σ ρ E _ (((hh.grow g1).grow g2).grow g3) le (hc.mono E ρ _ _ (fun s q t F4 H4 g4 r4 => ?_) q)
        exact o'.ok F4 H4 u t y s Q g4.s ((r2.mono g3.f).mono g4.f) r4 (o'.mono y s _ _ (fun d q v' F' H' g5 r5 => q v' F' H' ((((g1.trans g2).trans g3).trans g4).trans g5) r5) q)
    | _ => exact q.elim
end
end DL

set_option maxHeartbeats 4000000
/-! DTup: tuple * int, the small counts. -/
namespace DL
open PySem PySem.Spec L2 PyProof.Rows
theorem tupMul_same (l : Addr) (items : Array Value) (n : Nat) (dd : Option Addr) (sl : Array (Option Value)) (x : Int) (u : Tok) (c0 : (decide (x < -(2 ^ 63)) || decide (x ≥ 2 ^ 63)) = false) (c1 : (items.isEmpty || x == 1) = true) :
    Meets (Builtin.«tuple.__mul__» ⟨[.ref l, .int x u], []⟩) (fun _ R s => s.heap.get? l = some { cls := .type "tuple", dict := dd, data := .seq items n, slots := sl } ∧ R (.ok (.ret (Value.ref l))) s) :=
  .of_wp fun prog w A R s h => by
    obtain ⟨hp, g, d, tk, os⟩ := s
    obtain ⟨hl, h⟩ := h
    have f1 := AutoSeq1.idx_int
    wp_walk using wpAny_loadPart' hl
    repeat (first
      | (refine wpAny_ite_false (decide_eq_false (by rw [c0]; exact Bool.false_ne_true)) ?_; wp_walk using wpAny_loadPart' hl)
      | (refine wpAny_ite_true (decide_eq_true c1) ?_; wp_walk using wpAny_loadPart' hl))
    exact ⟨_, rfl, h⟩
theorem tupMul_none (l : Addr) (items : Array Value) (n : Nat) (dd : Option Addr) (sl : Array (Option Value)) (x : Int) (u : Tok) (c0 : (decide (x < -(2 ^ 63)) || decide (x ≥ 2 ^ 63)) = false) (c1 : (items.isEmpty || x == 1) = false) (c2 : (decide (x ≤ 0) || items.isEmpty) = true) :
    Meets (Builtin.«tuple.__mul__» ⟨[.ref l, .int x u], []⟩) (fun _ R s => s.heap.get? l = some { cls := .type "tuple", dict := dd, data := .seq items n, slots := sl } ∧
      R (.ok (.ret (Value.ref s.heap.objs.size))) { s with heap := s.heap.push { cls := Value.type "tuple", data := Data.seq #[] }, toks := s.toks }) :=
  .of_wp fun prog w A R s h => by
    obtain ⟨hp, g, d, tk, os⟩ := s
    obtain ⟨hl, h⟩ := h
    have f1 := AutoSeq1.idx_int
    wp_walk using wpAny_loadPart' hl
    repeat (first
      | (refine wpAny_ite_false (decide_eq_false (by rw [c0]; exact Bool.false_ne_true)) ?_; wp_walk using wpAny_loadPart' hl)
      | (refine wpAny_ite_false (decide_eq_false (by rw [c1]; exact Bool.false_ne_true)) ?_; wp_walk using wpAny_loadPart' hl)
      | (refine wpAny_ite_true (decide_eq_true c2) ?_; wp_walk using wpAny_loadPart' hl))
    exact ⟨_, rfl, h⟩
/-- tuple * int, any small count -/
def rRepU (K : Fg) : R2 := fun x y H Q => ∃ l k xs, x = .ref l ∧ y = .int k ∧ SqT K H l xs ∧ -(2 ^ 63) ≤ k ∧ k ≤ 1000 ∧ xs.length ≤ 1000 ∧
  ((xs = [] ∨ k = 1) ∧ Q (.ref l) H ∨ xs ≠ [] ∧ k ≠ 1 ∧ ∀ p, H p = none → Q (.ref p) (upd H p (.tup (List.replicate k.toNat xs).flatten)))
theorem op_repU {X : Cx} : OpR X (binaryOp .Mult) (rRepU X.K) := by
  intro pins s σ H x y v u Q I rx ry h
  obtain ⟨l, k, xs, rfl, rfl, hT, h0, h2, hz, q⟩ := h
  by_cases hk : xs ≠ [] ∧ 2 ≤ k
  · refine op_repT pins s σ H _ _ v u Q I rx ry ⟨l, k, xs, rfl, rfl, hT, hk.1, hk.2, h2, hz, ?_⟩
    rcases q with ⟨q | q, _⟩ | ⟨_, _, q⟩
    · exact absurd q hk.1
    · omega
    · exact q
  cases rx
  obtain ⟨t, rfl⟩ := ry
  obtain ⟨its, r, ⟨⟨cls, dd, data, sl⟩, ho, hc, n, hd⟩, hs⟩ := I.tuple hT
  simp only at hc hd
  subst hc hd
  have hle : its.length = xs.length := r.length.symm
  have c0 : (decide (k < -(2 ^ 63)) || decide (k ≥ 2 ^ 63)) = false := by
    rw [decide_eq_false (by omega), decide_eq_false (by omega)] <;> rfl
  rcases q with ⟨hq, q⟩ | ⟨hne, hk1, q⟩
  · have c1 : (its.toArray.isEmpty || k == 1) = true := by
      rcases hq with z | z
      · have : its = [] := List.eq_nil_of_length_eq_zero (by rw [hle, z]; rfl)
        rw [this]
        rfl
      · rw [z]
        simp
    refine wpAny_binaryOp_repeat_ref (T := "tuple") (U := "int") (by decide) ⟨_, ho, rfl⟩ (fun s' => typeIs_int s' k t) noFill_tuple_mul F.fills_int_mul F.slot_int_rmul repeat_tuple F.slot_int_index.lookup
      (call_meets F.slot_int_rmul (typeIs_int s k t) F.entry_int_rmul (F.args_int_rmul_2 _ _) (int_rmul_tuple k t l its.toArray n dd sl)
        ⟨ho, rfl, ⟨_, ho, rfl⟩, call_meets F.slot_tuple_mul ⟨_, ho, rfl⟩ F.entry_tuple_mul (F.args_tuple_mul_2 _ _) (tupMul_same l its.toArray n dd sl k t c0 c1) ⟨ho, ?_⟩⟩)
    exact ⟨.ref l, _, I, rfl, q⟩
  · have hn : its ≠ [] := fun e => hne (by
      rw [e] at hle
      exact List.eq_nil_of_length_eq_zero hle.symm)
    have hi : its.toArray.isEmpty = false := by
      cases its with
      | nil => exact absurd rfl hn
      | cons a b => rfl
    have hk0 : k ≤ 0 := by
      rcases Classical.em (2 ≤ k) with z | z
      · exact absurd ⟨hne, z⟩ hk
      · omega
    have c1 : (its.toArray.isEmpty || k == 1) = false := by
      rw [hi, Bool.false_or]
      exact beq_eq_false_iff_ne.mpr (by omega)
    have c2 : (decide (k ≤ 0) || its.toArray.isEmpty) = true := by
      rw [decide_eq_true hk0]
      rfl
    refine wpAny_binaryOp_repeat_ref (T := "tuple") (U := "int") (by decide) ⟨_, ho, rfl⟩ (fun s' => typeIs_int s' k t) noFill_tuple_mul F.fills_int_mul F.slot_int_rmul repeat_tuple F.slot_int_index.lookup
      (call_meets F.slot_int_rmul (typeIs_int s k t) F.entry_int_rmul (F.args_int_rmul_2 _ _) (int_rmul_tuple k t l its.toArray n dd sl)
        ⟨ho, rfl, ⟨_, ho, rfl⟩, call_meets F.slot_tuple_mul ⟨_, ho, rfl⟩ F.entry_tuple_mul (F.args_tuple_mul_2 _ _) (tupMul_none l its.toArray n dd sl k t c0 c1 c2) ⟨ho, ?_⟩⟩)
    have e0 : (List.replicate k.toNat xs).flatten = [] := by
      rw [show k.toNat = 0 by omega]
      rfl
    rw [e0] at q
    exact ⟨.ref s.heap.objs.size, _, I.laid (t' := s.toks) (o := .tup []) (fun b ob q => Heap.get?_push_of_some _ q) (Nat.le_refl _) ⟨Nat.zero_le _, _, .nil, IsTup.new _ _⟩, rfl, q _ (I.hok.fresh (Nat.le_refl _))⟩
end DL

/-! DOps: operators, comparisons, subscripts by data. -/
namespace DL
open PySem L2
section
variable {X : Cx} {K : Fg} {cl : Cl}
/-! ### + - * // % ** -/
def rAddU (K : Fg) : R2 := fun x y H Q => rI0 (fun i j => .int (i + j)) x y H Q ∨ (∃ i j, x = .str i ∧ y = .str j ∧ i.length + j.length ≤ sizeLine ∧ Q (.str (i ++ j)) H) ∨ rCatA K x y H Q ∨ rCat x y H Q
theorem op_addU : OpR X (binaryOp .Add) (rAddU X.K) := op_add.or (op_add_str.or (op_catA.or op_cat))
theorem Reps.append {F : Hp} {vs us : List V} {ds es : List D} (a : Reps K cl F vs ds) (b : Reps K cl F us es) : Reps K cl F (vs ++ us) (ds ++ es) := by
  induction ds generalizing vs with
  | nil => cases a; exact b
  | cons d ds ih => cases a with
    | cons h r => exact .cons h (ih r)
theorem Reps.nil_iff {F : Hp} {vs : List V} {ds : List D} (a : Reps K cl F vs ds) : vs = [] ↔ ds = [] := by
  cases a <;> simp
theorem rf_add : RfOp K cl (rAddU K) oAdd where
  mono := fun x y P P' h q => by
    cases x <;> cases y <;> first | exact h _ q | exact ⟨q.1, h _ q.2⟩ | exact q.elim
  ok := fun F H v u x y Q s rx ry q => by
    cases rx with
    | int i => cases ry with
      | int j => exact .inl ⟨i, j, rfl, rfl, q _ F H (Gr.refl s) (.int _)⟩
      | _ => exact q.elim
    | str i => cases ry with
      | str j => exact .inr (.inl ⟨i, j, rfl, rfl, by rw [← line_eq]; exact q.1, q.2 _ F H (Gr.refl s) (.str _)⟩)
      | _ => exact q.elim
    | tup hx r1 => cases ry with
      | tup hy r2 =>
        obtain ⟨hz, q⟩ := q
        rename_i a vs ds b us es
        refine .inr (.inr (.inl ⟨a, b, vs, us, rfl, rfl, same_t s hx, same_t s hy, by rw [r1.length, r2.length, ← line_eq]; exact hz, fun e => ?_, fun _ e => ?_, fun _ _ p hp => ?_⟩))
        · have e' := r1.nil_iff.mp e
          subst e'
          exact q _ F H (Gr.refl s) (.tup hy r2)
        · have e' := r2.nil_iff.mp e
          subst e'
          rw [List.append_nil] at q
          exact q _ F H (Gr.refl s) (.tup hx r1)
        · exact q _ (upd F p (.tup (vs ++ us))) _ (Gr.new s hp) (.tup (SqT.of upd_same) ((r1.append r2).mono (same_upd (s.free hp))))
      | _ => exact q.elim
    | lst hx r1 => cases ry with
      | lst hy r2 =>
        obtain ⟨hz, q⟩ := q
        rename_i a vs ds b us es
        refine .inr (.inr (.inr ⟨a, b, vs, us, rfl, rfl, s _ _ hx, s _ _ hy, by rw [r1.length, r2.length, ← line_eq]; exact hz, fun p hp => ?_⟩))
        exact q _ (upd F p (.lst (vs ++ us))) _ (Gr.new s hp) (.lst upd_same ((r1.append r2).mono (same_upd (s.free hp))))
      | _ => exact q.elim
    | _ => exact q.elim
theorem rf_I0 {g : Int → Int → Int} {f : D → D → DK → Prop} (hf : ∀ i j Q, f (.int i) (.int j) Q = Q (.int (g i j))) (hn : ∀ x y Q, f x y Q → ∃ i j, x = .int i ∧ y = .int j) : RfOp K cl (rI0 fun i j => .int (g i j)) f where
  mono := fun x y P P' h q => by
    obtain ⟨i, j, rfl, rfl⟩ := hn x y P q
    rw [hf] at q ⊢
    exact h _ q
  ok := fun F H v u x y Q s rx ry q => by
    obtain ⟨i, j, rfl, rfl⟩ := hn x y _ q
    rw [hf] at q
    cases rx
    cases ry
    exact ⟨i, j, rfl, rfl, q _ F H (Gr.refl s) (.int _)⟩
theorem rf_I {C : Int → Int → Prop} {g : Int → Int → Int} {f : D → D → DK → Prop} (hf : ∀ i j Q, f (.int i) (.int j) Q = (C i j ∧ Q (.int (g i j)))) (hn : ∀ x y Q, f x y Q → ∃ i j, x = .int i ∧ y = .int j) : RfOp K cl (rI C fun i j => .int (g i j)) f where
  mono := fun x y P P' h q => by
    obtain ⟨i, j, rfl, rfl⟩ := hn x y P q
    rw [hf] at q ⊢
    exact ⟨q.1, h _ q.2⟩
  ok := fun F H v u x y Q s rx ry q => by
    obtain ⟨i, j, rfl, rfl⟩ := hn x y _ q
    rw [hf] at q
    cases rx
    cases ry
    exact ⟨i, j, rfl, rfl, q.1, q.2 _ F H (Gr.refl s) (.int _)⟩
theorem rf_sub : RfOp K cl (rI0 fun i j => .int (i - j)) oSub := rf_I0 (fun _ _ _ => rfl) fun x y Q q => by cases x <;> cases y <;> first | exact ⟨_, _, rfl, rfl⟩ | exact q.elim
theorem rf_div : RfOp K cl (rI CDivW fun i j => .int (i / j)) oDiv := rf_I (fun _ _ _ => rfl) fun x y Q q => by cases x <;> cases y <;> first | exact ⟨_, _, rfl, rfl⟩ | exact q.elim
theorem rf_mod : RfOp K cl (rI (fun _ j => 0 < j) fun i j => .int (i % j)) oMod := rf_I (fun _ _ _ => rfl) fun x y Q q => by cases x <;> cases y <;> first | exact ⟨_, _, rfl, rfl⟩ | exact q.elim
theorem rf_pow : RfOp K cl (rI CPow fun i j => .int (i ^ j.toNat)) oPow := rf_I (fun _ _ _ => rfl) fun x y Q q => by cases x <;> cases y <;> first | exact ⟨_, _, rfl, rfl⟩ | exact q.elim
def rMulU (K : Fg) : R2 := fun x y H Q => rI CMulW (fun i j => .int (i * j)) x y H Q ∨ rRep x y H Q ∨ rRepU K x y H Q
theorem op_mulU : OpR X (binaryOp .Mult) (rMulU X.K) := op_mulW.or (op_rep.or op_repU)
theorem Reps.rep {F : Hp} {vs : List V} {ds : List D} (a : Reps K cl F vs ds) : ∀ k : Nat, Reps K cl F (List.replicate k vs).flatten (List.replicate k ds).flatten
  | 0 => .nil
  | k + 1 => by
    rw [List.replicate_succ, List.replicate_succ, List.flatten_cons, List.flatten_cons]
    exact a.append (Reps.rep a k)
theorem rf_mul : RfOp K cl (rMulU K) oMul where
  mono := fun x y P P' h q => by
    cases x <;> cases y <;> first | exact ⟨q.1, h _ q.2⟩ | exact ⟨q.1, q.2.1, q.2.2.1, h _ q.2.2.2⟩ | exact ⟨q.1, q.2.1, q.2.2.1, h _ q.2.2.2⟩ | exact q.elim
  ok := fun F H v u x y Q s rx ry q => by
    cases rx with
    | int i => cases ry with
      | int j => exact .inl ⟨i, j, rfl, rfl, q.1, q.2 _ F H (Gr.refl s) (.int _)⟩
      | _ => exact q.elim
    | lst hx r1 => cases ry with
      | int k =>
        obtain ⟨h1, h2, h3, q⟩ := q
        rename_i a vs ds
        refine .inr (.inl ⟨a, k, vs, rfl, rfl, s _ _ hx, h1, h2, by rw [r1.length, ← line_eq]; exact h3, fun p hp => ?_⟩)
        exact q _ (upd F p (.lst _)) _ (Gr.new s hp) (.lst upd_same ((r1.rep _).mono (same_upd (s.free hp))))
      | _ => exact q.elim
    | tup hx r1 => cases ry with
      | int k =>
        obtain ⟨h1, h2, h3, q⟩ := q
        rename_i a vs ds
        refine .inr (.inr ⟨a, k, vs, rfl, rfl, same_t s hx, h1, h2, by rw [r1.length]; exact h3, ?_⟩)
        by_cases hv : vs = [] ∨ k = 1
        · refine .inl ⟨hv, q _ F H (Gr.refl s) ?_⟩
          have e : (List.replicate k.toNat ds).flatten = ds := by
            rcases hv with z | z
            · subst z
              cases r1
              simp
            · subst z
              simp
          rw [e]
          exact .tup hx r1
        · refine .inr ⟨fun z => hv (.inl z), fun z => hv (.inr z), fun p hp => ?_⟩
          exact q _ (upd F p (.tup _)) _ (Gr.new s hp) (.tup (.inl (.inl upd_same)) ((r1.rep _).mono (same_upd (s.free hp))))
      | _ => exact q.elim
    | _ => exact q.elim
theorem rf_neg : RfU K cl (rU fun i => .int (-i)) oNeg where
  mono := fun x P P' h q => by cases x <;> first | exact h _ q | exact q.elim
  ok := fun F H v x Q s rx q => by
    cases rx with
    | int i => exact ⟨i, rfl, q _ F H (Gr.refl s) (.int _)⟩
    | _ => exact q.elim
/-! ### == != -/
mutual
def toPy : D → PyData
  | .non => .none
  | .bl b => .bool b
  | .int i => .int i
  | .str x => .str x
  | .tup l => .tuple (toPys l)
  | .lst l => .list (toPys l)
  | _ => .none
def toPys : List D → List PyData
  | [] => []
  | d :: r => toPy d :: toPys r
end
mutual
theorem dp_of {F : Hp} : ∀ (n : Nat) (d : D) (v : V), okD n d = true → Rep K cl F v d → Dp K F v (toPy d)
  | _, .non, _, _, .non => by simp only [toPy]; exact .non
  | _, .bl b, _, _, .bl _ => by simp only [toPy]; exact .bl _
  | _, .int i, _, _, .int _ => by simp only [toPy]; exact .int _
  | _, .str x, _, _, .str _ => by simp only [toPy]; exact .str _
  | n + 1, .tup l, _, h, .tup e r => by
    simp only [toPy]
    exact .tup e (dps_of n l _ (by simpa [okD] using h) r)
  | n + 1, .lst l, _, h, .lst e r => by
    simp only [toPy]
    exact .lst (SqL.of e) (dps_of n l _ (by simpa [okD] using h) r)
  | 0, .tup l, _, h, _ => by simp [okD] at h
  | 0, .lst l, _, h, _ => by simp [okD] at h
theorem dps_of {F : Hp} : ∀ (n : Nat) (l : List D) (vs : List V), okDs n l = true → Reps K cl F vs l → DpAll K F vs (toPys l)
  | _, [], _, _, .nil => by simp only [toPys]; exact .nil
  | n, d :: l, _, h, .cons e r => by
    have h' : okD n d = true ∧ okDs n l = true := by simpa [okDs] using h
    simp only [toPys]
    exact .cons (dp_of n d _ h'.1 e) (dps_of n l _ h'.2 r)
end
mutual
theorem eqv_of : ∀ (n m : Nat) (a b : D), okD n a = true → okD m b = true → PyData.eqv (toPy a) (toPy b) = eqD a b
  | n, m, a, b, ha, hb => by
    cases a with
    | tup l =>
      cases n with
      | zero => simp [okD] at ha
      | succ n =>
        have ha' : okDs n l = true := by simpa [okD] using ha
        cases b with
        | tup k =>
          cases m with
          | zero => simp [okD] at hb
          | succ m =>
            have hb' : okDs m k = true := by simpa [okD] using hb
            have := eqvs_of n m l k ha' hb'
            simpa [toPy, eqD, PyData.eqv] using this
        | _ => first | (simp [toPy, eqD, PyData.eqv]; done) | (exfalso; cases m <;> simp [okD] at hb)
    | lst l =>
      cases n with
      | zero => simp [okD] at ha
      | succ n =>
        have ha' : okDs n l = true := by simpa [okD] using ha
        cases b with
        | lst k =>
          cases m with
          | zero => simp [okD] at hb
          | succ m =>
            have hb' : okDs m k = true := by simpa [okD] using hb
            have := eqvs_of n m l k ha' hb'
            simpa [toPy, eqD, PyData.eqv] using this
        | _ => first | (simp [toPy, eqD, PyData.eqv]; done) | (exfalso; cases m <;> simp [okD] at hb)
    | _ =>
      cases b <;> first
        | (simp [toPy, eqD, PyData.eqv]; done)
        | (exfalso; cases n <;> simp [okD] at ha; done)
        | (exfalso; cases m <;> simp [okD] at hb; done)
theorem eqvs_of : ∀ (n m : Nat) (a b : List D), okDs n a = true → okDs m b = true → PyData.eqvAll (toPys a) (toPys b) = eqDs a b
  | n, m, [], [], _, _ => by simp [toPys, eqDs, PyData.eqvAll]
  | n, m, [], _ :: _, _, _ => by simp [toPys, eqDs, PyData.eqvAll]
  | n, m, _ :: _, [], _, _ => by simp [toPys, eqDs, PyData.eqvAll]
  | n, m, x :: a, y :: b, ha, hb => by
    have ha' : okD n x = true ∧ okDs n a = true := by simpa [okDs] using ha
    have hb' : okD m y = true ∧ okDs m b = true := by simpa [okDs] using hb
    simp only [toPys, eqDs, PyData.eqvAll]
    rw [eqv_of n m x y ha'.1 hb'.1, eqvs_of n m a b ha'.2 hb'.2]
end

mutual
theorem lay_of : ∀ (n : Nat) (d : D), okD n d = true → (toPy d).canLay0 = true ∧ (toPy d).depth ≤ n
  | n, .non, _ => by simp [toPy, PyData.canLay0, PyData.depth]
  | n, .bl _, _ => by simp [toPy, PyData.canLay0, PyData.depth]
  | n, .int _, _ => by simp [toPy, PyData.canLay0, PyData.depth]
  | n, .str x, h => by
    have h' : x.cps.all (· < 0x110000) = true := by simpa only [okD] using h
    exact ⟨by simp only [toPy, PyData.canLay0]; exact h', by simp [toPy, PyData.depth]⟩
  | 0, .tup l, h => by simp [okD] at h
  | 0, .lst l, h => by simp [okD] at h
  | n + 1, .tup l, h => by
    have := lays_of n l (by simpa [okD] using h)
    simp only [toPy, PyData.canLay0, PyData.depth]
    exact ⟨this.1, by omega⟩
  | n + 1, .lst l, h => by
    have := lays_of n l (by simpa [okD] using h)
    simp only [toPy, PyData.canLay0, PyData.depth]
    exact ⟨this.1, by omega⟩
  | n, .dk _, h => by cases n <;> simp [okD] at h
  | n, .dt _, h => by cases n <;> simp [okD] at h
  | n, .ins _ _, h => by cases n <;> simp [okD] at h
  | n, .st, h => by cases n <;> simp [okD] at h
  | n, .scr _, h => by cases n <;> simp [okD] at h
  | n, .fn _, h => by cases n <;> simp [okD] at h
theorem lays_of : ∀ (n : Nat) (l : List D), okDs n l = true → PyData.canLayAll0 (toPys l) = true ∧ PyData.depthAll (toPys l) ≤ n
  | n, [], _ => by simp [toPys, PyData.canLayAll0, PyData.depthAll]
  | n, d :: l, h => by
    have h' : okD n d = true ∧ okDs n l = true := by simpa [okDs] using h
    have a := lay_of n d h'.1
    have b := lays_of n l h'.2
    simp only [toPys, PyData.canLayAll0, PyData.depthAll]
    exact ⟨by rw [a.1, b.1]; rfl, by omega⟩
end
theorem shaped_of {n : Nat} {d : D} (hn : n ≤ 64) (h : okD n d = true) : SeqAt.shaped (toPy d) = true := by
  have := lay_of n d h
  unfold SeqAt.shaped
  rw [this.1, decide_eq_true (show (toPy d).depth ≤ 64 by omega)]
  rfl
theorem rf_eq : RfOp K cl (rEqD K) oEq where
  mono := fun x y P P' h q => ⟨q.1, q.2.1, h _ q.2.2⟩
  ok := fun F H v u x y Q s rx ry q => by
    obtain ⟨h1, h2, q⟩ := q
    refine ⟨toPy x, toPy y, dp_of 60 x v h1 (rx.mono s), dp_of 60 y u h2 (ry.mono s), shaped_of (by decide) h1, shaped_of (by decide) h2, ?_⟩
    rw [eqv_of 60 60 x y h1 h2]
    exact q _ F H (Gr.refl s) (.bl _)
theorem rf_ne : RfOp K cl (rNeD K) oNe where
  mono := fun x y P P' h q => ⟨q.1, q.2.1, h _ q.2.2⟩
  ok := fun F H v u x y Q s rx ry q => by
    obtain ⟨h1, h2, q⟩ := q
    refine ⟨toPy x, toPy y, dp_of 60 x v h1 (rx.mono s), dp_of 60 y u h2 (ry.mono s), shaped_of (by decide) h1, shaped_of (by decide) h2, ?_⟩
    rw [eqv_of 60 60 x y h1 h2]
    exact q _ F H (Gr.refl s) (.bl _)
/-! ### order -/
def rCmpU (g : Int → Int → Bool) (h : Str → Str → Bool) : R2 := fun x y H Q => rI0 (fun i j => .bl (g i j)) x y H Q ∨ ∃ i j, x = .str i ∧ y = .str j ∧ Q (.bl (h i j)) H
theorem rf_cmpU {g : Int → Int → Bool} {h : Str → Str → Bool} {f : D → D → DK → Prop} (hi : ∀ i j Q, f (.int i) (.int j) Q = Q (.bl (g i j))) (hs : ∀ i j Q, f (.str i) (.str j) Q = Q (.bl (h i j)))
    (hn : ∀ x y Q, f x y Q → (∃ i j, x = .int i ∧ y = .int j) ∨ ∃ i j, x = .str i ∧ y = .str j) : RfOp K cl (rCmpU g h) f where
  mono := fun x y P P' h q => by
    rcases hn x y P q with ⟨i, j, rfl, rfl⟩ | ⟨i, j, rfl, rfl⟩
    · rw [hi] at q ⊢; exact h _ q
    · rw [hs] at q ⊢; exact h _ q
  ok := fun F H v u x y Q s rx ry q => by
    rcases hn x y _ q with ⟨i, j, rfl, rfl⟩ | ⟨i, j, rfl, rfl⟩
    · rw [hi] at q
      cases rx
      cases ry
      exact .inl ⟨i, j, rfl, rfl, q _ F H (Gr.refl s) (.bl _)⟩
    · rw [hs] at q
      cases rx
      cases ry
      exact .inr ⟨i, j, rfl, rfl, q _ F H (Gr.refl s) (.bl _)⟩
theorem op_ltU : OpR X (compareOp .Lt) (rCmpU (fun i j => decide (i < j)) fun i j => decide (i.cps.toList < j.cps.toList)) := op_lt.or op_lt_str
theorem op_leU : OpR X (compareOp .LtE) (rCmpU (fun i j => decide (i ≤ j)) fun i j => !decide (j.cps.toList < i.cps.toList)) := op_le.or op_le_str
theorem op_gtU : OpR X (compareOp .Gt) (rCmpU (fun i j => decide (j < i)) fun i j => decide (j.cps.toList < i.cps.toList)) := op_gt.or op_gt_str
theorem op_geU : OpR X (compareOp .GtE) (rCmpU (fun i j => decide (j ≤ i)) fun i j => !decide (i.cps.toList < j.cps.toList)) := op_ge.or op_ge_str
theorem rf_lt : RfOp K cl (rCmpU (fun i j => decide (i < j)) fun i j => decide (i.cps.toList < j.cps.toList)) oLt := rf_cmpU (fun _ _ _ => rfl) (fun _ _ _ => rfl) fun x y Q q => by
  cases x <;> cases y <;> first | exact .inl ⟨_, _, rfl, rfl⟩ | exact .inr ⟨_, _, rfl, rfl⟩ | exact q.elim
theorem rf_le : RfOp K cl (rCmpU (fun i j => decide (i ≤ j)) fun i j => !decide (j.cps.toList < i.cps.toList)) oLe := rf_cmpU (fun _ _ _ => rfl) (fun _ _ _ => rfl) fun x y Q q => by
  cases x <;> cases y <;> first | exact .inl ⟨_, _, rfl, rfl⟩ | exact .inr ⟨_, _, rfl, rfl⟩ | exact q.elim
theorem rf_gt : RfOp K cl (rCmpU (fun i j => decide (j < i)) fun i j => decide (j.cps.toList < i.cps.toList)) oGt := rf_cmpU (fun _ _ _ => rfl) (fun _ _ _ => rfl) fun x y Q q => by
  cases x <;> cases y <;> first | exact .inl ⟨_, _, rfl, rfl⟩ | exact .inr ⟨_, _, rfl, rfl⟩ | exact q.elim
theorem rf_ge : RfOp K cl (rCmpU (fun i j => decide (j ≤ i)) fun i j => !decide (i.cps.toList < j.cps.toList)) oGe := rf_cmpU (fun _ _ _ => rfl) (fun _ _ _ => rfl) fun x y Q q => by
  cases x <;> cases y <;> first | exact .inl ⟨_, _, rfl, rfl⟩ | exact .inr ⟨_, _, rfl, rfl⟩ | exact q.elim
/-! ### is None -/
theorem Rep.isNon {F : Hp} {v : V} {d : D} (r : Rep K cl F v d) : decide (v = .non) = DL.isNon d := by
  cases r <;> rfl
theorem rf_isN : RfOp K cl (fun x y H Q => y = .non ∧ Q (.bl (decide (x = .non))) H) (fun x y Q => isNon y = true ∧ oIsN x Q) where
  mono := fun x y P P' h q => ⟨q.1, h _ q.2⟩
  ok := fun F H v u x y Q s rx ry q => by
    refine ⟨?_, ?_⟩
    · have := q.1
      cases ry <;> first | rfl | cases this
    · rw [rx.isNon]
      exact q.2 _ F H (Gr.refl s) (.bl _)
theorem rf_notN : RfOp K cl (fun x y H Q => y = .non ∧ Q (.bl (!decide (x = .non))) H) (fun x y Q => isNon y = true ∧ oNotN x Q) where
  mono := fun x y P P' h q => ⟨q.1, h _ q.2⟩
  ok := fun F H v u x y Q s rx ry q => by
    refine ⟨?_, ?_⟩
    · have := q.1
      cases ry <;> first | rfl | cases this
    · rw [rx.isNon]
      exact q.2 _ F H (Gr.refl s) (.bl _)
end
end DL

/-! DOps2: in, subscripts, slices, truth. -/
namespace DL
open PySem L2 PyProof.Rows
section
variable {X : Cx} {K : Fg} {cl : Cl}
/-! ### in -/
theorem Reps.flat {F : Hp} : ∀ {vs : List V} {ds : List D}, Reps K cl F vs ds → ds.all isFlat = true → vs.all flatV = true
  | _, _, .nil, _ => rfl
  | _, _, .cons h r, q => by
    rw [List.all_cons, Bool.and_eq_true] at q ⊢
    refine ⟨?_, Reps.flat r q.2⟩
    cases h <;> first | rfl | (have := q.1; cases this)
theorem Rep.flat1 {F : Hp} {v : V} {d : D} (h : Rep K cl F v d) (q : isFlat d = true) : flatV v = true := by
  cases h <;> first | rfl | cases q
theorem eqV_D {F : Hp} {v u : V} {d e : D} (h : Rep K cl F v d) (g : Rep K cl F u e) (q : isFlat d = true) (p : isFlat e = true) : eqV v u = eqD d e := by
  cases h <;> first | (cases q; done) | (cases g <;> first | (cases p; done) | (simp [eqV, eqD]; done))
theorem inV_D {F : Hp} {v : V} {d : D} (h : Rep K cl F v d) (q : isFlat d = true) : ∀ {vs : List V} {ds : List D}, Reps K cl F vs ds → ds.all isFlat = true → inV v vs = inD d ds
  | _, _, .nil, _ => rfl
  | _, _, .cons g r, p => by
    rw [List.all_cons, Bool.and_eq_true] at p
    have ih := inV_D h q r p.2
    unfold inV inD at ih ⊢
    rw [List.any_cons, List.any_cons, ih, eqV_D g h p.1 q]
theorem any_D {n m : Nat} {d : D} (hd : okD n d = true) : ∀ {ds : List D}, okDs m ds = true → ((toPys ds).any fun z => PyData.eqv z (toPy d)) = inD d ds
  | [], _ => rfl
  | e :: ds, h => by
    have h' : okD m e = true ∧ okDs m ds = true := by simpa [okDs] using h
    have ih := any_D hd h'.2
    unfold inD at ih ⊢
    simp only [toPys]
    rw [List.any_cons, List.any_cons, ih, eqv_of m n e d h'.1 hd]
def rInK : R2 := fun y x H Q => ∃ a o, x = .ref a ∧ DGet H a y o ∧ Q (.bl o.isSome) H
theorem op_inK (hu : X.A.units + 1 < cLine) : OpR X (compareOp .In) rInK := by
  intro pins s σ H y x iv u Q I ry rx h
  obtain ⟨a, o, rfl, g, q⟩ := h
  obtain rfl : u = Value.ref a := rx
  exact d_in hu I g ry fun s3 I3 => ⟨.bl o.isSome, H, I3, rfl, q⟩
/-- in a tuple of data of any depth -/
def rInDT (K : Fg) : R2 := fun x y H Q => ∃ d ds, Dp K H x d ∧ Dp K H y (.tuple ds) ∧ SeqAt.shaped d = true ∧ SeqAt.shaped (.tuple ds) = true ∧ Q (.bl (ds.any fun z => PyData.eqv z d)) H
theorem op_inDT (hu : X.A.units + 65 < cLine) : OpR X (compareOp .In) (rInDT X.K) := fun pins s σ H x y v u Q I rx ry h => by
  obtain ⟨e, es, h1, h2, s1, s2, q⟩ := h
  obtain ⟨_, r1⟩ := Dp.reads I e x v h1 rx
  obtain ⟨_, r2⟩ := Dp.reads I (.tuple es) y u h2 ry
  exact SeqAt.in_tuple_reads r2 r1 (SeqAt.canLay_of_shaped s2) (SeqAt.canLay_of_shaped s1) (room_in_shaped s1 hu) ⟨.bl _, H, I, rfl, q⟩
def rNotInDT (K : Fg) : R2 := fun x y H Q => ∃ d ds, Dp K H x d ∧ Dp K H y (.tuple ds) ∧ SeqAt.shaped d = true ∧ SeqAt.shaped (.tuple ds) = true ∧ Q (.bl (!ds.any fun z => PyData.eqv z d)) H
theorem op_notInDT (hu : X.A.units + 65 < cLine) : OpR X (compareOp .NotIn) (rNotInDT X.K) := fun pins s σ H x y v u Q I rx ry h => by
  obtain ⟨e, es, h1, h2, s1, s2, q⟩ := h
  obtain ⟨_, r1⟩ := Dp.reads I e x v h1 rx
  obtain ⟨_, r2⟩ := Dp.reads I (.tuple es) y u h2 ry
  exact SeqAt.notIn_tuple_reads r2 r1 (SeqAt.canLay_of_shaped s2) (SeqAt.canLay_of_shaped s1) (room_in_shaped s1 hu) ⟨.bl _, H, I, rfl, q⟩
def rInU (K : Fg) : R2 := fun x y H Q => rInD K x y H Q ∨ rIn K false x y H Q ∨ rInK x y H Q ∨ rInDT K x y H Q
theorem op_inU (hu : X.A.units + 65 < cLine) : OpR X (compareOp .In) (rInU X.K) := (op_inD hu).or (op_in_seq.or ((op_inK (by omega)).or (op_inDT hu)))
theorem keyOf_rel {F : Hp} {v : V} {d : D} {k : DL.Key} (r : Rep K cl F v d) (h : keyOf d = some k) : v = kV k := by
  cases r <;> first | (cases h; rfl) | cases h
theorem KReps.look {F : Hp} (k : DL.Key) : ∀ {ws : List (L2.Key × V)} {kvs : List (DL.Key × D)}, KReps K cl F ws kvs → (lookD kvs k = none ∧ valV ws k = none) ∨ ∃ v d, lookD kvs k = some d ∧ valV ws k = some v ∧ Rep K cl F v d
  | _, _, .nil => .inl ⟨rfl, rfl⟩
  | _, _, .cons (k := k') h r => by
    have ih := KReps.look k r
    unfold lookD valV at ih ⊢
    rw [List.find?_cons, List.find?_cons]
    by_cases e : k' = k
    · simp only [e, decide_true]
      exact .inr ⟨_, _, rfl, rfl, h⟩
    · simp only [e, decide_false]
      exact ih
theorem rf_in : RfOp K cl (rInU K) oIn where
  mono := fun x y P P' h q => by
    cases y with
    | lst l => exact ⟨q.1, q.2.1, h _ q.2.2⟩
    | tup l => exact ⟨q.1, h _ q.2⟩
    | dk l =>
      simp only [oIn] at q ⊢
      cases e : keyOf x with
      | none => rw [e] at q; exact q.elim
      | some k => rw [e] at q; exact h _ q
    | _ => exact q.elim
  ok := fun F H v u x y Q s rx ry q => by
    cases ry with
    | lst e r =>
      rename_i a vs ds
      obtain ⟨h1, h2, q⟩ := q
      have h3 : okD 60 (.lst ds) = true := by simpa [okD] using h2
      refine .inl ⟨toPy x, toPys ds, dp_of 60 x v h1 (rx.mono s), ?_, shaped_of (by decide) h1, ?_, ?_⟩
      · have := dp_of (K := K) (cl := cl) (F := H) 60 (.lst ds) (.ref a) h3 (.lst (s _ _ e) (r.mono s))
        simpa [toPy] using this
      · have := shaped_of (n := 60) (by decide) h3
        simpa [toPy] using this
      · rw [any_D h1 h2]
        exact q _ F H (Gr.refl s) (.bl _)
    | tup e r =>
      rename_i a vs ds
      obtain ⟨hd, q⟩ := q
      rcases hd with ⟨h1, h2⟩ | ⟨h1, h2⟩
      · refine .inr (.inl ⟨_, _, rfl, .inr (same_t s e), rx.flat1 h1, r.flat h2, ?_⟩)
        rw [if_neg (by decide), inV_D rx h1 r h2]
        exact q _ F H (Gr.refl s) (.bl _)
      · have h3 : okD 60 (.tup ds) = true := by simpa [okD] using h2
        refine .inr (.inr (.inr ⟨toPy x, toPys ds, dp_of 60 x v h1 (rx.mono s), ?_, shaped_of (by decide) h1, ?_, ?_⟩))
        · have := dp_of (K := K) (cl := cl) (F := H) 60 (.tup ds) (.ref a) h3 (.tup (same_t s e) (r.mono s))
          simpa [toPy] using this
        · have := shaped_of (n := 60) (by decide) h3
          simpa [toPy] using this
        · rw [any_D h1 h2]
          exact q _ F H (Gr.refl s) (.bl _)
    | dk e r =>
      simp only [oIn] at q
      cases ek : keyOf x with
      | none => rw [ek] at q; exact q.elim
      | some k =>
        rw [ek] at q
        rw [keyOf_rel rx ek]
        refine .inr (.inr (.inl ⟨_, _, rfl, DGet.k (k := k) (s _ _ e), ?_⟩))
        rcases r.look k with ⟨e1, e2⟩ | ⟨w, d, e1, e2, _⟩
        · simp only [e1] at q
          rw [e2]
          exact q _ F H (Gr.refl s) (.bl _)
        · simp only [e1] at q
          rw [e2]
          exact q _ F H (Gr.refl s) (.bl _)
    | _ => exact q.elim
def rNotInK : R2 := fun y x H Q => ∃ a o, x = .ref a ∧ DGet H a y o ∧ Q (.bl (!o.isSome)) H
theorem op_notInK (hu : X.A.units + 1 < cLine) : OpR X (compareOp .NotIn) rNotInK := by
  intro pins s σ H y x iv u Q I ry rx h
  obtain ⟨a, o, rfl, g, q⟩ := h
  obtain rfl : u = Value.ref a := rx
  exact d_notIn hu I g ry fun s3 I3 => ⟨.bl (!o.isSome), H, I3, rfl, q⟩
def rNotInU (K : Fg) : R2 := fun x y H Q => rNotInD K x y H Q ∨ rIn K true x y H Q ∨ rNotInK x y H Q ∨ rNotInDT K x y H Q
theorem op_notInU (hu : X.A.units + 65 < cLine) : OpR X (compareOp .NotIn) (rNotInU X.K) := (op_notInD hu).or (op_notIn_seq.or ((op_notInK (by omega)).or (op_notInDT hu)))
theorem rf_notIn : RfOp K cl (rNotInU K) oNotIn where
  mono := fun x y P P' h q => by
    refine rf_in (K := K) (cl := cl).mono x y _ _ (fun d q => ?_) q
    cases d <;> first | exact h _ q | exact q.elim
  ok := fun F H v u x y Q s rx ry q => by
    unfold oNotIn at q
    cases ry with
    | lst e r =>
      rename_i a vs ds
      obtain ⟨h1, h2, q⟩ := q
      have h3 : okD 60 (.lst ds) = true := by simpa [okD] using h2
      refine .inl ⟨toPy x, toPys ds, dp_of 60 x v h1 (rx.mono s), ?_, shaped_of (by decide) h1, ?_, ?_⟩
      · have := dp_of (K := K) (cl := cl) (F := H) 60 (.lst ds) (.ref a) h3 (.lst (s _ _ e) (r.mono s))
        simpa [toPy] using this
      · have := shaped_of (n := 60) (by decide) h3
        simpa [toPy] using this
      · rw [any_D h1 h2]
        exact q _ F H (Gr.refl s) (.bl _)
    | tup e r =>
      rename_i a vs ds
      obtain ⟨hd, q⟩ := q
      rcases hd with ⟨h1, h2⟩ | ⟨h1, h2⟩
      · refine .inr (.inl ⟨_, _, rfl, .inr (same_t s e), rx.flat1 h1, r.flat h2, ?_⟩)
        rw [if_pos rfl, inV_D rx h1 r h2]
        exact q _ F H (Gr.refl s) (.bl _)
      · have h3 : okD 60 (.tup ds) = true := by simpa [okD] using h2
        refine .inr (.inr (.inr ⟨toPy x, toPys ds, dp_of 60 x v h1 (rx.mono s), ?_, shaped_of (by decide) h1, ?_, ?_⟩))
        · have := dp_of (K := K) (cl := cl) (F := H) 60 (.tup ds) (.ref a) h3 (.tup (same_t s e) (r.mono s))
          simpa [toPy] using this
        · have := shaped_of (n := 60) (by decide) h3
          simpa [toPy] using this
        · rw [any_D h1 h2]
          exact q _ F H (Gr.refl s) (.bl _)
    | dk e r =>
      simp only [oIn] at q
      cases ek : keyOf x with
      | none => rw [ek] at q; exact q.elim
      | some k =>
        rw [ek] at q
        rw [keyOf_rel rx ek]
        refine .inr (.inr (.inl ⟨_, _, rfl, DGet.k (k := k) (s _ _ e), ?_⟩))
        rcases r.look k with ⟨e1, e2⟩ | ⟨w, d, e1, e2, _⟩
        · simp only [e1, neg1] at q
          rw [e2]
          exact q _ F H (Gr.refl s) (.bl _)
        · simp only [e1, neg1] at q
          rw [e2]
          exact q _ F H (Gr.refl s) (.bl _)
    | _ => exact q.elim
/-! ### subscripts -/
def rIxK : R2 := fun x y H Q => ∃ a v, x = .ref a ∧ DGet H a y (some v) ∧ Q v H
theorem ix_dict (hu : X.A.units + 1 < cLine) : IxR X rIxK := by
  intro value slice pins s σ H x y v u Q I rx ry h hs
  obtain ⟨a, w, rfl, g, q⟩ := h
  obtain rfl : v = Value.ref a := rx
  exact tail_any (dict_typeIs I g) PySem.F.slot_dict_getitem.lookup (d_getItem hu I g ry fun w' s3 I3 rw' => ⟨w, H, I3, rw', q⟩) hs
def rIxU (K : Fg) : R2 := fun x y H Q => rIx K x y H Q ∨ rIxK x y H Q
theorem ix_U (hu : X.A.units + 1 < cLine) : IxR X (rIxU X.K) := ix_seq.or (ix_dict hu)
theorem ixN_eq (n : Nat) (i : Int) : L2.ixN n i = DL.ixN n i := rfl
theorem Reps.get {F : Hp} : ∀ {vs : List V} {ds : List D} {j : Nat} {d : D}, Reps K cl F vs ds → ds[j]? = some d → ∃ v, vs[j]? = some v ∧ Rep K cl F v d
  | _, _, _, _, .nil, e => by simp at e
  | _, _, 0, _, .cons h _, e => by simp at e; subst e; exact ⟨_, rfl, h⟩
  | _, _, j + 1, _, .cons _ r, e => by
    obtain ⟨v, h1, h2⟩ := Reps.get (j := j) r (by simpa using e)
    exact ⟨v, by simpa using h1, h2⟩
theorem Reps.atI {F : Hp} {vs : List V} {ds : List D} {i : Int} {d : D} (r : Reps K cl F vs ds) (e : DL.atI ds i = some d) : ∃ v, L2.atI vs i = some v ∧ Rep K cl F v d := by
  unfold DL.atI at e
  unfold L2.atI
  rw [r.length, ixN_eq]
  cases q : DL.ixN ds.length i with
  | none => rw [q] at e; cases e
  | some j =>
    rw [q] at e
    exact r.get e
theorem oGet_some {o : Option D} {Q : DK} (h : oGet o Q) : ∃ d, o = some d ∧ Q d := by
  cases o with
  | none => exact h.elim
  | some d => exact ⟨d, rfl, h⟩
theorem rf_ix : RfOp K cl (rIxU K) oIx where
  mono := fun x y P P' h q => by
    have g : ∀ o, oGet o P → oGet o P' := fun o q => by cases o <;> first | exact q.elim | exact h _ q
    cases x with
    | lst l => cases y <;> first | exact g _ q | exact q.elim
    | tup l => cases y <;> first | exact g _ q | exact q.elim
    | str z => cases y <;> first | exact ⟨q.1, g _ q.2⟩ | exact q.elim
    | dk l =>
      simp only [oIx] at q ⊢
      cases e : keyOf y with
      | none => rw [e] at q; exact q.elim
      | some k => rw [e] at q; exact g _ q
    | _ => exact q.elim
  ok := fun F H v u x y Q s rx ry q => by
    cases rx with
    | lst e r => cases ry with
      | int i =>
        obtain ⟨d, e1, q⟩ := oGet_some q
        obtain ⟨w, e2, rr⟩ := r.atI e1
        exact .inl (.inl ⟨_, _, i, w, rfl, rfl, SqL.of (s _ _ e), e2, q w F H (Gr.refl s) rr⟩)
      | _ => exact q.elim
    | tup e r => cases ry with
      | int i =>
        obtain ⟨d, e1, q⟩ := oGet_some q
        obtain ⟨w, e2, rr⟩ := r.atI e1
        exact .inl (.inr (.inl ⟨_, _, i, w, rfl, rfl, same_t s e, e2, q w F H (Gr.refl s) rr⟩))
      | _ => exact q.elim
    | str z => cases ry with
      | int i =>
        obtain ⟨hz, q⟩ := q
        obtain ⟨d, e1, q⟩ := oGet_some q
        cases e2 : DL.atI z.cps.toList i with
        | none => rw [e2] at e1; cases e1
        | some c =>
          rw [e2] at e1
          cases e1
          exact .inl (.inr (.inr ⟨z, i, c, rfl, rfl, by rw [← line_eq]; exact hz, e2, q _ F H (Gr.refl s) (.str _)⟩))
      | _ => exact q.elim
    | dk e r =>
      simp only [oIx] at q
      cases ek : keyOf y with
      | none => rw [ek] at q; exact q.elim
      | some k =>
        rw [ek] at q
        obtain ⟨d, e1, q⟩ := oGet_some q
        rw [keyOf_rel ry ek]
        rcases r.look k with ⟨e2, e3⟩ | ⟨w, d', e2, e3, rr⟩
        · rw [e2] at e1; cases e1
        · rw [e2] at e1
          cases e1
          have gg := DGet.k (k := k) (s _ _ e)
          rw [e3] at gg
          exact .inr ⟨_, w, rfl, gg, q w F H (Gr.refl s) rr⟩
    | _ => exact q.elim
end
end DL

/-! DStm: slices, targets, statements, loops, list comprehensions, calls. -/
namespace DL
open PySem L2 PyProof.Rows
/-! ### another base -/
def un (F H0 : Hp) : Hp := fun p => match F p with
  | some o => some o
  | none => H0 p
section
variable {K : Fg} {cl : Cl} {W : WX} {F0 H0 F H F' H' : Hp} {σ σ' : L2.St} {ρ ρ' : DL.Env}
theorem un_none {p : Addr} : un F H0 p = none ↔ F p = none ∧ H0 p = none := by
  unfold un
  cases e : F p <;> simp
theorem Gr.rebase (g : Gr F0 H0 F H) : Gr F (un F H0) F H := by
  refine ⟨Same.refl _, fun p o e => ?_, g.s, fun p a b => absurd b a⟩
  unfold un at e
  cases q : F p with
  | some u => rw [q] at e; cases e; exact g.s p _ q
  | none => rw [q] at e; exact g.k p o e
theorem Gr.back (g : Gr F0 H0 F H) (b : Gr F (un F H0) F' H') : Gr F0 H0 F' H' := by
  refine ⟨g.f.trans b.f, fun p o e => ?_, b.s, fun p x y => ?_⟩
  · cases q : F p with
    | none => exact b.k p o (by unfold un; rw [q]; exact e)
    | some u =>
      have e1 := g.k p o e
      have e2 := g.s p u q
      rw [e1] at e2
      cases e2
      exact b.s p _ (b.f p _ q)
  · cases q : F p with
    | none => exact (un_none.mp (b.n p x q)).2
    | some u => exact g.n p (by rw [q]; simp) y
theorem Hold.rebase (h : Hold K cl F0 H0 F H σ ρ) : Hold K cl F (un F H0) F H σ ρ := by
  obtain ⟨θ, hs, hd⟩ := h.sl
  refine ⟨h.g.rebase, h.len, θ, fun i s e => ?_, hd⟩
  have q := hs i s e
  cases s with
  | no => trivial
  | v d => exact q
  | o d =>
    obtain ⟨e1, n0, nf, w⟩ := q
    exact ⟨e1, un_none.mpr ⟨nf, n0⟩, nf, w⟩
theorem Hold.back (g : Gr F0 H0 F H) (h : Hold K cl F (un F H0) F' H' σ ρ) : Hold K cl F0 H0 F' H' σ ρ := by
  obtain ⟨θ, hs, hd⟩ := h.sl
  refine ⟨g.back h.g, h.len, θ, fun i s e => ?_, hd⟩
  have q := hs i s e
  cases s with
  | no => trivial
  | v d => exact q
  | o d =>
    obtain ⟨e1, n0, nf, w⟩ := q
    exact ⟨e1, (un_none.mp n0).2, nf, w⟩
theorem LinkE.rebase {E : EK} (g : Gr F0 H0 F H) (le : LinkE K cl F0 H0 W E) : LinkE K cl F (un F H0) W E := fun err ρ σ F' H' c dx h e r => le err ρ σ F' H' c dx (h.back g) e r
theorem LinkD.rebase {A : Ends} {B : DE} (g : Gr F0 H0 F H) (l : LinkD K cl F0 H0 A B) : LinkD K cl F (un F H0) A B :=
  ⟨fun F' H' σ ρ h q => l.nx F' H' σ ρ (h.back g) q, fun F' H' σ ρ h q => l.bk F' H' σ ρ (h.back g) q, fun F' H' σ ρ h q => l.ct F' H' σ ρ (h.back g) q, fun F' H' v d h r r2 q => l.rt F' H' v d (g.back h) r (fun z => by
    obtain ⟨p, e, n, f, o⟩ := r2 z
    exact ⟨p, e, (un_none.mp n).2, f, o⟩) q, fun F' H' σ ρ v d h r q => l.ro F' H' σ ρ v d (h.back g) r q⟩
theorem LeD.refl (A : DE) : LeD A A := ⟨fun _ h => h, fun _ h => h, fun _ h => h, fun _ h => h, fun _ _ h => h⟩

/-! ### slices -/
theorem sIx_eq (n d : Nat) (o : Option Int) : HT.sIx n d o = DL.sIx n d o := by cases o <;> rfl
theorem Reps.drop {F : Hp} : ∀ (n : Nat) {vs : List V} {ds : List D}, Reps K cl F vs ds → Reps K cl F (vs.drop n) (ds.drop n)
  | 0, _, _, r => r
  | _ + 1, _, _, .nil => .nil
  | n + 1, _, _, .cons _ r => Reps.drop n r
theorem Reps.take {F : Hp} : ∀ (n : Nat) {vs : List V} {ds : List D}, Reps K cl F vs ds → Reps K cl F (vs.take n) (ds.take n)
  | 0, _, _, _ => .nil
  | _ + 1, _, _, .nil => .nil
  | n + 1, _, _, .cons h r => .cons h (Reps.take n r)
theorem Reps.cut {F : Hp} {vs : List V} {ds : List D} (r : Reps K cl F vs ds) (lo hi : Option Int) : Reps K cl F (cutV vs lo hi) (cutL ds lo hi) := by
  unfold cutV cutL
  rw [sIx_eq, sIx_eq, r.length]
  exact (r.drop _).take _
theorem cut_all {ds : List D} {lo hi : Option Int} (h : HT.sIx ds.length 0 lo = 0 ∧ HT.sIx ds.length ds.length hi = ds.length) : cutL ds lo hi = ds := by
  unfold cutL
  rw [← sIx_eq, ← sIx_eq, h.1, h.2]
  simp
def rSlU (K : Fg) : V → Option Int → Option Int → Hp → VK → Prop := fun x lo hi H Q => rSlL K x lo hi H Q ∨ rSlA K x lo hi H Q ∨ rSlS x lo hi H Q
theorem sl_U {X : Cx} : SlR X (rSlU X.K) := sl_list.or (sl_tupA.or sl_str)
theorem rfo_N : RfO K cl W tNoPart oN where
  mono2 := fun E E' ρ P P' hE h q => h _ q
  ok := fun F0 H0 F H σ ρ E Q hh le q => q F H (Gr.refl hh.g.s)
theorem rfo_S {te : TE} {t : DT} (ha : RfE K cl W te t) : RfO K cl W (tPart te) (oS t) where
  mono2 := fun E E' ρ P P' hE h q => ha.mono2 E E' ρ _ _ hE (fun x q => by cases x <;> first | exact h _ q | exact q.elim) q
  ok := fun F0 H0 F H σ ρ E Q hh le q => by
    refine ha.ok F0 H0 F H σ ρ E _ hh le (ha.mono E ρ _ _ (fun x q v F1 H1 g1 r1 => ?_) q)
    cases r1 with
    | int i => exact ⟨i, rfl, q F1 H1 g1⟩
    | _ => exact q.elim
theorem rfe_slice {te : TE} {t : DT} {tl th : TO} {l u : DO} (ha : RfE K cl W te t) (hl : RfO K cl W tl l) (hu : RfO K cl W th u) : RfE K cl W (tSl (rSlU K) te tl th) (dSlice t l u) where
  mono2 := fun E E' ρ P P' hE h q => ha.mono2 E E' ρ _ _ hE (fun x q => hl.mono2 E E' ρ _ _ hE (fun lo q => hu.mono2 E E' ρ _ _ hE (fun hi q => by
    cases x <;> first | exact h _ q | exact ⟨q.1, h _ q.2⟩ | exact q.elim) q) q) q
  ok := fun F0 H0 F H σ ρ E Q hh le q => by
    refine ha.ok F0 H0 F H σ ρ E _ hh le (ha.mono E ρ _ _ (fun x q v F1 H1 g1 r1 => ?_) q)
    refine hl.ok F0 H0 F1 H1 σ ρ E _ (hh.grow g1) le (hl.mono E ρ _ _ (fun lo q F2 H2 g2 => ?_) q)
    refine hu.ok F0 H0 F2 H2 σ ρ E _ ((hh.grow g1).grow g2) le (hu.mono E ρ _ _ (fun hi q F3 H3 g3 => ?_) q)
    have g := (g1.trans g2).trans g3
    have r3 := (r1.mono g2.f).mono g3.f
    cases r3 with
    | @lst a vs ds e r =>
      refine .inl ⟨a, vs, rfl, SqL.of (g3.s _ _ e), fun p hp => ?_⟩
      exact q _ (upd F3 p (.lst _)) _ (g.trans (Gr.new g3.s hp)) (.lst upd_same ((r.cut lo hi).mono (same_upd (g3.s.free hp))))
    | @tup a vs ds e r =>
      refine .inr (.inl ⟨a, vs, rfl, same_t g3.s e, fun hw => ?_, fun _ p hp => ?_⟩)
      · rw [r.length] at hw
        have q : (fun d => ∀ v F' H', Gr F H F' H' → Rep K cl F' v d → Q v H') (.tup (cutL ds lo hi)) := q
        rw [cut_all hw] at q
        exact q _ F3 H3 g (.tup e r)
      · exact q _ (upd F3 p (.tup _)) _ (g.trans (Gr.new g3.s hp)) (.tup (SqT.of upd_same) ((r.cut lo hi).mono (same_upd (g3.s.free hp))))
    | str z =>
      refine .inr (.inr ⟨z, rfl, by rw [← line_eq]; exact q.1, ?_⟩)
      have e1 : cutS z lo hi = ⟨(cutL z.cps.toList lo hi).toArray⟩ := by
        unfold cutS cutL
        simp [sIx_eq, Str.length]
      rw [e1]
      exact q.2 _ F3 H3 g (.str _)
    | _ => exact q.elim
/-! ### targets -/
theorem Agree.refl (js : List Nat) (σ : L2.St) : Agree js σ σ := ⟨rfl, fun _ _ => rfl⟩
theorem Agree.trans {a b : List Nat} {σ1 σ2 σ3 : L2.St} (x : Agree a σ1 σ2) (y : Agree b σ2 σ3) : Agree (a ++ b) σ1 σ3 :=
  ⟨y.1.trans x.1, fun i hi => (y.2 i fun z => hi (List.mem_append_right _ z)).trans (x.2 i fun z => hi (List.mem_append_left _ z))⟩
theorem rfg_name {i : Nat} : RfG K cl [i] (L2.gName i) (DL.gName i) where
  mono := fun d ρ P P' h q => h _ q
  ok := fun F0 H0 F H σ ρ v d Q hh r q => q _ (hh.set r) ⟨by simp, fun j hj => by rw [List.getElem?_set_ne (fun z => hj (by simp [z]))]⟩
theorem rfgs_nil : RfGs K cl [] L2.gNil DL.gNil where
  mono := fun d ρ P P' h q => ⟨q.1, h _ q.2⟩
  ok := fun F0 H0 F H σ ρ v d Q hh r q => by
    obtain ⟨rfl, q⟩ := q
    cases r
    exact ⟨rfl, q σ hh (Agree.refl _ _)⟩
theorem rfgs_cons {js ks : List Nat} {g : TG} {t : DG} {gs : TGs} {ts : DGs} (h1 : RfG K cl js g t) (h2 : RfGs K cl ks gs ts) : RfGs K cl (js ++ ks) (L2.gCons g gs) (DL.gCons t ts) where
  mono := fun d ρ P P' h q => by
    cases d with
    | nil => exact q.elim
    | cons x r => exact h1.mono x ρ _ _ (fun ρ' q => h2.mono r ρ' _ _ h q) q
  ok := fun F0 H0 F H σ ρ v d Q hh r q => by
    cases r with
    | nil => exact q.elim
    | cons hx hr =>
      refine ⟨_, _, rfl, ?_⟩
      refine h1.ok F0 H0 F H σ ρ _ _ _ hh hx (h1.mono _ _ _ _ (fun ρ' q σ' h' a => ?_) q)
      exact h2.ok F0 H0 F H σ' ρ' _ _ Q h' hr (h2.mono _ _ _ _ (fun ρ2 q σ2 h2 a2 => q σ2 h2 (a.trans a2)) q)
theorem gCons_len {g : DG} {r : DGs} {n : Nat} (h : ∀ xs ρ Q, r xs ρ Q → xs.length = n) (hm : ∀ d ρ (P : DL.Env → Prop), g d ρ P → ∃ ρ', P ρ') : ∀ xs ρ Q, DL.gCons g r xs ρ Q → xs.length = n + 1 := fun xs ρ Q q => by
  cases xs with
  | nil => exact q.elim
  | cons x ys =>
    obtain ⟨ρ', q'⟩ := hm x ρ _ q
    simp [h ys ρ' Q q']
/-- a tuple or a list -/
def gTL (K : Fg) (n : Nat) (t : TGs) : TG := fun v σ H Q => L2.gTup K n t v σ H Q ∨ L2.gUnl K n t v σ H Q
theorem pg_tl {X : Cx} {pos : Pos} {es : List Expr} {k : Nat} {t : TGs} {n : Nat} (hc : X.calm = true) (h : PGs X es t)
    (hn : (assignEach es X.env).length = n := by rfl) (hst : (assignEach es X.env).findIdx? (·.1) = none := by rfl) : PG X (.Tuple es k pos) (gTL X.K n t) :=
  ⟨fun pins s σ H v u Q I r hw => hw.elim (fun q => (pg_tup hc h hn hst).run pins s σ H v u Q I r q) fun q => (pg_unl hc h hn hst).run pins s σ H v u Q I r q⟩
theorem rfg_tup {js : List Nat} {gs : TGs} {ts : DGs} {n : Nat} (h : RfGs K cl js gs ts) (hn : ∀ xs ρ Q, ts xs ρ Q → xs.length = n) : RfG K cl js (gTL K n gs) (DL.gTup ts) where
  mono := fun d ρ P P' f q => by
    cases d <;> first | exact h.mono _ ρ _ _ f q | exact q.elim
  ok := fun F0 H0 F H σ ρ v d Q hh r q => by
    cases r with
    | tup e r =>
      refine .inl ⟨_, _, rfl, same_t hh.g.s e, ?_, h.ok F0 H0 F H σ ρ _ _ Q hh r q⟩
      rw [r.length]
      exact hn _ _ _ q
    | lst e r =>
      refine .inr ⟨_, _, rfl, .inl (.inl (hh.g.s _ _ e)), ?_, h.ok F0 H0 F H σ ρ _ _ Q hh r q⟩
      rw [r.length]
      exact hn _ _ _ q
    | _ => exact q.elim
/-! ### statements -/
theorem rfs_next : RfS K cl W L2.tNext DL.sNext where
  mono2 := fun E E' A B ρ hE l q => l.nx _ q
  ok := fun F0 H0 F H σ ρ E B A hh le ld q => ld.nx _ _ _ _ hh q
theorem rfs_seq {t u : TS} {a b : DS} (ha : RfS K cl W t a) (hb : RfS K cl W u b) : RfS K cl W (tSeq t u) (sSeq a b) where
  mono2 := fun E E' A B ρ hE l q => ha.mono2 E E' { A with nx := b E A } { B with nx := b E' B } ρ hE ⟨fun ρ q => hb.mono2 E E' A B ρ hE l q, l.rt, l.bk, l.ct, l.ro⟩ q
  ok := fun F0 H0 F H σ ρ E B A hh le ld q => ha.ok F0 H0 F H σ ρ E { B with nx := b E B } { A with nx := u A } hh le ⟨fun F1 H1 σ1 ρ1 h1 q1 => hb.ok F0 H0 F1 H1 σ1 ρ1 E B A h1 le ld q1, ld.bk, ld.ct, ld.rt, ld.ro⟩ q
theorem rfs_break : RfS K cl W L2.tBreak DL.sBreak where
  mono2 := fun E E' A B ρ hE l q => l.bk _ q
  ok := fun F0 H0 F H σ ρ E B A hh le ld q => ld.bk _ _ _ _ hh q
theorem rfs_cont : RfS K cl W L2.tCont DL.sCont where
  mono2 := fun E E' A B ρ hE l q => l.ct _ q
  ok := fun F0 H0 F H σ ρ E B A hh le ld q => ld.ct _ _ _ _ hh q
theorem rfs_drop {te : TE} {t : DT} (ha : RfE K cl W te t) : RfS K cl W (tDrop te) (sDrop t) where
  mono2 := fun E E' A B ρ hE l q => ha.mono2 E E' ρ _ _ hE (fun _ q => l.nx _ q) q
  ok := fun F0 H0 F H σ ρ E B A hh le ld q => ha.ok F0 H0 F H σ ρ E _ hh le (ha.mono E ρ _ _ (fun x q v F1 H1 g1 r1 => ld.nx _ _ _ _ (hh.grow g1) q) q)
theorem rfs_ret {te : TE} {t : DT} (hf : cl.fr = false) (ha : RfE K cl W te t) : RfS K cl W (tRet te) (sRet t) where
  mono2 := fun E E' A B ρ hE l q => ha.mono2 E E' ρ _ _ hE (fun _ q => l.rt _ q) q
  ok := fun F0 H0 F H σ ρ E B A hh le ld q => ha.ok F0 H0 F H σ ρ E _ hh le (ha.mono E ρ _ _ (fun x q v F1 H1 g1 r1 => ld.rt _ _ _ _ (hh.g.trans g1) (fun _ => r1) (fun z => by rw [hf] at z; cases z) q) q)
theorem rfs_retN (hf : cl.fr = false) : RfS K cl W tRetN sRetN where
  mono2 := fun E E' A B ρ hE l q => l.rt _ q
  ok := fun F0 H0 F H σ ρ E B A hh le ld q => ld.rt _ _ _ _ hh.g (fun _ => .non) (fun z => by rw [hf] at z; cases z) q
theorem rfs_retNew {te : TE} {t : DT} (hf : cl.fr = true) (ha : RfN K cl W te t) : RfS K cl W (tRet te) (sRet t) where
  mono2 := fun E E' A B ρ hE l q => ha.mono2 E E' ρ _ _ hE (fun _ q => l.rt _ q) q
  ok := fun F0 H0 F H σ ρ E B A hh le ld q => ha.ok F0 H0 F H σ ρ E _ hh le (ha.mono E ρ _ _ (fun d q p F1 H1 g1 n1 f1 w => ld.rt _ _ _ _ (hh.g.trans g1) (fun z => by rw [hf] at z; cases z) (fun _ => ⟨p, rfl, hh.g.k.free n1, f1, w⟩) q) q)
theorem rfs_if {tc : TT} {t u : TS} {c : DB} {a b : DS} (hc : RfB K cl W tc c) (ha : RfS K cl W t a) (hb : RfS K cl W u b) : RfS K cl W (tIfS tc t u) (sIf c a b) where
  mono2 := fun E E' A B ρ hE l q => hc.mono2 E E' ρ _ _ hE (fun k q => by
    cases k with
    | true => exact ha.mono2 E E' A B ρ hE l q
    | false => exact hb.mono2 E E' A B ρ hE l q) q
  ok := fun F0 H0 F H σ ρ E B A hh le ld q => hc.ok F0 H0 F H σ ρ E _ hh le (hc.mono E ρ _ _ (fun k q F1 H1 g1 => by
    cases k with
    | true => exact ha.ok F0 H0 F1 H1 σ ρ E B A (hh.grow g1) le ld q
    | false => exact hb.ok F0 H0 F1 H1 σ ρ E B A (hh.grow g1) le ld q) q)
theorem rfs_asg {js : List Nat} {te : TE} {t : DT} {g : TG} {d : DG} (ha : RfE K cl W te t) (hg : RfG K cl js g d) : RfS K cl W (tAsg te g) (sAsg t d) where
  mono2 := fun E E' A B ρ hE l q => ha.mono2 E E' ρ _ _ hE (fun x q => hg.mono x ρ _ _ (fun _ q => l.nx _ q) q) q
  ok := fun F0 H0 F H σ ρ E B A hh le ld q => ha.ok F0 H0 F H σ ρ E _ hh le (ha.mono E ρ _ _ (fun x q v F1 H1 g1 r1 =>
    hg.ok F0 H0 F1 H1 σ ρ v x _ (hh.grow g1) r1 (hg.mono x ρ _ _ (fun ρ' q σ' h' _ => ld.nx _ _ _ _ h' q) q)) q)
theorem rfs_set {i : Nat} {te : TE} {t : DT} (ha : RfE K cl W te t) : RfS K cl W (tAsg te (L2.gName i)) (sSet i t) := rfs_asg ha rfg_name
theorem rfs_own {i : Nat} {te : TE} {t : DT} (hpi : cl.pin i = none) (ha : RfN K cl W te t) : RfS K cl W (tAsg te (L2.gName i)) (sOwn i t) where
  mono2 := fun E E' A B ρ hE l q => ha.mono2 E E' ρ _ _ hE (fun x q => l.nx _ q) q
  ok := fun F0 H0 F H σ ρ E B A hh le ld q => ha.ok F0 H0 F H σ ρ E _ hh le (ha.mono E ρ _ _ (fun x q p F1 H1 g1 hp hf w => ld.nx _ _ _ _ (hh.own hpi g1 hp hf w) q) q)
theorem rfs_frz {i : Nat} {ts : TS} {t : DS} (h : RfS K cl W ts t) : RfS K cl W ts (sFrz i t) where
  mono2 := fun E E' A B ρ hE l q => h.mono2 E E' A B _ hE l q
  ok := fun F0 H0 F H σ ρ E B A hh le ld q => by
    obtain ⟨F', h'⟩ := hh.frz i
    exact h.ok F0 H0 F' H σ _ E B A h' le ld q
theorem rfs_fgt {js : List Nat} {ts : TS} {t : DS} (h : RfS K cl W ts t) : RfS K cl W ts (sFgt js t) where
  mono2 := fun E E' A B ρ hE l q => h.mono2 E E' A B _ hE l q
  ok := fun F0 H0 F H σ ρ E B A hh le ld q => h.ok F0 H0 F H σ _ E B A (hh.fgt js) le ld q
theorem rfs_par {i j : Nat} {ta : TA} {t : DA} (ha : RfA K cl W ta t) : RfS K cl W (tPar i j ta) (sPar i j t) where
  mono2 := fun E E' A B ρ hE l q => ha.mono2 E E' ρ _ _ hE (fun xs q => by
    match xs, q with
    | [x, y], q => exact l.nx _ q) q
  ok := fun F0 H0 F H σ ρ E B A hh le ld q => ha.ok F0 H0 F H σ ρ E _ hh le (ha.mono E ρ _ _ (fun xs q vs F1 H1 g1 r1 => by
    match xs, q, r1 with
    | [x, y], q, .cons a (.cons b .nil) => exact ⟨_, _, rfl, ld.nx _ _ _ _ (((hh.grow g1).set a).set b) q⟩) q)
/-- x op= e by data -/
structure RfIp (K : Fg) (cl : Cl) (r : TIp) (f : D → D → DK → Prop) : Prop where
  mono : ∀ x y (P P' : DK), (∀ d, P d → P' d) → f x y P → f x y P'
  ok : ∀ F H v u x y (Q : VK), Same F H → Rep K cl F v x → Rep K cl F u y → f x y (fun d => ∀ v' F' H', Gr F H F' H' → Rep K cl F' v' d → Q v' H') → r v u H Q
theorem rfs_aug {i : Nat} {te : TE} {t : DT} {r : TIp} {f : D → D → DK → Prop} (o : RfIp K cl r f) (ha : RfE K cl W te t) : RfS K cl W (tAug i te r) (sAug i f t) where
  mono2 := fun E E' A B ρ hE l q => by
    unfold sAug at q ⊢
    cases e : ρ[i]? with
    | none => rw [e] at q; exact q.elim
    | some s =>
      rw [e] at q
      cases s with
      | v x => exact ha.mono2 E E' ρ _ _ hE (fun y q => o.mono x y _ _ (fun z q => l.nx _ q) q) q
      | no => exact q.elim
      | o x => exact q.elim
  ok := fun F0 H0 F H σ ρ E B A hh le ld q => by
    unfold sAug at q
    cases e : ρ[i]? with
    | none => rw [e] at q; exact q.elim
    | some s =>
      rw [e] at q
      cases s with
      | no => exact q.elim
      | o x => exact q.elim
      | v x =>
        obtain ⟨v, e1, rv⟩ := hh.var e
        refine ⟨v, e1, ha.ok F0 H0 F H σ ρ E _ hh le (ha.mono E ρ _ _ (fun y q u F1 H1 g1 r1 => ?_) q)⟩
        refine o.ok F1 H1 v u x y _ g1.s (rv.mono g1.f) r1 (o.mono x y _ _ (fun z q w F2 H2 g2 r2 => ?_) q)
        exact ld.nx _ _ _ _ (((hh.grow g1).grow g2).set r2) q
/-! ### loops -/
theorem rfs_for {js : List Nat} {wi : TI} {it : DI} {g : TG} {d : DG} {tb : TS} {b : DS} (hi : RfI K cl W wi it) (hg : RfG K cl js g d) (hb : RfS K cl W tb b) : RfS K cl W (tFor wi g tb) (sFor it d b) where
  mono2 := fun E E' A B ρ hE l q => hi.mono2 E E' ρ _ _ hE (fun xs q => by
    have go : ∀ (xs : List D) (ρ : DL.Env), forL d b E A xs ρ → forL d b E' B xs ρ := by
      intro xs
      induction xs with
      | nil => intro ρ q; exact l.nx _ q
      | cons x r ih => intro ρ q; exact hg.mono x ρ _ _ (fun ρ' q => hb.mono2 E E' { nx := forL d b E A r, ct := forL d b E A r, bk := A.nx, rt := A.rt, ro := A.ro } { nx := forL d b E' B r, ct := forL d b E' B r, bk := B.nx, rt := B.rt, ro := B.ro } ρ' hE ⟨ih, l.rt, l.nx, ih, l.ro⟩ q) q
    exact go xs ρ q) q
  ok := fun F0 H0 F H σ ρ E B A hh le ld q => by
    refine hi.ok F0 H0 F H σ ρ E _ hh le (hi.mono E ρ _ _ (fun xs q J F1 H1 g1 wk => ?_) q)
    have hh1 := hh.grow g1
    have hb1 := hh1.rebase
    have le1 := le.rebase hh1.g
    have ld1 := ld.rebase hh1.g
    refine ⟨fun i m σ H => m = xs.length - i ∧ i ≤ xs.length ∧ ∃ F ρ, Hold K cl F1 (un F1 H0) F H σ ρ ∧ forL d b E B (xs.drop i) ρ, ⟨xs.length, by simp, Nat.zero_le _, F1, ρ, hb1, q⟩, ?_⟩
    rintro i m σ2 H2 ⟨rfl, hi2, F2, ρ2, h2, q2⟩
    have w2 := wk F2 H2 h2.g.f h2.g.s
    by_cases hlt : i < xs.length
    · have ed : xs.drop i = xs[i] :: xs.drop (i + 1) := List.drop_eq_getElem_cons hlt
      rw [ed] at q2
      obtain ⟨wg, wy⟩ := w2.2 i xs[i] (List.getElem?_eq_getElem hlt)
      refine .inr ⟨wg, fun σ' H' => ∃ F ρ, Hold K cl F1 (un F1 H0) F H' σ' ρ ∧ forL d b E B (xs.drop (i + 1)) ρ, fun σ' H' ⟨F', ρ', h', q'⟩ => ⟨xs.length - (i + 1), by omega, rfl, hlt, F', ρ', h', q'⟩, fun x H3 hy => ?_⟩
      obtain ⟨F3, g3, r3⟩ := wy x H3 hy
      refine hg.ok F1 (un F1 H0) F3 H3 σ2 ρ2 x xs[i] _ (h2.grow g3) r3 (hg.mono _ _ _ _ (fun ρ4 q4 σ4 h4 _ => ?_) q2)
      refine hb.ok F1 (un F1 H0) F3 H3 σ4 ρ4 E { nx := forL d b E B (xs.drop (i + 1)), ct := forL d b E B (xs.drop (i + 1)), bk := B.nx, rt := B.rt, ro := B.ro } _ h4 le1 ⟨fun F5 H5 σ5 ρ5 h5 q5 => ⟨F5, ρ5, h5, q5⟩, ld1.nx, fun F5 H5 σ5 ρ5 h5 q5 => ⟨F5, ρ5, h5, q5⟩, ld1.rt, ld1.ro⟩ q4
    · have e : i = xs.length := by omega
      subst e
      rw [List.drop_length] at q2
      exact .inl ⟨w2.1, ld1.nx _ _ _ _ h2 q2⟩
theorem rfs_while {tc : TT} {c : DB} {tb : TS} {b : DS} (hc : RfB K cl W tc c) (hb : RfS K cl W tb b) : RfS K cl W (tWhile tc tb) (sWhile c b) where
  mono2 := fun E E' A B ρ hE l q => by
    obtain ⟨n, q⟩ := q
    refine ⟨n, ?_⟩
    have go : ∀ (n : Nat) (ρ : DL.Env), whileN c b E A n ρ → whileN c b E' B n ρ := by
      intro n
      induction n with
      | zero => intro ρ q; exact q.elim
      | succ n ih => intro ρ q; exact hc.mono2 E E' ρ _ _ hE (fun k q => by
          cases k with
          | true => exact hb.mono2 E E' { nx := whileN c b E A n, ct := whileN c b E A n, bk := A.nx, rt := A.rt, ro := A.ro } { nx := whileN c b E' B n, ct := whileN c b E' B n, bk := B.nx, rt := B.rt, ro := B.ro } ρ hE ⟨ih, l.rt, l.nx, ih, l.ro⟩ q
          | false => exact l.nx _ q) q
    exact go n ρ q
  ok := fun F0 H0 F H σ ρ E B A hh le ld q => by
    obtain ⟨n, q⟩ := q
    refine ⟨fun m σ H => ∃ F ρ, Hold K cl F0 H0 F H σ ρ ∧ whileN c b E B m ρ, ⟨n, F, ρ, hh, q⟩, ?_⟩
    rintro m σ2 H2 ⟨F2, ρ2, h2, q2⟩
    cases m with
    | zero => exact q2.elim
    | succ m =>
      refine hc.ok F0 H0 F2 H2 σ2 ρ2 E _ h2 le (hc.mono E ρ2 _ _ (fun k q F3 H3 g3 => ?_) q2)
      cases k with
      | false => exact ld.nx _ _ _ _ (h2.grow g3) q
      | true =>
        refine ⟨fun σ' H' => ∃ F ρ, Hold K cl F0 H0 F H' σ' ρ ∧ whileN c b E B m ρ, fun σ' H' ⟨F', ρ', h', q'⟩ => ⟨m, Nat.lt_succ_self m, F', ρ', h', q'⟩, ?_⟩
        exact hb.ok F0 H0 F3 H3 σ2 ρ2 E { nx := whileN c b E B m, ct := whileN c b E B m, bk := B.nx, rt := B.rt, ro := B.ro } _ (h2.grow g3) le ⟨fun F5 H5 σ5 ρ5 h5 q5 => ⟨F5, ρ5, h5, q5⟩, ld.nx, fun F5 H5 σ5 ρ5 h5 q5 => ⟨F5, ρ5, h5, q5⟩, ld.rt, ld.ro⟩ q
end
end DL

/-! DFun: iterables, list comprehensions, lists of the def's own, calls of the text's defs, defs. -/
namespace DL
open PySem L2 PyProof.Rows
section
variable {K : Fg} {cl : Cl} {W : WX} {F0 H0 F H F' H' : Hp} {σ σ' : L2.St} {ρ ρ' : DL.Env}
/-! ### what is walked -/
def iU (K : Fg) (tl : TE) : TI := fun σ H R => tl σ H fun x H1 => (∃ a, x = .ref a ∧ (∃ xs, SqL K H1 a xs) ∧ R (Itl K a) H1) ∨ (∃ a, x = .ref a ∧ (∃ xs, SqT K H1 a xs) ∧ R (Itt K a) H1) ∨ ∃ z, x = .str z ∧ R (Its z) H1
theorem pi_U {X : Cx} {tg l : Expr} {tl : TE} (hl : PE X l tl) : PI X tg l (iU X.K tl) := by
  refine ⟨fun pins s σ H R I h => ?_⟩
  refine thn (hl.run pins s σ H _ I h) fun v s1 ⟨x, H1, I1, r1, q1⟩ => ?_
  rcases q1 with ⟨a, e, ⟨xs, hq⟩, q⟩ | ⟨a, e, ⟨xs, hq⟩, q⟩ | ⟨z, e, q⟩
  · subst e
    cases r1
    obtain ⟨its, rv, p, hz⟩ := I1.list hq
    refine wpAny_pyIter_list p.isList ?_
    refine ⟨s1.heap.objs.size, [s1.heap.objs.size], _, _, H1, rfl, I1.kept (t' := s1.toks) fun b o e => Heap.get?_push_of_some _ e, turn_list a _, ⟨_, Heap.get?_push_size _ rfl, rfl, rfl⟩, fun b hb => ?_, q⟩
    have e : b = s1.heap.objs.size := by simpa using hb
    subst e
    exact I1.fpOk (Nat.le_refl _) (I1.hok.fresh (Nat.le_refl _))
  · subst e
    cases r1
    obtain ⟨its, rv, p, hz⟩ := I1.tuple hq
    refine wpAny_pyIter_tuple (show s1.heap.IsTuple a its.toArray from p) ?_
    refine ⟨s1.heap.objs.size, [s1.heap.objs.size], _, _, H1, rfl, I1.kept (t' := s1.toks) fun b o e => Heap.get?_push_of_some _ e, turn_tuple a _, ⟨_, Heap.get?_push_size _ rfl, rfl, rfl⟩, fun b hb => ?_, q⟩
    have e : b = s1.heap.objs.size := by simpa using hb
    subst e
    exact I1.fpOk (Nat.le_refl _) (I1.hok.fresh (Nat.le_refl _))
  · subst e
    obtain ⟨t, rfl⟩ := r1
    cases ha : z.cps.all (· < 128)
    · exact wpAny_pyIter_wide ha (pi_one (tk := s1.toks) I1 _ (turn_str _ z t "str_iterator" (.inr rfl)) ⟨_, Heap.get?_push_size _ rfl, rfl, rfl⟩ q)
    · exact wpAny_pyIter_ascii ha (pi_one (tk := s1.toks) I1 _ (turn_str _ z t "str_ascii_iterator" (.inl rfl)) ⟨_, Heap.get?_push_size _ rfl, rfl, rfl⟩ q)
theorem walk_lst {a : Addr} {vs : List V} {ds : List D} (e : F a = some (.lst vs)) (r : Reps K cl F vs ds) : WalkD K cl (Itl K a) F ds := fun F2 H2 f2 s2 => by
  have hl : SqL K H2 a vs := SqL.of (s2 _ _ (f2 _ _ e))
  refine ⟨⟨vs, hl, by rw [r.length]; exact Nat.le_refl _⟩, fun i d hd => ?_⟩
  obtain ⟨v, e1, rv⟩ := r.get hd
  refine ⟨⟨vs, v, hl, e1⟩, fun x H3 ⟨q1, q2⟩ => ?_⟩
  subst q1
  have := q2 vs hl
  rw [e1] at this
  cases this
  exact ⟨F2, Gr.refl s2, rv.mono f2⟩
theorem walk_tup {a : Addr} {vs : List V} {ds : List D} (e : SqT K F a vs) (r : Reps K cl F vs ds) : WalkD K cl (Itt K a) F ds := fun F2 H2 f2 s2 => by
  have hl : SqT K H2 a vs := same_t s2 (same_t f2 e)
  refine ⟨⟨vs, hl, by rw [r.length]; exact Nat.le_refl _⟩, fun i d hd => ?_⟩
  obtain ⟨v, e1, rv⟩ := r.get hd
  refine ⟨⟨vs, v, hl, e1⟩, fun x H3 ⟨q1, q2⟩ => ?_⟩
  subst q1
  have := q2 vs hl
  rw [e1] at this
  cases this
  exact ⟨F2, Gr.refl s2, rv.mono f2⟩
theorem walk_str {z : Str} : WalkD K cl (Its z) F (z.cps.toList.map fun c => .str ⟨#[c]⟩) := fun F2 H2 f2 s2 => by
  refine ⟨show z.cps.size ≤ _ by simp, fun i d hd => ?_⟩
  rw [List.getElem?_map] at hd
  cases e : z.cps.toList[i]? with
  | none => rw [e] at hd; cases hd
  | some c =>
    rw [e] at hd
    cases hd
    have hi : i < z.cps.size := by
      have := (List.getElem?_eq_some_iff.mp e).1
      simpa using this
    refine ⟨hi, fun x H3 ⟨q1, c', q2, q3⟩ => ?_⟩
    subst q1
    have : z.cps.toList[i]? = some c' := by simpa using q2
    rw [e] at this
    cases this
    exact ⟨F2, Gr.refl s2, by rw [q3]; exact .str _⟩
theorem rng_get {lo : Int} {n i : Nat} {d : D} (h : (rng lo n)[i]? = some d) : i < n ∧ d = .int (lo + (i : Nat)) := by
  unfold rng at h
  rw [List.getElem?_map] at h
  cases e : (List.range n)[i]? with
  | none => rw [e] at h; cases h
  | some k =>
    rw [e] at h
    have hi := List.getElem?_eq_some_iff.mp e
    obtain ⟨hlt, hk⟩ := hi
    rw [List.length_range] at hlt
    rw [List.getElem_range] at hk
    subst hk
    exact ⟨hlt, (Option.some.inj h).symm⟩
theorem rng_len (lo : Int) (n : Nat) : (rng lo n).length = n := by unfold rng; simp
theorem walk_rng {lo : Int} {n : Nat} : WalkD K cl (Itr lo n) F (rng lo n) := fun F2 H2 f2 s2 => by
  refine ⟨show n ≤ _ by rw [rng_len]; exact Nat.le_refl _, fun i d hd => ?_⟩
  obtain ⟨hi, rfl⟩ := rng_get hd
  refine ⟨hi, fun x H3 ⟨q1, q2⟩ => ?_⟩
  subst q1
  exact ⟨F2, Gr.refl s2, by rw [q2]; exact .int _⟩
theorem rfi_seq {te : TE} {t : DT} (ha : RfE K cl W te t) : RfI K cl W (iU K te) (iSeq t) where
  mono2 := fun E E' ρ P P' hE h q => ha.mono2 E E' ρ _ _ hE (fun x q => by cases x <;> first | exact h _ q | exact q.elim) q
  ok := fun F0 H0 F H σ ρ E R hh le q => by
    refine ha.ok F0 H0 F H σ ρ E _ hh le (ha.mono E ρ _ _ (fun x q v F1 H1 g1 r1 => ?_) q)
    cases r1 with
    | lst e r => exact .inl ⟨_, rfl, ⟨_, SqL.of (g1.s _ _ e)⟩, q _ F1 H1 g1 (walk_lst e r)⟩
    | tup e r => exact .inr (.inl ⟨_, rfl, ⟨_, same_t g1.s e⟩, q _ F1 H1 g1 (walk_tup e r)⟩)
    | str z => exact .inr (.inr ⟨z, rfl, q _ F1 H1 g1 walk_str⟩)
    | _ => exact q.elim
theorem rfi_rng1 {ta : TA} {t : DA} (ha : RfA K cl W ta t) : RfI K cl W (L2.iRng1 ta) (DL.iRng1 t) where
  mono2 := fun E E' ρ P P' hE h q => ha.mono2 E E' ρ _ _ hE (fun xs q => by
    match xs, q with
    | [.int j], q => exact ⟨q.1, q.2.1, h _ q.2.2⟩) q
  ok := fun F0 H0 F H σ ρ E R hh le q => by
    refine ha.ok F0 H0 F H σ ρ E _ hh le (ha.mono E ρ _ _ (fun xs q v F1 H1 g1 r1 => ?_) q)
    match xs, q, r1 with
    | [.int j], q, .cons (.int _) .nil => exact ⟨j, rfl, q.1, q.2.1, q.2.2 _ F1 H1 g1 walk_rng⟩
theorem rfi_rng2 {ta : TA} {t : DA} (ha : RfA K cl W ta t) : RfI K cl W (L2.iRng2 ta) (DL.iRng2 t) where
  mono2 := fun E E' ρ P P' hE h q => ha.mono2 E E' ρ _ _ hE (fun xs q => by
    match xs, q with
    | [.int i, .int j], q => exact ⟨q.1, h _ q.2⟩) q
  ok := fun F0 H0 F H σ ρ E R hh le q => by
    refine ha.ok F0 H0 F H σ ρ E _ hh le (ha.mono E ρ _ _ (fun xs q v F1 H1 g1 r1 => ?_) q)
    match xs, q, r1 with
    | [.int i, .int j], q, .cons (.int _) (.cons (.int _) .nil) => exact ⟨i, j, rfl, q.1, q.2 _ F1 H1 g1 walk_rng⟩

/-! ### enumerate, zip, reversed -/
theorem enum_get {ds : List D} {i : Nat} {d : D} (h : (enumD ds)[i]? = some d) : ∃ x, ds[i]? = some x ∧ d = .tup [.int (i : Nat), x] := by
  unfold enumD at h
  rw [List.getElem?_map, List.getElem?_zipIdx] at h
  cases e : ds[i]? with
  | none => rw [e] at h; cases h
  | some x =>
    rw [e] at h
    refine ⟨x, rfl, ?_⟩
    have := Option.some.inj h
    rw [← this]
    simp
theorem enum_len (ds : List D) : (enumD ds).length = ds.length := by simp [enumD]
theorem zip_get {ds es : List D} {i : Nat} {d : D} (h : (zipD ds es)[i]? = some d) : ∃ x y, ds[i]? = some x ∧ es[i]? = some y ∧ d = .tup [x, y] := by
  unfold zipD at h
  rw [List.getElem?_map] at h
  cases e : (ds.zip es)[i]? with
  | none => rw [e] at h; cases h
  | some p =>
    rw [e] at h
    obtain ⟨h1, h2⟩ := List.getElem?_zip_eq_some.mp e
    exact ⟨p.1, p.2, h1, h2, (Option.some.inj h).symm⟩
theorem zip_len (ds es : List D) : (zipD ds es).length = min ds.length es.length := by simp [zipD]
theorem walk_enum {a : Addr} {vs : List V} {ds : List D} (e : F a = some (.lst vs)) (r : Reps K cl F vs ds) : WalkD K cl (Ite K a) F (enumD ds) := fun F2 H2 f2 s2 => by
  have hl : SqL K H2 a vs := SqL.of (s2 _ _ (f2 _ _ e))
  refine ⟨⟨vs, hl, by rw [enum_len, r.length]; exact Nat.le_refl _⟩, fun i d hd => ?_⟩
  obtain ⟨x, hx, rfl⟩ := enum_get hd
  obtain ⟨v, e1, rv⟩ := r.get hx
  refine ⟨⟨vs, v, hl, e1⟩, fun u H3 ⟨T, y, q0, q1, q2, q3⟩ => ?_⟩
  have := q3 vs hl
  rw [e1] at this
  cases this
  subst q2 q0
  exact ⟨upd F2 T (.tup [.int (i : Nat), v]), Gr.new s2 q1, .tup (.inl (.inl upd_same)) (.cons (.int _) (.cons ((rv.mono f2).mono (same_upd (s2.free q1))) .nil))⟩
theorem walk_zip {a b : Addr} {vs us : List V} {ds es : List D} (e : F a = some (.lst vs)) (r : Reps K cl F vs ds) (e' : F b = some (.lst us)) (r' : Reps K cl F us es) : WalkD K cl (Itz K a b) F (zipD ds es) := fun F2 H2 f2 s2 => by
  have hl : SqL K H2 a vs := SqL.of (s2 _ _ (f2 _ _ e))
  have hl' : SqL K H2 b us := SqL.of (s2 _ _ (f2 _ _ e'))
  refine ⟨⟨vs, us, hl, hl', by rw [zip_len, r.length, r'.length]; omega⟩, fun i d hd => ?_⟩
  obtain ⟨x, y, hx, hy, rfl⟩ := zip_get hd
  obtain ⟨v, e1, rv⟩ := r.get hx
  obtain ⟨u, e2, ru⟩ := r'.get hy
  refine ⟨⟨vs, us, v, u, hl, hl', e1, e2⟩, fun w H3 ⟨T, z1, z2, q0, q1, q2, q3, q4⟩ => ?_⟩
  have := q3 vs hl
  rw [e1] at this
  cases this
  have := q4 us hl'
  rw [e2] at this
  cases this
  subst q2 q0
  exact ⟨upd F2 T (.tup [v, u]), Gr.new s2 q1, .tup (.inl (.inl upd_same)) (.cons ((rv.mono f2).mono (same_upd (s2.free q1))) (.cons ((ru.mono f2).mono (same_upd (s2.free q1))) .nil))⟩
theorem walk_zipT {a b : Addr} {vs us : List V} {ds es : List D} (e : SqT K F a vs) (r : Reps K cl F vs ds) (e' : SqT K F b us) (r' : Reps K cl F us es) : WalkD K cl (RZ.ItzT K a b) F (zipD ds es) := fun F2 H2 f2 s2 => by
  have hl : SqT K H2 a vs := same_t s2 (same_t f2 e)
  have hl' : SqT K H2 b us := same_t s2 (same_t f2 e')
  refine ⟨⟨vs, us, hl, hl', by rw [zip_len, r.length, r'.length]; omega⟩, fun i d hd => ?_⟩
  obtain ⟨x, y, hx, hy, rfl⟩ := zip_get hd
  obtain ⟨v, e1, rv⟩ := r.get hx
  obtain ⟨u, e2, ru⟩ := r'.get hy
  refine ⟨⟨vs, us, v, u, hl, hl', e1, e2⟩, fun w H3 ⟨T, z1, z2, q0, q1, q2, q3, q4⟩ => ?_⟩
  have := q3 vs hl
  rw [e1] at this
  cases this
  have := q4 us hl'
  rw [e2] at this
  cases this
  subst q2 q0
  exact ⟨upd F2 T (.tup [v, u]), Gr.new s2 q1, .tup (.inl (.inl upd_same)) (.cons ((rv.mono f2).mono (same_upd (s2.free q1))) (.cons ((ru.mono f2).mono (same_upd (s2.free q1))) .nil))⟩
theorem rev_get {ds : List D} {i : Nat} {d : D} (h : ds.reverse[i]? = some d) : i < ds.length ∧ ds[ds.length - 1 - i]? = some d := by
  have hi := (List.getElem?_eq_some_iff.mp h).1
  rw [List.length_reverse] at hi
  rw [List.getElem?_reverse hi] at h
  exact ⟨hi, h⟩
theorem walk_rev {a : Addr} {vs : List V} {ds : List D} (e : F a = some (.lst vs)) (r : Reps K cl F vs ds) : WalkD K cl (Itv K a vs.length) F ds.reverse := fun F2 H2 f2 s2 => by
  have hl : SqL K H2 a vs := SqL.of (s2 _ _ (f2 _ _ e))
  refine ⟨show vs.length ≤ _ by rw [List.length_reverse, r.length]; exact Nat.le_refl _, fun i d hd => ?_⟩
  obtain ⟨hi, hd⟩ := rev_get hd
  obtain ⟨v, e1, rv⟩ := r.get hd
  rw [← r.length] at e1 hi
  refine ⟨⟨hi, vs, v, hl, e1⟩, fun x H3 ⟨q1, q2⟩ => ?_⟩
  subst q1
  have := q2 vs hl
  rw [e1] at this
  cases this
  exact ⟨F2, Gr.refl s2, rv.mono f2⟩
theorem walk_revT {a : Addr} {vs : List V} {ds : List D} (e : SqT K F a vs) (r : Reps K cl F vs ds) : WalkD K cl (RT.ItvT K a vs.length) F ds.reverse := fun F2 H2 f2 s2 => by
  have hl : SqT K H2 a vs := same_t s2 (same_t f2 e)
  refine ⟨show vs.length ≤ _ by rw [List.length_reverse, r.length]; exact Nat.le_refl _, fun i d hd => ?_⟩
  obtain ⟨hi, hd⟩ := rev_get hd
  obtain ⟨v, e1, rv⟩ := r.get hd
  rw [← r.length] at e1 hi
  refine ⟨⟨hi, vs, v, hl, e1⟩, fun x H3 ⟨q1, q2⟩ => ?_⟩
  subst q1
  have := q2 vs hl
  rw [e1] at this
  cases this
  exact ⟨F2, Gr.refl s2, rv.mono f2⟩
theorem rfi_enum {ta : TA} {t : DA} (ha : RfA K cl W ta t) : RfI K cl W (L2.iEnum K ta) (DL.iEnum t) where
  mono2 := fun E E' ρ P P' hE h q => ha.mono2 E E' ρ _ _ hE (fun xs q => by
    match xs, q with
    | [.lst l], q => exact h _ q) q
  ok := fun F0 H0 F H σ ρ E R hh le q => by
    refine ha.ok F0 H0 F H σ ρ E _ hh le (ha.mono E ρ _ _ (fun xs q v F1 H1 g1 r1 => ?_) q)
    match xs, q, r1 with
    | [.lst l], q, .cons (.lst e r) .nil => exact ⟨_, _, rfl, SqL.of (g1.s _ _ e), q _ F1 H1 g1 (walk_enum e r)⟩
theorem rfi_zip {ta : TA} {t : DA} (ha : RfA K cl W ta t) : RfI K cl W (RZ.iZipA K ta) (DL.iZip t) where
  mono2 := fun E E' ρ P P' hE h q => ha.mono2 E E' ρ _ _ hE (fun xs q => by
    match xs, q with
    | [.lst _, .lst _], q => exact h _ q
    | [.tup _, .tup _], q => exact h _ q) q
  ok := fun F0 H0 F H σ ρ E R hh le q => by
    refine ha.ok F0 H0 F H σ ρ E _ hh le (ha.mono E ρ _ _ (fun xs q v F1 H1 g1 r1 => ?_) q)
    match xs, q, r1 with
    | [.lst _, .lst _], q, .cons (.lst e r) (.cons (.lst e' r') .nil) => exact ⟨_, _, _, _, rfl, .inl ⟨SqL.of (g1.s _ _ e), SqL.of (g1.s _ _ e'), q _ F1 H1 g1 (walk_zip e r e' r')⟩⟩
    | [.tup _, .tup _], q, .cons (.tup e r) (.cons (.tup e' r') .nil) => exact ⟨_, _, _, _, rfl, .inr ⟨same_t g1.s e, same_t g1.s e', q _ F1 H1 g1 (walk_zipT e r e' r')⟩⟩
theorem rfi_rev {te : TE} {t : DT} (ha : RfE K cl W te t) : RfI K cl W (RT.iRevA K te) (DL.iRev t) where
  mono2 := fun E E' ρ P P' hE h q => ha.mono2 E E' ρ _ _ hE (fun x q => by cases x <;> first | exact h _ q | exact q.elim) q
  ok := fun F0 H0 F H σ ρ E R hh le q => by
    refine ha.ok F0 H0 F H σ ρ E _ hh le (ha.mono E ρ _ _ (fun x q v F1 H1 g1 r1 => ?_) q)
    cases r1 with
    | lst e r => exact ⟨_, _, rfl, .inl ⟨SqL.of (g1.s _ _ e), q _ F1 H1 g1 (walk_rev e r)⟩⟩
    | tup e r => exact ⟨_, _, rfl, .inr ⟨same_t g1.s e, q _ F1 H1 g1 (walk_revT e r)⟩⟩
    | _ => exact q.elim
/-! ### list comprehensions -/
theorem wipe_same {js : List Nat} : ∀ {vs : List Nat} {σ σ' : L2.St}, Agree js σ σ' → (∀ j ∈ js, j ∈ vs) → wipe σ' vs = wipe σ vs := by
  have key : ∀ (vs : List Nat) (σ : L2.St) (i : Nat), i ∈ vs → i < σ.length → (wipe σ vs)[i]? = some none := by
    intro vs σ i hi hl
    have hl' : i < (wipe σ vs).length := by rw [wipe_length]; exact hl
    rw [List.getElem?_eq_getElem hl']
    cases e : (wipe σ vs)[i] with
    | none => rfl
    | some x =>
      have q : (wipe σ vs)[i]? = some (some x) := by rw [List.getElem?_eq_getElem hl', e]
      exact absurd hi (wipe_some q).2
  intro vs σ σ' a h
  apply List.ext_getElem?
  intro i
  by_cases hi : i ∈ vs
  · by_cases hl : i < σ.length
    · rw [key vs σ i hi hl, key vs σ' i hi (by rw [a.1]; exact hl)]
    · have e1 : (wipe σ vs)[i]? = none := by
        rw [List.getElem?_eq_none_iff, wipe_length]
        omega
      have e2 : (wipe σ' vs)[i]? = none := by
        rw [List.getElem?_eq_none_iff, wipe_length, a.1]
        omega
      rw [e1, e2]
  · rw [wipe_out hi, wipe_out hi]
    exact a.2 i fun z => hi (h i z)
theorem wipe_at (σ : L2.St) : ∀ (vs : List Nat) (i : Nat), i ∉ vs → (wipe σ vs)[i]? = σ[i]? := fun vs i h => wipe_out h
theorem noOwn_o {ρ : DL.Env} (i : Nat) (d : D) : (noOwn ρ)[i]? ≠ some (.o d) := by
  unfold noOwn
  rw [List.getElem?_map]
  cases ρ[i]? with
  | none => simp
  | some u => cases u <;> simp
theorem Hold.wipe {vs : List Nat} (h : Hold K cl F0 H0 F H σ ρ) : Hold K cl F H F H (L2.wipe σ vs) (noOwn (wipeE ρ vs)) := by
  have hw : ∀ (vs : List Nat) (ρ : DL.Env) (i : Nat) d, (wipeE ρ vs)[i]? = some (.v d) → i ∉ vs ∧ ρ[i]? = some (.v d) := by
    intro vs
    induction vs with
    | nil => intro ρ i d q; exact ⟨by simp, q⟩
    | cons v r ih =>
      intro ρ i d q
      obtain ⟨h1, h2⟩ := ih (ρ.set v .no) i d q
      by_cases hv : v = i
      · subst hv
        have hl : v < ρ.length := by
          have := (List.getElem?_eq_some_iff.mp h2).1
          simpa using this
        rw [List.getElem?_set_self hl] at h2
        cases h2
      · rw [List.getElem?_set_ne hv] at h2
        exact ⟨by simp [h1, Ne.symm hv], h2⟩
  have hlen : ∀ (vs : List Nat) (ρ : DL.Env), (wipeE ρ vs).length = ρ.length := by
    intro vs
    induction vs with
    | nil => intro ρ; rfl
    | cons v r ih => intro ρ; exact (ih _).trans (by simp)
  obtain ⟨θ, hs, hd⟩ := h.sl
  refine ⟨Gr.refl h.g.s, by rw [wipe_length, h.len]; simp [noOwn, hlen], θ, fun i s e => ?_, fun i j di dj e1 e2 => ?_, fun i a d _ e2 => absurd e2 (noOwn_o i d)⟩
  · unfold noOwn at e
    rw [List.getElem?_map] at e
    cases q : (wipeE ρ vs)[i]? with
    | none => rw [q] at e; cases e
    | some u =>
      rw [q] at e
      cases u with
      | no => cases e; trivial
      | o d => cases e; trivial
      | v d =>
        cases e
        obtain ⟨h1, h2⟩ := hw vs ρ i d q
        obtain ⟨v, e1, r⟩ := hs i _ h2
        exact ⟨v, by rw [wipe_out h1]; exact e1, r⟩
  · exfalso
    unfold noOwn at e1
    rw [List.getElem?_map] at e1
    cases q : (wipeE ρ vs)[i]? with
    | none => rw [q] at e1; cases e1
    | some u => rw [q] at e1; cases u <;> cases e1
/-- the new list grows -/
theorem Hold.list {D0 : Addr} {o : HO} (h : Hold K cl F0 H0 F H σ ρ) (hn : ∀ (i : Nat) (d : D), ρ[i]? ≠ some (Sl.o d)) (hD : F D0 = none) (hD0 : H0 D0 = none) : Hold K cl F0 H0 F (upd H D0 o) σ ρ := by
  obtain ⟨θ, hs, hd⟩ := h.sl
  refine ⟨⟨h.g.f, fun p u e => ?_, fun p u e => ?_, h.g.n⟩, h.len, θ, fun i s e => ?_, hd⟩
  · rw [upd_ne (ne_of_none e hD0)]
    exact h.g.k p u e
  · rw [upd_ne (ne_of_none e hD)]
    exact h.g.s p u e
  · have q := hs i s e
    cases s with
    | no => trivial
    | v d => exact q
    | o d => exact absurd e (hn i d)
theorem rfb_yes : RfB K cl W tYes bYes where
  mono2 := fun E E' ρ P P' hE h q => h _ q
  ok := fun F0 H0 F H σ ρ E Q hh le q => q F H (Gr.refl hh.g.s)
/-- a target keeps what it does not name: no own objects come up -/
structure NoO (g : DG) : Prop where
  k : ∀ (d : D) (ρ : DL.Env) (P : DL.Env → Prop), (∀ (i : Nat) (e : D), ρ[i]? ≠ some (Sl.o e)) → g d ρ P → g d ρ fun ρ' => (∀ (i : Nat) (e : D), ρ'[i]? ≠ some (Sl.o e)) ∧ P ρ'
theorem noO_name {i : Nat} : NoO (DL.gName i) := ⟨fun d ρ P h q => ⟨fun j e z => by
  by_cases hj : i = j
  · subst hj
    have hl : i < ρ.length := by
      have := (List.getElem?_eq_some_iff.mp z).1
      simpa using this
    rw [List.getElem?_set_self hl] at z
    cases z
  · rw [List.getElem?_set_ne hj] at z
    exact h j e z, q⟩⟩
structure NoOs (g : DGs) : Prop where
  k : ∀ (d : List D) (ρ : DL.Env) (P : DL.Env → Prop), (∀ (i : Nat) (e : D), ρ[i]? ≠ some (Sl.o e)) → g d ρ P → g d ρ fun ρ' => (∀ (i : Nat) (e : D), ρ'[i]? ≠ some (Sl.o e)) ∧ P ρ'
theorem noOs_nil : NoOs DL.gNil := ⟨fun d ρ P h q => ⟨q.1, h, q.2⟩⟩
theorem noOs_cons {g : DG} {r : DGs} (m : ∀ d ρ (P P' : DL.Env → Prop), (∀ ρ, P ρ → P' ρ) → g d ρ P → g d ρ P') (h1 : NoO g) (h2 : NoOs r) : NoOs (DL.gCons g r) := ⟨fun d ρ P h q => by
  cases d with
  | nil => exact q.elim
  | cons x ys => exact m _ _ _ _ (fun ρ' q => h2.k _ _ _ q.1 q.2) (h1.k _ _ _ h q)⟩
theorem noO_tup {r : DGs} (h : NoOs r) : NoO (DL.gTup r) := ⟨fun d ρ P hh q => by
  cases d <;> first | exact h.k _ _ _ hh q | exact q.elim⟩
theorem rfn_lc {js vs : List Nat} {wi : TI} {it : DI} {g : TG} {d : DG} {tt : TT} {t : DB} {te : TE} {e : DT} (hi : RfI K cl W wi it) (hg : RfG K cl js g d) (hn : NoO d) (hjs : ∀ j ∈ js, j ∈ vs)
    (ht : RfB K cl (fun _ _ _ _ => False) tt t) (he : RfE K cl (fun _ _ _ _ => False) te e) : RfN K cl W (tLc wi g tt te vs) (dLc it d t e vs) where
  mono2 := fun E E' ρ P P' hE h q => hi.mono2 E E' ρ _ _ hE (fun xs q => by
    have go : ∀ (xs : List D) (ρ : DL.Env) (acc : List D) (Q Q' : List D → Prop), (∀ r, Q r → Q' r) → lcL d t e ρ xs acc Q → lcL d t e ρ xs acc Q' := by
      intro xs
      induction xs with
      | nil => intro ρ acc Q Q' hQ q; exact hQ _ q
      | cons x r ih =>
        intro ρ acc Q Q' hQ q
        refine hg.mono x ρ _ _ (fun ρ' q => ht.mono noE ρ' _ _ (fun k q => ?_) q) q
        cases k with
        | true => exact he.mono noE ρ' _ _ (fun y q => ⟨q.1, ih ρ _ Q Q' hQ q.2⟩) q
        | false => exact ih ρ _ Q Q' hQ q
    exact go xs _ _ _ _ (fun r q => h _ q) q) q
  ok := fun F0 H0 F H σ ρ E Q hh le q => by
    refine hi.ok F0 H0 F H σ ρ E _ hh le (hi.mono E ρ _ _ (fun xs q J F1 H1 g1 wk D0 hD => ?_) q)
    have hh1 := hh.grow g1
    have hb := hh1.wipe (vs := vs)
    have hF1 : F1 D0 = none := g1.s.free hD
    have leN : ∀ {A B : Hp}, LinkE K cl A B (fun _ _ _ _ => False) noE := fun {A B} err ρ σ F H c dx _ z _ => z.elim
    refine ⟨fun i m H => m = xs.length - i ∧ i ≤ xs.length ∧ ∃ F acc accd, Hold K cl F1 H1 F H (wipe σ vs) (noOwn (wipeE ρ vs)) ∧ F D0 = none ∧ H D0 = some (.lst acc) ∧ Reps K cl F acc accd ∧
      lcL d t e (noOwn (wipeE ρ vs)) (xs.drop i) accd (fun r => ∀ p F' H', Gr F1 H1 F' H' → H1 p = none → F' p = none → Own K cl F' H' p (.lst r) → Q (.ref p) H'),
      ⟨xs.length, by simp, Nat.zero_le _, F1, [], [], hb.list (fun i d => noOwn_o i d) hF1 hD, hF1, upd_same, .nil, ?_⟩, ?_⟩
    · have go : ∀ (xs : List D) (ρ : DL.Env) (acc : List D) (Q Q' : List D → Prop), (∀ r, Q r → Q' r) → lcL d t e ρ xs acc Q → lcL d t e ρ xs acc Q' := by
        intro xs
        induction xs with
        | nil => intro ρ acc Q Q' hQ q; exact hQ _ q
        | cons x r ih =>
          intro ρ acc Q Q' hQ q
          refine hg.mono x ρ _ _ (fun ρ' q => ht.mono noE ρ' _ _ (fun k q => ?_) q) q
          cases k with
          | true => exact he.mono noE ρ' _ _ (fun y q => ⟨q.1, ih ρ _ Q Q' hQ q.2⟩) q
          | false => exact ih ρ _ Q Q' hQ q
      exact go xs _ _ _ _ (fun r q p F' H' g2 h1 h2 h3 => q p F' H' (g1.trans g2) (g1.k.free h1) h2 h3) q
    · rintro i m H2 ⟨rfl, hi2, F2, acc, accd, h2, hF2, hD2, ra, q2⟩
      have w2 := wk F2 H2 h2.g.f h2.g.s
      by_cases hlt : i < xs.length
      · have ed : xs.drop i = xs[i] :: xs.drop (i + 1) := List.drop_eq_getElem_cons hlt
        rw [ed] at q2
        obtain ⟨wg, wy⟩ := w2.2 i xs[i] (List.getElem?_eq_getElem hlt)
        refine .inr ⟨wg, fun H' => ∃ F acc accd, Hold K cl F1 H1 F H' (wipe σ vs) (noOwn (wipeE ρ vs)) ∧ F D0 = none ∧ H' D0 = some (.lst acc) ∧ Reps K cl F acc accd ∧
          lcL d t e (noOwn (wipeE ρ vs)) (xs.drop (i + 1)) accd (fun r => ∀ p F' H', Gr F1 H1 F' H' → H1 p = none → F' p = none → Own K cl F' H' p (.lst r) → Q (.ref p) H'), fun H' ⟨F', a', ad', x1, x2, x3, x4, x5⟩ => ⟨xs.length - (i + 1), by omega, rfl, hlt, F', a', ad', x1, x2, x3, x4, x5⟩, fun x H3 hy => ?_⟩
        obtain ⟨F3, g3, r3⟩ := wy x H3 hy
        have h3 := h2.grow g3
        have n3 : F3 D0 = none := g3.keepNone hD2 hF2
        have q2' := hn.k _ _ _ (fun i d => noOwn_o i d) q2
        refine hg.ok F1 H1 F3 H3 _ _ x xs[i] _ h3 r3 (hg.mono _ _ _ _ (fun ρ4 q4 σ4 h4 ag => ?_) q2')
        obtain ⟨no4, q4⟩ := q4
        refine ⟨(wipe_same ag hjs).trans ?_, ?_⟩
        · have := wipe_same (vs := vs) (js := vs) (σ := σ) (σ' := wipe σ vs) ⟨wipe_length _ _, fun i hi => wipe_out hi⟩ (fun j hj => hj)
          exact this
        refine ht.ok F1 H1 F3 H3 σ4 ρ4 noE _ h4 leN (ht.mono noE ρ4 _ _ (fun k q F4 H4 g4 => ?_) q4)
        have h4' := h3.grow g4
        have n4 : F4 D0 = none := g4.keepNone (g3.k _ _ hD2) n3
        have e4 : H4 D0 = some (.lst acc) := g4.k _ _ (g3.k _ _ hD2)
        cases k with
        | false =>
          exact ⟨F4, acc, accd, h4', n4, e4, (ra.mono g3.f).mono g4.f, q⟩
        | true =>
          refine he.ok F1 H1 F4 H4 σ4 ρ4 noE _ (h4.grow g4) leN (he.mono noE ρ4 _ _ (fun y q v F5 H5 g5 r5 => ?_) q)
          have n5 : F5 D0 = none := g5.keepNone e4 n4
          have e5 : H5 D0 = some (.lst acc) := g5.k _ _ e4
          refine ⟨acc, e5, by rw [ra.length, ← line_eq]; exact q.1, F5, acc ++ [v], accd ++ [y], (h4'.grow g5).list (fun i d => noOwn_o i d) n5 hD, n5, upd_same, (((ra.mono g3.f).mono g4.f).mono g5.f).append (.cons r5 .nil), q.2⟩
      · have e : i = xs.length := by omega
        subst e
        rw [List.drop_length] at q2
        exact .inl ⟨w2.1, q2 D0 F2 H2 h2.g hD hF2 ⟨acc, hD2, ra⟩⟩

/-! ### lists of the def's own -/
theorem Hold.mut {i : Nat} {a : Addr} {d d' : D} {o : HO} (h : Hold K cl F0 H0 F H σ ρ) (ha : σ[i]? = some (some (.ref a))) (e : ρ[i]? = some (.o d)) (w : Own K cl F (upd H a o) a d') : Hold K cl F0 H0 F (upd H a o) σ (ρ.set i (.o d')) := by
  obtain ⟨θ, hs, hd, hpn⟩ := h.sl
  obtain ⟨e1, n0, nf, w0⟩ := hs i _ e
  have ea : θ i = a := by
    rw [ha] at e1
    have : (some (V.ref a) : Option V) = some (V.ref (θ i)) := e1
    cases this
    rfl
  rw [ea] at n0 nf
  refine ⟨⟨h.g.f, fun p u q => ?_, fun p u q => ?_, h.g.n⟩, by simp [h.len], θ, fun j s q => ?_, fun j k dj dk q1 q2 q => ?_, fun j b dj q1 q2 => ?_⟩
  · rw [upd_ne (ne_of_none q n0)]
    exact h.g.k p u q
  · rw [upd_ne (ne_of_none q nf)]
    exact h.g.s p u q
  · by_cases hj : i = j
    · subst hj
      have hl : i < ρ.length := (List.getElem?_eq_some_iff.mp e).1
      rw [List.getElem?_set_self hl] at q
      cases q
      rw [← ea] at w n0 nf
      exact ⟨e1, n0, nf, by rw [ea] at w ⊢; exact w⟩
    · rw [List.getElem?_set_ne hj] at q
      have r := hs j s q
      cases s with
      | no => trivial
      | v d => exact r
      | o d2 =>
        obtain ⟨z1, z0, zf, zw⟩ := r
        have hne : θ j ≠ a := fun z => hj (hd i j _ _ e q (by rw [ea, z]))
        exact ⟨z1, z0, zf, zw.mono (Same.refl _) fun o e => by rw [upd_ne hne]; exact e⟩
  · have ne : ∀ {b db}, (ρ.set i (Sl.o d'))[b]? = some (Sl.o db) → ∃ dc, ρ[b]? = some (Sl.o dc) := fun {b db} q => by
      by_cases hb : i = b
      · subst hb
        exact ⟨d, e⟩
      · rw [List.getElem?_set_ne hb] at q
        exact ⟨db, q⟩
    obtain ⟨_, x1⟩ := ne q1
    obtain ⟨_, x2⟩ := ne q2
    exact hd j k _ _ x1 x2 q
  · by_cases hb : i = j
    · subst hb
      exact hpn i b _ q1 e
    · rw [List.getElem?_set_ne hb] at q2
      exact hpn j b _ q1 q2
theorem Hold.ownAt {i : Nat} {d : D} (h : Hold K cl F0 H0 F H σ ρ) (e : ρ[i]? = some (.o d)) : ∃ a, σ[i]? = some (some (.ref a)) ∧ H0 a = none ∧ F a = none ∧ Own K cl F H a d := by
  obtain ⟨θ, hs, hd⟩ := h.sl
  obtain ⟨e1, n0, nf, w0⟩ := hs i _ e
  exact ⟨θ i, join_some e1, n0, nf, w0⟩
theorem rfs_retO {i : Nat} (hf : cl.fr = true) : RfS K cl W (tRet (tVar i)) (sRetO i) where
  mono2 := fun E E' A B ρ hE l q => by
    unfold sRetO gO at q ⊢
    split at q
    · exact l.rt _ q
    · exact q.elim
  ok := fun F0 H0 F H σ ρ E B A hh le ld q => by
    unfold sRetO gO at q
    split at q
    · rename_i d e
      obtain ⟨a, ea, n0, nf, w⟩ := hh.ownAt e
      exact ⟨.ref a, ea, ld.rt _ _ _ _ hh.g (fun z => by rw [hf] at z; cases z) (fun _ => ⟨a, rfl, n0, nf, w⟩) q⟩
    · exact q.elim
/-- xs.append(e) as a statement -/
def tAppS (K : Fg) (i : Nat) (te : TE) : TS := tDrop (tBM K "list" rAppend (tVar i) (tCons te tNil))
theorem rfs_app {i : Nat} {te : TE} {t : DT} (ha : RfE K cl W te t) : RfS K cl W (tAppS K i te) (sApp i t) where
  mono2 := fun E E' A B ρ hE l q => by
    unfold sApp at q ⊢
    cases e : ρ[i]? with
    | none => rw [e] at q; exact q.elim
    | some s =>
      rw [e] at q
      cases s with
      | no => exact q.elim
      | v d => exact q.elim
      | o d => cases d <;> first | exact ha.mono2 E E' ρ _ _ hE (fun x q => ⟨q.1, l.nx _ q.2⟩) q | exact q.elim
  ok := fun F0 H0 F H σ ρ E B A hh le ld q => by
    unfold sApp at q
    cases e : ρ[i]? with
    | none => rw [e] at q; exact q.elim
    | some s =>
      rw [e] at q
      cases s with
      | no => exact q.elim
      | v d => exact q.elim
      | o d =>
        cases d with
        | lst xs =>
          obtain ⟨a, ea, n0, nf, vs, ho, rr⟩ := hh.ownAt e
          refine ⟨.ref a, ea, .inl ⟨rfl, vs, SqL.of ho⟩, ?_⟩
          refine ha.ok F0 H0 F H σ ρ E _ hh le (ha.mono E ρ _ _ (fun x q v F1 H1 g1 r1 => ?_) q)
          have e1 := g1.k _ _ ho
          refine ⟨a, vs, v, rfl, rfl, e1, by rw [rr.length, ← line_eq]; exact q.1, ?_⟩
          exact ld.nx _ _ _ _ ((hh.grow g1).mut (d' := .lst (xs ++ [x])) ea e ⟨vs ++ [v], upd_same, (rr.mono g1.f).append (.cons r1 .nil)⟩) q.2
        | _ => exact q.elim

/-! ### calls of the text's defs -/
/-- the promise that a def's transformer makes -/
def spD (K : Fg) (cl : Cl) (Wf : DF) : Sp := fun vs H Q E => ∃ F ds Q' E', Same F H ∧ Reps K cl F vs ds ∧ Wf ds Q' E' ∧ (∀ d, Q' d → ∀ v F' H', Gr F H F' H' → Rep K cl F' v d → Q v H') ∧ ∀ err, E' err → ∀ c dx F' H', Gr F H F' H' → RepErr K cl F' c dx err → E c dx H'
theorem rfe_call {Wf : DF} {dvs : List V} {dds : List D} (hd : ∀ F, Reps K cl F dvs dds) {ta : TA} {t : DA} (ha : RfA K cl W ta t) : RfE K cl W (tCallSD (spD K cl Wf) dvs (fun σ => WE W σ) ta) (dCall (fun ds => Wf (ds ++ dds)) t) where
  mono2 := fun E E' ρ P P' hE h q => ha.mono2 E E' ρ _ _ hE (fun xs q => q.mono h fun e z => hE e ρ z) q
  ok := fun F0 H0 F H σ ρ E Q hh le q => by
    refine ha.ok F0 H0 F H σ ρ E _ hh le (ha.mono E ρ _ _ (fun xs q vs F1 H1 g1 r1 => ?_) q)
    obtain ⟨Q', E', q, a, b⟩ := q
    exact ⟨F1, xs ++ dds, Q', E', g1.s, r1.append (hd F1), q, fun d z v F' H' g r => a d z v F' H' (g1.trans g) r, fun e z c dx F' H' g r => le e ρ σ F' H' c dx ((hh.grow g1).grow g) (b e z) r⟩
theorem rfe_call0 {Wf : DF} {ta : TA} {t : DA} (ha : RfA K cl W ta t) : RfE K cl W (tCallSD (spD K cl Wf) [] (fun σ => WE W σ) ta) (dCall Wf t) where
  mono2 := fun E E' ρ P P' hE h q => ha.mono2 E E' ρ _ _ hE (fun xs q => q.mono h fun e z => hE e ρ z) q
  ok := fun F0 H0 F H σ ρ E Q hh le q => by
    refine ha.ok F0 H0 F H σ ρ E _ hh le (ha.mono E ρ _ _ (fun xs q vs F1 H1 g1 r1 => ?_) q)
    obtain ⟨Q', E', q, a, b⟩ := q
    exact ⟨F1, xs, Q', E', g1.s, by rw [List.append_nil]; exact r1, q, fun d z v F' H' g r => a d z v F' H' (g1.trans g) r, fun e z c dx F' H' g r => le e ρ σ F' H' c dx ((hh.grow g1).grow g) (b e z) r⟩
end
section
variable {P : Program} {w : World} {K : Fg} {cl : Cl} {mg : Str → Option Value} {base : Heap}
theorem start_hold {F H : Hp} {n : Nat} (s : Same F H) : ∀ {vs : List V} {ds : List D}, Reps K cl F vs ds → vs.length ≤ n → Hold K cl F H F H (vs.map some ++ List.replicate (n - vs.length) none) (envOf n ds) := fun {vs ds} r hl => by
  have no : ∀ (i : Nat) (d : D), (envOf n ds)[i]? ≠ some (.o d) := fun i d e => by
    unfold envOf at e
    have := List.mem_of_getElem? e
    rw [List.mem_append] at this
    rcases this with z | z
    · obtain ⟨d, _, z⟩ := List.mem_map.mp z
      cases z
    · have := (List.mem_replicate.mp z).2
      cases this
  refine ⟨Gr.refl s, by unfold envOf; simp [r.length], fun _ => 0, fun i sl e => ?_, fun i j di dj e _ => absurd e (no i di), fun i a d _ e => absurd e (no i d)⟩
  · unfold envOf at e
    by_cases hi : i < ds.length
    · rw [List.getElem?_append_left (by simpa using hi), List.getElem?_map, List.getElem?_eq_getElem hi] at e
      cases e
      obtain ⟨v, e1, rv⟩ := r.get (List.getElem?_eq_getElem hi)
      refine ⟨v, ?_, rv⟩
      rw [List.getElem?_append_left (by rw [List.length_map, r.length]; exact hi), List.getElem?_map, e1]
      rfl
    · rw [List.getElem?_append_right (by simpa using hi)] at e
      have := List.mem_of_getElem? e
      rw [List.mem_replicate] at this
      rw [this.2]
      trivial
/-- THE RULE for a def -/
theorem fn_okX {x qual : Str} {st : Stmt} {f : Addr} {fd : FuncData} {N ps : List Str} {k : Nat} {b : DS} (F : Fun K x qual st f fd) (S : FnScope N ps (defScope st)) (hp : ps.length ≤ N.length)
    (hb : ∀ (cdv : Value) (A : Around) (outer : List PySem.Env) (s : Shared) (H : Hp) (E : XK), Room k (A.deeper (envOfC qual (defScope st) s.heap.objs.size f cdv)) →
      ∃ t, VSs (cxOf (L2.CX P w) P w K mg base N qual (defScope st) f cdv A outer s H E) K cl (fun c d _ H' => E c d H') (defBody st) t b) (hf : cl.fr = false := by rfl) :
    FnOk P w K mg base (L2.CX P w) (k + 1) f fd ps (spD K cl (defT ps.length N.length b)) := by
  refine F.okX S (fun vs H Q E h => ?_) (fun cdv A outer s H vs Q E hr h => ?_)
  · obtain ⟨F0, ds, Q', E', _, r, ⟨hl, _⟩, _⟩ := h
    rw [r.length]
    exact hl
  · obtain ⟨F0, ds, Q', E', s0, r, ⟨hl, q⟩, hQ, hE⟩ := h
    obtain ⟨t, h⟩ := hb cdv A outer s H E hr
    refine ⟨t, h.pe, ?_⟩
    have hn : vs.length ≤ N.length := by rw [r.length, hl]; exact hp
    exact h.rf.ok F0 H F0 H _ _ (fun e _ => E' e) { nx := fun _ => Q' .non, rt := Q' } { nx := fun _ H' => Q .non H', rt := Q } (start_hold s0 r hn) (fun err ρ σ F' H' c dx h e re => hE err e c dx F' H' h.g re)
      ⟨fun F' H' σ ρ h q => hQ _ q .non F' H' h.g .non, fun _ _ _ _ _ z => z.elim, fun _ _ _ _ _ z => z.elim, fun F' H' v d g r _ q => hQ d q v F' H' g (r hf), fun _ _ _ _ _ _ _ _ z => z.elim⟩ q
/-- the promise of a def that gives a new object of its own -/
def spN (K : Fg) (cl : Cl) (Wf : DF) : Sp := fun vs H Q E => ∃ F ds Q' E', Same F H ∧ Reps K cl F vs ds ∧ Wf ds Q' E' ∧ (∀ d, Q' d → ∀ p F' H', Gr F H F' H' → H p = none → F' p = none → Own K cl F' H' p d → Q (.ref p) H') ∧ ∀ err, E' err → ∀ c dx F' H', Gr F H F' H' → RepErr K cl F' c dx err → E c dx H'
/-- THE RULE for such a def -/
theorem fn_okF {x qual : Str} {st : Stmt} {f : Addr} {fd : FuncData} {N ps : List Str} {k : Nat} {b : DS} (F : Fun K x qual st f fd) (S : FnScope N ps (defScope st)) (hp : ps.length ≤ N.length)
    (hb : ∀ (cdv : Value) (A : Around) (outer : List PySem.Env) (s : Shared) (H : Hp) (E : XK), Room k (A.deeper (envOfC qual (defScope st) s.heap.objs.size f cdv)) →
      ∃ t, VSs (cxOf (L2.CX P w) P w K mg base N qual (defScope st) f cdv A outer s H E) K cl (fun c d _ H' => E c d H') (defBody st) t b) (hf : cl.fr = true := by rfl) :
    FnOk P w K mg base (L2.CX P w) (k + 1) f fd ps (spN K cl (defF ps.length N.length b)) := by
  refine F.okX S (fun vs H Q E h => ?_) (fun cdv A outer s H vs Q E hr h => ?_)
  · obtain ⟨F0, ds, Q', E', _, r, ⟨hl, _⟩, _⟩ := h
    rw [r.length]
    exact hl
  · obtain ⟨F0, ds, Q', E', s0, r, ⟨hl, q⟩, hQ, hE⟩ := h
    obtain ⟨t, h⟩ := hb cdv A outer s H E hr
    refine ⟨t, h.pe, ?_⟩
    have hn : vs.length ≤ N.length := by rw [r.length, hl]; exact hp
    exact h.rf.ok F0 H F0 H _ _ (fun e _ => E' e) { nx := fun _ => False, rt := Q' } { nx := fun _ H' => Q .non H', rt := Q } (start_hold s0 r hn) (fun err ρ σ F' H' c dx h e re => hE err e c dx F' H' h.g re)
      ⟨fun _ _ _ _ _ z => z.elim, fun _ _ _ _ _ z => z.elim, fun _ _ _ _ _ z => z.elim, fun F' H' v d g _ r q => by
        obtain ⟨p, rfl, n, f, o⟩ := r hf
        exact hQ d q p F' H' g n f o, fun _ _ _ _ _ _ _ _ z => z.elim⟩ q
/-- what is new may be frozen at once -/
theorem own_frz {F H F' H' : Hp} {p : Addr} {d : D} (g : Gr F H F' H') (hp : H p = none) (hf : F' p = none) (w : Own K cl F' H' p d) : ∃ F2, Gr F H F2 H' ∧ Rep K cl F2 (.ref p) d := by
  obtain ⟨ob, ho⟩ := w.there
  have sf : Same F' (upd F' p ob) := same_upd hf
  have s2 : Same (upd F' p ob) H' := fun b u z => by
    by_cases hb : b = p
    · subst hb
      rw [upd_same] at z
      cases z
      exact ho
    · rw [upd_ne hb] at z
      exact g.s b u z
  refine ⟨upd F' p ob, ⟨g.f.trans sf, g.k, s2, fun c x y => ?_⟩, ?_⟩
  · by_cases hc : c = p
    · subst hc; exact hp
    · rw [upd_ne hc] at x
      exact g.n c x y
  · have eo : (upd F' p ob) p = some ob := upd_same
    cases d with
    | lst ds => obtain ⟨vs, z, r⟩ := w; rw [ho] at z; cases z; exact .lst eo (r.mono sf)
    | dk ds => obtain ⟨vs, z, r⟩ := w; rw [ho] at z; cases z; exact .dk eo (r.mono sf)
    | dt ds => obtain ⟨vs, z, r⟩ := w; rw [ho] at z; cases z; exact .dt eo (r.mono sf)
    | ins c ds => obtain ⟨vs, ⟨C, dx, n, z, o, _⟩, r⟩ := w; rw [ho] at z; cases z; exact .ins n eo (sf _ _ o) (r.mono sf)
    | _ => exact w.elim
theorem fn_frz {k : Nat} {f : Addr} {fd : FuncData} {ps : List Str} {Wf : DF} (F : FnOk P w K mg base (L2.CX P w) k f fd ps (spN K cl Wf)) : FnOk P w K mg base (L2.CX P w) k f fd ps (spD K cl Wf) :=
  F.imp fun vs H Q E ⟨F0, ds, Q', E', s, r, q, a, b⟩ => ⟨F0, ds, Q', E', s, r, q, fun d z p F' H' g n fp o => by
    obtain ⟨F2, g2, r2⟩ := own_frz g n fp o
    exact a d z _ F2 H' g2 r2, b⟩
theorem rfn_call0 {W : WX} {Wf : DF} {ta : TA} {t : DA} (ha : RfA K cl W ta t) : RfN K cl W (tCallSD (spN K cl Wf) [] (fun σ => WE W σ) ta) (dCall Wf t) where
  mono2 := fun E E' ρ P P' hE h q => ha.mono2 E E' ρ _ _ hE (fun xs q => q.mono h fun e z => hE e ρ z) q
  ok := fun F0 H0 F H σ ρ E Q hh le q => by
    refine ha.ok F0 H0 F H σ ρ E _ hh le (ha.mono E ρ _ _ (fun xs q vs F1 H1 g1 r1 => ?_) q)
    obtain ⟨Q', E', q, a, b⟩ := q
    exact ⟨F1, xs, Q', E', g1.s, by rw [List.append_nil]; exact r1, q, fun d z p F' H' g n fp o => a d z p F' H' (g1.trans g) (g1.k.free n) fp o, fun e z c dx F' H' g r => le e ρ σ F' H' c dx ((hh.grow g1).grow g) (b e z) r⟩
end
end DL

set_option maxHeartbeats 2000000
/-! DSort: sorted(..) of a list of pairs of whole numbers, wherever the pairs stand. -/
namespace DL
open PySem L2 PyProof.Rows
/-- x is the pair p -/
def PairAt (K : Fg) (H : Hp) (x : V) (p : Int × Int) : Prop := ∃ t, x = .ref t ∧ SqT K H t [.int p.1, .int p.2]
inductive PairsAt (K : Fg) (H : Hp) : List V → List (Int × Int) → Prop
  | nil : PairsAt K H [] []
  | cons {x : V} {p : Int × Int} {xs : List V} {ps : List (Int × Int)} (h : PairAt K H x p) (r : PairsAt K H xs ps) : PairsAt K H (x :: xs) (p :: ps)
def rSortedPQ (K : Fg) : List V → Hp → VK → Prop := fun vs H Q => ∃ (F : Hp) (a : Addr) (xs : List V) (ps : List (Int × Int)), Same F H ∧ vs = [V.ref a] ∧ SqL K H a xs ∧ PairsAt K F xs ps ∧
  ∀ (ys : List V) (qs : List (Int × Int)) (p : Addr), PairsAt K F ys qs → qs.Perm ps → qs.Pairwise lexLe → H p = none → Q (.ref p) (upd H p (.lst ys))
theorem isPair_fun {h : Heap} {v : Value} {i j k l : Int} (a : Srt.IsPair h v i j) (b : Srt.IsPair h v k l) : i = k ∧ j = l := by
  obtain ⟨x, o, t, u, n, e, ho, _, hd⟩ := a
  obtain ⟨x', o', t', u', n', e', ho', _, hd'⟩ := b
  rw [e] at e'
  cases e'
  rw [ho] at ho'
  cases ho'
  rw [hd] at hd'
  cases hd'
  exact ⟨rfl, rfl⟩
/-- what pair stands at a value -/
noncomputable def pairOf (h : Heap) (v : Value) : Int × Int := open Classical in if e : ∃ p : Int × Int, Srt.IsPair h v p.1 p.2 then Classical.choose e else (0, 0)
theorem pairOf_eq {h : Heap} {v : Value} {p : Int × Int} (e : Srt.IsPair h v p.1 p.2) : pairOf h v = p := by
  unfold pairOf
  rw [dif_pos ⟨p, e⟩]
  obtain ⟨a, b⟩ := isPair_fun (Classical.choose_spec (⟨p, e⟩ : ∃ p : Int × Int, Srt.IsPair h v p.1 p.2)) e
  exact Prod.ext a b
section
variable {X : Cx} {K : Fg}
theorem Pairs.refs {K : Fg} {H : Hp} : ∀ {xs : List V} {ps : List (Int × Int)}, PairsAt K H xs ps → ∀ x ∈ xs, ∃ t, x = V.ref t
  | _, _, .nil, x, hx => by cases hx
  | _, _, .cons h r, x, hx => by
    rcases List.mem_cons.mp hx with rfl | z
    · obtain ⟨t, e, _⟩ := h
      exact ⟨t, e⟩
    · exact Pairs.refs r x z
theorem pair_ip {pins : List (Addr × Obj)} {σ : L2.St} {F H : Hp} {s : Shared} (I : Inv X pins σ H s) (sf : Same F H) {x : V} {v : Value} {p : Int × Int} (h : PairAt X.K F x p) (rv : RelV x v) : Srt.IsPair s.heap v p.1 p.2 := by
  obtain ⟨t, rfl, ht⟩ := h
  obtain rfl : v = Value.ref t := rv
  obtain ⟨its, r2, ⟨o, ho, hc, n, hd⟩, _⟩ := I.tuple (same_t sf ht)
  obtain ⟨u1, u2, rfl, ri, rj⟩ := vals2 r2
  obtain ⟨t1, rfl⟩ := ri
  obtain ⟨t2, rfl⟩ := rj
  exact ⟨t, o, t1, t2, n, rfl, ho, hc, hd⟩
theorem pairs_map {pins : List (Addr × Obj)} {σ : L2.St} {F H : Hp} {s : Shared} (I : Inv X pins σ H s) (sf : Same F H) : ∀ {xs : List V} {ps : List (Int × Int)} {its : List Value}, PairsAt X.K F xs ps → Vals xs its →
    ps = its.map (pairOf s.heap) ∧ ∀ v ∈ its, Srt.IsPair s.heap v (pairOf s.heap v).1 (pairOf s.heap v).2 ∧ PairAt X.K F (backV v) (pairOf s.heap v)
  | _, _, _, .nil, .nil => ⟨rfl, fun v hv => by cases hv⟩
  | _, _, _, .cons h r, .cons rv t => by
    obtain ⟨h1, h2⟩ := pairs_map I sf r t
    have ip := pair_ip I sf h rv
    have e := pairOf_eq ip
    refine ⟨by rw [List.map_cons, e, ← h1], fun v hv => ?_⟩
    rcases List.mem_cons.mp hv with rfl | z
    · rw [e]
      obtain ⟨t, rfl, ht⟩ := h
      obtain rfl : _ = Value.ref t := rv
      exact ⟨ip, t, rfl, ht⟩
    · exact h2 v z
theorem pairs_back {H : Hp} {h : Heap} : ∀ {out : List Value}, (∀ v ∈ out, PairAt K H (backV v) (pairOf h v)) → PairsAt K H (out.map backV) (out.map (pairOf h))
  | [], _ => .nil
  | v :: r, q => .cons (q v List.mem_cons_self) (pairs_back fun u hu => q u (List.mem_cons_of_mem _ hu))
theorem cr_sortedPQ : CallR X (.builtin "sorted") (rSortedPQ X.K) := by
  intro pins s σ H vs us Q I r h
  obtain ⟨F, a, xs, ps, sf, rfl, hs, hx, q⟩ := h
  obtain ⟨its, rv, hl, hz⟩ := I.list hs
  obtain ⟨u, rfl, ru⟩ := vals1 r
  obtain rfl : u = Value.ref a := ru
  obtain ⟨e1, e2⟩ := refs_back rv (Pairs.refs hx)
  obtain ⟨k1, k2⟩ := pairs_map I sf hx rv
  refine SrtO.sorted_pairsO (k := pairOf s.heap) hl.isList (by rw [← rv.length]; exact hz) (fun v hv => (k2 v hv).1) fun h' d out g1 g2 kp hd hn => ?_
  have g3 : ∀ u ∈ out, u ∈ its := fun u hu => g2.perm.mem_iff.mp hu
  obtain ⟨n, hn⟩ := hn
  have len : (out.map backV).length ≤ sizeLine := by
    rw [List.length_map, g2.perm.length_eq, ← rv.length]
    exact hz
  refine ⟨.ref d, upd H d (.lst (out.map backV)), I.laid (t' := s.toks) kp hd ⟨len, out, n, vals_back fun u hu => e2 u (g3 u hu), hn⟩, rfl, ?_⟩
  refine q (out.map backV) (out.map (pairOf s.heap)) d (pairs_back fun v hv => (k2 v (g3 v hv)).2) (by rw [k1]; exact g2.perm.map _) ?_ (I.hok.fresh hd)
  rw [List.pairwise_map]
  refine List.Pairwise.imp (fun {u w} hh => ?_) g1
  have := SrtO.lexB_no.mp hh
  unfold lexLe
  omega
end
end DL

/-! DBlt: built-ins by data. -/
namespace DL
open PySem L2 PyProof.Rows
section
variable {X : Cx} {K : Fg} {cl : Cl} {W : WX} {F0 H0 F H F' H' : Hp} {σ σ' : L2.St} {ρ ρ' : DL.Env}
theorem ints_reps : ∀ {l : List D} {ns : List Int} {vs : List V}, intsOf l = some ns → Reps K cl F vs l → vs = ns.map V.int
  | [], ns, _, e, .nil => by cases e; rfl
  | .int i :: r, ns, _, e, .cons (.int _) t => by
    unfold intsOf at e
    cases q : intsOf r with
    | none => rw [q] at e; cases e
    | some ms =>
      rw [q] at e
      cases e
      rw [ints_reps q t]
      rfl
theorem reps_ints : ∀ (ns : List Int), Reps K cl F (ns.map V.int) (ns.map D.int)
  | [] => .nil
  | n :: r => .cons (.int n) (reps_ints r)
theorem bls_reps : ∀ {l : List D} {ns : List Bool} {vs : List V}, blsOf l = some ns → Reps K cl F vs l → vs = ns.map V.bl
  | [], ns, _, e, .nil => by cases e; rfl
  | .bl i :: r, ns, _, e, .cons (.bl _) t => by
    unfold blsOf at e
    cases q : blsOf r with
    | none => rw [q] at e; cases e
    | some ms =>
      rw [q] at e
      cases e
      rw [bls_reps q t]
      rfl
theorem reps1 {vs : List V} {d : D} (r : Reps K cl F vs [d]) : ∃ v, vs = [v] ∧ Rep K cl F v d := by
  cases r with
  | cons h t => cases t; exact ⟨_, rfl, h⟩
theorem reps2 {vs : List V} {d e : D} (r : Reps K cl F vs [d, e]) : ∃ v u, vs = [v, u] ∧ Rep K cl F v d ∧ Rep K cl F u e := by
  cases r with
  | cons h t => cases t with
    | cons h2 t => cases t; exact ⟨_, _, rfl, h, h2⟩
theorem same_l {K : Fg} {H H' : Hp} {a : Addr} {xs : List V} (e : Same H H') (h : SqL K H a xs) : SqL K H' a xs := by
  rcases h with (h | ⟨o, h⟩) | h
  · exact .inl (.inl (e _ _ h))
  · exact .inl (.inr ⟨o, e _ _ h⟩)
  · exact .inr h
theorem SqL.up {a : Addr} {vs : List V} (s : Same F H) (e : F a = some (.lst vs)) : SqL K H a vs := SqL.of (s _ _ e)
/-! len -/
def rLenU (K : Fg) : List V → Hp → VK → Prop := fun xs H Q => (∃ x n, xs = [x] ∧ LenV K x H n ∧ Q (.int n) H) ∨ ∃ d kvs, xs = [.ref d] ∧ H d = some (.dK kvs) ∧ Q (.int kvs.length) H
theorem KReps.length {ws : List (L2.Key × V)} {kvs : List (DL.Key × D)} (r : KReps K cl F ws kvs) : ws.length = kvs.length := by
  induction kvs generalizing ws with
  | nil => cases r; rfl
  | cons d ds ih => cases r with
    | cons h r => simp [ih r]
theorem cr_lenU : CallR X (.builtin "len") (rLenU X.K) := by
  intro pins s σ H vs us Q I r h
  rcases h with h | ⟨d, kvs, h1, h2, h3⟩
  · exact call_len pins s σ H vs us Q I r h
  · exact call_lenD pins s σ H vs us Q I r ⟨d, kvs, h1, h2, h3⟩
theorem rf_len : RfC K cl (rLenU K) fLen where
  mono := fun x P P' h q => by
    match x, q with
    | [.lst l], q => exact h _ q
    | [.tup l], q => exact h _ q
    | [.str z], q => exact ⟨q.1, h _ q.2⟩
    | [.dk l], q => exact h _ q
    | [.scr l], q => exact h _ q
  ok := fun F H v x Q s r q => by
    match x, q, r with
    | [.lst l], q, .cons (.lst e rr) .nil => exact .inl ⟨_, l.length, rfl, .inl ⟨_, SqL.of (s _ _ e), rr.length.symm⟩, q _ F H (Gr.refl s) (.int _)⟩
    | [.tup l], q, .cons (.tup e rr) .nil => exact .inl ⟨_, l.length, rfl, .inr ⟨_, same_t s e, rr.length.symm⟩, q _ F H (Gr.refl s) (.int _)⟩
    | [.str z], q, .cons (.str _) .nil => exact .inl ⟨_, z.length, rfl, ⟨by rw [← line_eq]; exact q.1, rfl⟩, q.2 _ F H (Gr.refl s) (.int _)⟩
    | [.dk l], q, .cons (.dk e rr) .nil => exact .inr ⟨_, _, rfl, s _ _ e, by rw [rr.length]; exact q _ F H (Gr.refl s) (.int _)⟩
    | [.scr l], q, .cons (.scr e) .nil => exact .inl ⟨_, l.length, rfl, .inl ⟨_, s.seq e, by simp⟩, q _ F H (Gr.refl s) (.int _)⟩
/-! abs, min, max -/
theorem rf_gcd : RfC K cl rGcd fGcd where
  mono := fun x P P' h q => by
    match x, q with
    | [.int i, .int j], q => exact h _ q
  ok := fun F H v x Q s r q => by
    match x, q, r with
    | [.int i, .int j], q, .cons (.int _) (.cons (.int _) .nil) => exact ⟨i, j, rfl, q _ F H (Gr.refl s) (.int _)⟩
theorem rf_abs : RfC K cl (fun xs H Q => ∃ i, xs = [.int i] ∧ Q (.int (if i < 0 then -i else i)) H) fAbs where
  mono := fun x P P' h q => by
    match x, q with
    | [.int i], q => exact h _ q
  ok := fun F H v x Q s r q => by
    match x, q, r with
    | [.int i], q, .cons (.int _) .nil => exact ⟨i, rfl, q _ F H (Gr.refl s) (.int _)⟩
def rMinU (K : Fg) : List V → Hp → VK → Prop := fun xs H Q => (∃ i j, xs = [.int i, .int j] ∧ Q (.int (if j < i then j else i)) H) ∨ rMin K xs H Q
theorem cr_minU (hc : X.calm = true) : CallR X (.builtin "min") (rMinU X.K) := (call_min2 hc).or (cr_min hc)
theorem rf_min : RfC K cl (rMinU K) fMin where
  mono := fun x P P' h q => by
    match x, q with
    | [.int i, .int j], q => exact h _ q
    | [.lst l], q =>
      simp only [fMin] at q ⊢
      cases e : intsOf l with
      | none => rw [e] at q; exact q.elim
      | some ns => rw [e] at q; exact ⟨q.1, fun m h1 h2 => h _ (q.2 m h1 h2)⟩
  ok := fun F H v x Q s r q => by
    match x, q, r with
    | [.int i, .int j], q, .cons (.int _) (.cons (.int _) .nil) => exact .inl ⟨i, j, rfl, q _ F H (Gr.refl s) (.int _)⟩
    | [.lst l], q, .cons (.lst e rr) .nil =>
      simp only [fMin] at q
      cases e1 : intsOf l with
      | none => rw [e1] at q; exact q.elim
      | some ns =>
        rw [e1] at q
        have ev := ints_reps e1 rr
        subst ev
        exact .inr ⟨_, ns, rfl, SqL.of (s _ _ e), List.length_pos_iff.mpr q.1, fun m h1 h2 => q.2 m h1 h2 _ F H (Gr.refl s) (.int _)⟩
def rMaxU (K : Fg) : List V → Hp → VK → Prop := fun xs H Q => (∃ i j, xs = [.int i, .int j] ∧ Q (.int (if j > i then j else i)) H) ∨ rMax K xs H Q
theorem cr_maxU (hc : X.calm = true) : CallR X (.builtin "max") (rMaxU X.K) := (call_max2 hc).or (cr_max hc)
theorem rf_max : RfC K cl (rMaxU K) fMax where
  mono := fun x P P' h q => by
    match x, q with
    | [.int i, .int j], q => exact h _ q
    | [.lst l], q =>
      simp only [fMax] at q ⊢
      cases e : intsOf l with
      | none => rw [e] at q; exact q.elim
      | some ns => rw [e] at q; exact ⟨q.1, fun m h1 h2 => h _ (q.2 m h1 h2)⟩
  ok := fun F H v x Q s r q => by
    match x, q, r with
    | [.int i, .int j], q, .cons (.int _) (.cons (.int _) .nil) => exact .inl ⟨i, j, rfl, q _ F H (Gr.refl s) (.int _)⟩
    | [.lst l], q, .cons (.lst e rr) .nil =>
      simp only [fMax] at q
      cases e1 : intsOf l with
      | none => rw [e1] at q; exact q.elim
      | some ns =>
        rw [e1] at q
        have ev := ints_reps e1 rr
        subst ev
        exact .inr ⟨_, ns, rfl, SqL.of (s _ _ e), List.length_pos_iff.mpr q.1, fun m h1 h2 => q.2 m h1 h2 _ F H (Gr.refl s) (.int _)⟩
/-- sum(xs) of a list or a tuple of ints -/
def rSumU (K : Fg) : List V → Hp → VK → Prop := fun vs H Q => rSum K vs H Q ∨ ∃ (a : Addr) (ns : List Int), vs = [V.ref a] ∧ SqT K H a (ns.map V.int) ∧ Q (.int ns.sum) H
theorem cr_sumU {X : Cx} (hc : X.calm = true) : CallR X (.builtin "sum") (rSumU X.K) := by
  intro pins s σ H vs us Q I r h
  rcases h with h | ⟨a, ns, rfl, hs, q⟩
  · exact cr_sum hc pins s σ H vs us Q I r h
  · obtain ⟨its, rv, hl, _⟩ := I.tuple hs
    rw [Vals.ref1 r]
    have hi := rv.ints
    obtain ⟨xs, hx⟩ := hi.allInts.items
    have hl : s.heap.IsTuple a its.toArray := hl
    have hn : numsOf its.toArray.toList = ns := by rw [show its.toArray.toList = its from rfl, hi.numsOf]
    rw [hx] at hl hn
    rw [nums_intItems] at hn
    refine PySem.W.ktm_sumG (I.ok.hd hc) hl fun h' tk t' hk => ?_
    rw [preSum_eq, List.take_of_length_le (by simp), hn]
    exact ⟨.int _, H, I.kept hk, ⟨_, rfl⟩, q⟩
theorem rf_sum : RfC K cl (rSumU K) fSum where
  mono := fun x P P' h q => by
    match x, q with
    | [.lst l], q =>
      simp only [fSum] at q ⊢
      cases e : intsOf l with
      | none => rw [e] at q; exact q.elim
      | some ns => rw [e] at q; exact h _ q
    | [.tup l], q =>
      simp only [fSum] at q ⊢
      cases e : intsOf l with
      | none => rw [e] at q; exact q.elim
      | some ns => rw [e] at q; exact h _ q
  ok := fun F H v x Q s r q => by
    match x, q, r with
    | [.lst l], q, .cons (.lst e rr) .nil =>
      simp only [fSum] at q
      cases e1 : intsOf l with
      | none => rw [e1] at q; exact q.elim
      | some ns =>
        rw [e1] at q
        have ev := ints_reps e1 rr
        subst ev
        exact .inl ⟨_, ns, rfl, SqL.of (s _ _ e), q _ F H (Gr.refl s) (.int _)⟩
    | [.tup l], q, .cons (.tup e rr) .nil =>
      simp only [fSum] at q
      cases e1 : intsOf l with
      | none => rw [e1] at q; exact q.elim
      | some ns =>
        rw [e1] at q
        have ev := ints_reps e1 rr
        subst ev
        exact .inr ⟨_, ns, rfl, same_t s e, q _ F H (Gr.refl s) (.int _)⟩
theorem rf_all : RfC K cl (rAll K) fAll where
  mono := fun x P P' h q => by
    match x, q with
    | [.lst l], q =>
      simp only [fAll] at q ⊢
      cases e : blsOf l with
      | none => rw [e] at q; exact q.elim
      | some ns => rw [e] at q; exact h _ q
  ok := fun F H v x Q s r q => by
    match x, q, r with
    | [.lst l], q, .cons (.lst e rr) .nil =>
      simp only [fAll] at q
      cases e1 : blsOf l with
      | none => rw [e1] at q; exact q.elim
      | some ns =>
        rw [e1] at q
        have ev := bls_reps e1 rr
        subst ev
        exact ⟨_, ns, rfl, SqL.of (s _ _ e), q _ F H (Gr.refl s) (.bl _)⟩
theorem rf_any : RfC K cl (rAny K) fAny where
  mono := fun x P P' h q => by
    match x, q with
    | [.lst l], q =>
      simp only [fAny] at q ⊢
      cases e : blsOf l with
      | none => rw [e] at q; exact q.elim
      | some ns => rw [e] at q; exact h _ q
  ok := fun F H v x Q s r q => by
    match x, q, r with
    | [.lst l], q, .cons (.lst e rr) .nil =>
      simp only [fAny] at q
      cases e1 : blsOf l with
      | none => rw [e1] at q; exact q.elim
      | some ns =>
        rw [e1] at q
        have ev := bls_reps e1 rr
        subst ev
        exact ⟨_, ns, rfl, SqL.of (s _ _ e), q _ F H (Gr.refl s) (.bl _)⟩
/-! int, str, divmod -/
theorem rf_int : RfC K cl (fun xs H Q => (∃ i, xs = [.int i] ∧ Q (.int i) H) ∨ ∃ k, xs = [.bl k] ∧ Q (.int (if k then 1 else 0)) H) fInt where
  mono := fun x P P' h q => by
    match x, q with
    | [.int i], q => exact h _ q
    | [.bl i], q => exact h _ q
  ok := fun F H v x Q s r q => by
    match x, q, r with
    | [.int i], q, .cons (.int _) .nil => exact .inl ⟨i, rfl, q _ F H (Gr.refl s) (.int _)⟩
    | [.bl i], q, .cons (.bl _) .nil => exact .inr ⟨i, rfl, q _ F H (Gr.refl s) (.int _)⟩
theorem rf_str : RfC K cl (fun xs H Q => ∃ i, xs = [.int i] ∧ i.natAbs.log2 < 1920 ∧ Q (.str (toString i)) H) fStr where
  mono := fun x P P' h q => by
    match x, q with
    | [.int i], q => exact ⟨q.1, h _ q.2⟩
  ok := fun F H v x Q s r q => by
    match x, q, r with
    | [.int i], q, .cons (.int _) .nil => exact ⟨i, rfl, q.1, q.2 _ F H (Gr.refl s) (.str _)⟩
theorem rf_divmod : RfC K cl (fun xs H Q => ∃ i j, xs = [.int i, .int j] ∧ CDiv i j ∧ ∀ p, H p = none → Q (.ref p) (upd H p (.tup [.int (i / j), .int (i % j)]))) fDivmod where
  mono := fun x P P' h q => by
    match x, q with
    | [.int i, .int j], q => exact ⟨q.1, h _ q.2⟩
  ok := fun F H v x Q s r q => by
    match x, q, r with
    | [.int i, .int j], q, .cons (.int _) (.cons (.int _) .nil) =>
      exact ⟨i, j, rfl, q.1, fun p hp => q.2 _ (upd F p _) _ (Gr.new s hp) (.tup (SqT.of upd_same) (.cons (.int _) (.cons (.int _) .nil)))⟩
/-! list, tuple, sorted: new objects -/
structure RfNC (K : Fg) (cl : Cl) (r : List V → Hp → VK → Prop) (f : List D → DK → Prop) : Prop where
  mono : ∀ x (P P' : DK), (∀ d, P d → P' d) → f x P → f x P'
  ok : ∀ F H v x (Q : VK), Same F H → Reps K cl F v x → f x (fun d => ∀ p F' H', Gr F H F' H' → H p = none → F' p = none → Own K cl F' H' p d → Q (.ref p) H') → r v H Q
theorem rfn_cb {tr : TA} {r : DA} {rr : List V → Hp → VK → Prop} {f : List D → DK → Prop} (o : RfNC K cl rr f) (hr : RfA K cl W tr r) : RfN K cl W (tCB rr tr) (dBlt f r) where
  mono2 := fun E E' ρ P P' hE h q => hr.mono2 E E' ρ _ _ hE (fun x q => o.mono x P P' h q) q
  ok := fun F0 H0 F H σ ρ E Q hh le q => by
    refine hr.ok F0 H0 F H σ ρ E _ hh le (hr.mono E ρ _ _ (fun x q v F1 H1 g1 r1 => ?_) q)
    exact o.ok F1 H1 v x Q g1.s r1 (o.mono x _ _ (fun d q p F' H' g3 hp hf w => q p F' H' (g1.trans g3) (g1.k.free hp) hf w) q)
def rListU (K : Fg) : List V → Hp → VK → Prop := fun xs H Q => (∃ p ys, xs = [.ref p] ∧ (SqL K H p ys ∨ SqT K H p ys) ∧ ∀ l, H l = none → Q (.ref l) (upd H l (.lst ys))) ∨
  ∃ (a : Addr) (kvs : List (L2.Key × V)), xs = [.ref a] ∧ Rd H a (.dK kvs) ∧ ∀ p, H p = none → Q (.ref p) (upd H p (.lst (kvs.map fun kv => kV kv.1)))
def rSortedU (K : Fg) : List V → Hp → VK → Prop := fun xs H Q => rSortedI K xs H Q ∨ rSortedPQ K xs H Q ∨
  ∃ (a : Addr) (kvs : List (L2.Key × V)) (ks : List Int), xs = [.ref a] ∧ Rd H a (.dK kvs) ∧ kvs.map (·.1) = ks.map Sum.inl ∧ ks.length < 64 ∧ ∀ (ys : List Int) (p : Addr), ys.Perm ks → ys.Pairwise (· ≤ ·) → H p = none → Q (.ref p) (upd H p (.lst (ys.map V.int)))
theorem cr_listU {X : Cx} (hc : X.calm = true) : CallR X (.type "list") (rListU X.K) := fun pins s σ H vs us Q I r h => by
  rcases h with h | h
  · exact call_list_of pins s σ H vs us Q I r h
  · exact call_listD hc pins s σ H vs us Q I r h
theorem cr_sortedU {X : Cx} (hc : X.calm = true) : CallR X (.builtin "sorted") (rSortedU X.K) := fun pins s σ H vs us Q I r h => by
  rcases h with h | h | h
  · exact cr_sortedI pins s σ H vs us Q I r h
  · exact cr_sortedPQ pins s σ H vs us Q I r h
  · exact call_sortedDI hc pins s σ H vs us Q I r h
theorem rep_kV {F : Hp} : ∀ (k : L2.Key), Rep K cl F (kV k) (keyD k)
  | .inl i => .int i
  | .inr x => .str x
theorem kreps_keys {F : Hp} : ∀ {ws : List (L2.Key × V)} {kvs : List (DL.Key × D)}, KReps K cl F ws kvs → Reps K cl F (ws.map fun kv => kV kv.1) (kvs.map fun kv => keyD kv.1) ∧ ws.map (·.1) = kvs.map (·.1)
  | _, _, .nil => ⟨.nil, rfl⟩
  | _, _, .cons (k := k) h r => ⟨.cons (rep_kV k) (kreps_keys r).1, by rw [List.map_cons, List.map_cons, (kreps_keys r).2]⟩
theorem ikeys_eq : ∀ {kvs : List (DL.Key × D)} {ns : List Int}, ikeys kvs = some ns → kvs.map (·.1) = ns.map Sum.inl
  | [], _, h => by cases h; rfl
  | (.inl i, _) :: r, ns, h => by
    unfold ikeys at h
    cases e : ikeys r with
    | none => rw [e] at h; cases h
    | some ms =>
      rw [e] at h
      cases h
      rw [List.map_cons, ikeys_eq e]
      rfl
  | (.inr _, _) :: _, _, h => by unfold ikeys at h; cases h
theorem rf_list : RfNC K cl (rListU K) fList where
  mono := fun x P P' h q => by
    match x, q with
    | [.lst l], q => exact h _ q
    | [.tup l], q => exact h _ q
    | [.dk l], q => exact h _ q
    | [.scr ns], q => exact h _ q
  ok := fun F H v x Q s r q => by
    match x, q, r with
    | [.lst l], q, .cons (.lst e rr) .nil => exact .inl ⟨_, _, rfl, .inl (SqL.of (s _ _ e)), fun p hp => q p F _ (Gr.h s (same_upd hp)) hp (s.free hp) ⟨_, upd_same, rr⟩⟩
    | [.tup l], q, .cons (.tup e rr) .nil => exact .inl ⟨_, _, rfl, .inr (same_t s e), fun p hp => q p F _ (Gr.h s (same_upd hp)) hp (s.free hp) ⟨_, upd_same, rr⟩⟩
    | [.dk l], q, .cons (.dk e rr) .nil => exact .inr ⟨_, _, rfl, .inl (s _ _ e), fun p hp => q p F _ (Gr.h s (same_upd hp)) hp (s.free hp) ⟨_, upd_same, (kreps_keys rr).1⟩⟩
    | [.scr ns], q, .cons (.scr sq) .nil => exact .inl ⟨_, _, rfl, .inl (same_l s sq), fun p hp => q p F _ (Gr.h s (same_upd hp)) hp (s.free hp) ⟨_, upd_same, reps_ints ns⟩⟩
theorem pairs_reps {F : Hp} : ∀ (l : List D) {ps : List (Int × Int)} {vs : List V}, pairsOf l = some ps → Reps K cl F vs l → PairsAt K F vs ps := by
  intro l
  induction l with
  | nil =>
    intro ps vs h r
    cases r
    cases h
    exact .nil
  | cons x l ih =>
    intro ps vs h r
    cases r with
    | cons hx rr =>
      have key : ∃ i j qs, x = .tup [.int i, .int j] ∧ pairsOf l = some qs ∧ ps = (i, j) :: qs := by
        have h : (pair1 x).bind (fun p => (pairsOf l).map (p :: ·)) = some ps := h
        cases e1 : pair1 x with
        | none => rw [e1] at h; cases h
        | some p =>
          cases z : pairsOf l with
          | none => rw [e1, z] at h; cases h
          | some qs =>
            rw [e1, z] at h
            exact ⟨p.1, p.2, qs, pair1_eq e1, rfl, (Option.some.inj h).symm⟩
      obtain ⟨i, j, qs, rfl, z, rfl⟩ := key
      cases hx with
      | tup e r2 =>
        cases r2 with
        | cons ha r3 =>
          cases r3 with
          | cons hb r4 =>
            cases r4
            cases ha
            cases hb
            exact .cons ⟨_, rfl, e⟩ (ih z rr)
theorem reps_pairs {F : Hp} : ∀ {vs : List V} {ps : List (Int × Int)}, PairsAt K F vs ps → Reps K cl F vs (ps.map pairD)
  | _, _, .nil => .nil
  | _, _, .cons h r => by
    obtain ⟨t, rfl, ht⟩ := h
    exact .cons (.tup ht (.cons (.int _) (.cons (.int _) .nil))) (reps_pairs r)
theorem rf_sorted : RfNC K cl (rSortedU K) fSorted where
  mono := fun x P P' h q => by
    match x, q with
    | [.lst l], q =>
      simp only [fSorted] at q ⊢
      cases e : intsOf l with
      | none =>
        rw [e] at q
        simp only at q ⊢
        cases e2 : pairsOf l with
        | none => rw [e2] at q; exact q.elim
        | some ps => rw [e2] at q; exact fun ps' h1 h2 => h _ (q ps' h1 h2)
      | some ns => rw [e] at q; exact fun ns' h1 h2 => h _ (q ns' h1 h2)
    | [.dk l], q =>
      simp only [fSorted] at q ⊢
      cases e : ikeys l with
      | none => rw [e] at q; exact q.elim
      | some ns => rw [e] at q; exact ⟨q.1, fun ns' h1 h2 => h _ (q.2 ns' h1 h2)⟩
  ok := fun F H v x Q s r q => by
    match x, q, r with
    | [.lst l], q, .cons (.lst e rr) .nil =>
      simp only [fSorted] at q
      cases e1 : intsOf l with
      | none =>
        rw [e1] at q
        simp only at q
        cases e2 : pairsOf l with
        | none => rw [e2] at q; exact q.elim
        | some ps =>
          rw [e2] at q
          exact .inr (.inl ⟨F, _, _, ps, s, rfl, SqL.of (s _ _ e), pairs_reps _ e2 rr, fun ys qs p hys h1 h2 hp => q qs h1 h2 p F _ (Gr.h s (same_upd hp)) hp (s.free hp) ⟨_, upd_same, reps_pairs hys⟩⟩)
      | some ns =>
        rw [e1] at q
        have ev := ints_reps e1 rr
        subst ev
        exact .inl ⟨_, ns, rfl, SqL.of (s _ _ e), fun ns' p h1 h2 hp => q ns' h1 h2 p F _ (Gr.h s (same_upd hp)) hp (s.free hp) ⟨_, upd_same, reps_ints ns'⟩⟩
    | [.dk l], q, .cons (.dk e rr) .nil =>
      simp only [fSorted] at q
      cases e1 : ikeys l with
      | none => rw [e1] at q; exact q.elim
      | some ns =>
        rw [e1] at q
        exact .inr (.inr ⟨_, _, ns, rfl, .inl (s _ _ e), (kreps_keys rr).2.trans (ikeys_eq e1), q.1, fun ns' p h1 h2 hp => q.2 ns' h1 h2 p F _ (Gr.h s (same_upd hp)) hp (s.free hp) ⟨_, upd_same, reps_ints ns'⟩⟩)
theorem rf_tuple : RfC K cl (fun xs H Q => ∃ p ys, xs = [.ref p] ∧ ((SqL K H p ys ∧ ∀ l, H l = none → Q (.ref l) (upd H l (.tup ys))) ∨ (SqT K H p ys ∧ Q (.ref p) H))) fTuple where
  mono := fun x P P' h q => by
    match x, q with
    | [.lst l], q => exact h _ q
    | [.tup l], q => exact h _ q
  ok := fun F H v x Q s r q => by
    match x, q, r with
    | [.lst l], q, .cons (.lst e rr) .nil => exact ⟨_, _, rfl, .inl ⟨SqL.of (s _ _ e), fun p hp => q _ (upd F p _) _ (Gr.new s hp) (.tup (SqT.of upd_same) (rr.mono (same_upd (s.free hp))))⟩⟩
    | [.tup l], q, .cons (.tup e rr) .nil => exact ⟨_, _, rfl, .inr ⟨same_t s e, q _ F H (Gr.refl s) (.tup e rr)⟩⟩
/-! isinstance -/
theorem Rep.ty {v : V} {d : D} (s : Same F H) (r : Rep K cl F v d) (h : tyName d ≠ "") : TyX K H v (.type (tyName d)) := by
  cases r with
  | non => exact .base .non
  | bl b => exact .base (.bl b)
  | int b => exact .base (.int b)
  | str b => exact .base (.str b)
  | lst e _ => exact .base (.lst (s _ _ e))
  | dk e _ => exact .base (.dK (s _ _ e))
  | tup e _ =>
    rcases same_t s e with (e | ⟨o, e⟩) | ⟨o, its, n, e, c, _⟩
    · exact .base (.tup e)
    · exact .fTuple e
    · exact .kTuple e c
  | _ => exact absurd rfl h
def kitTab : List (String × String) := [("NoneType", "int"), ("bool", "int"), ("int", "int"), ("str", "int"), ("tuple", "int"), ("list", "int"), ("dict", "int"),
  ("NoneType", "bool"), ("bool", "bool"), ("int", "bool"), ("str", "bool"), ("tuple", "bool"), ("list", "bool"), ("dict", "bool"),
  ("NoneType", "str"), ("bool", "str"), ("int", "str"), ("str", "str"), ("tuple", "str"), ("list", "str"), ("dict", "str"),
  ("NoneType", "tuple"), ("bool", "tuple"), ("int", "tuple"), ("str", "tuple"), ("tuple", "tuple"), ("list", "tuple"), ("dict", "tuple"),
  ("NoneType", "list"), ("bool", "list"), ("int", "list"), ("str", "list"), ("tuple", "list"), ("list", "list"), ("dict", "list"),
  ("NoneType", "dict"), ("bool", "dict"), ("int", "dict"), ("str", "dict"), ("tuple", "dict"), ("list", "dict"), ("dict", "dict")]
theorem kit_tab : (kitTab.all fun p => decide (kitB p.1 p.2 = some (p.1 == p.2 || (p.1 == "bool" && p.2 == "int")))) = true := by decide +kernel
theorem kit_at {a c : String} (h : (a, c) ∈ kitTab) : kitB a c = some (a == c || (a == "bool" && c == "int")) := by
  have := List.all_eq_true.mp kit_tab _ h
  exact of_decide_eq_true this
theorem kit_in (d : D) (h : tyName d ≠ "") {c : String} (hc : c ∈ ["int", "bool", "str", "tuple", "list", "dict"]) : (tyName d, c) ∈ kitTab := by
  simp only [List.mem_cons, List.not_mem_nil, or_false] at hc
  rcases hc with rfl | rfl | rfl | rfl | rfl | rfl <;> cases d <;> first | (exact absurd rfl h) | (simp [tyName, kitTab])
theorem rfe_isi {c : String} (hc : c ∈ ["int", "bool", "str", "tuple", "list", "dict"]) {te : TE} {t : DT} (ha : RfE K cl W te t) : RfE K cl W (tCB (rIsi K) (tCons te (tCons (tC (.ty c)) tNil))) (dIsi c t) where
  mono2 := fun E E' ρ P P' hE h q => ha.mono2 E E' ρ _ _ hE (fun x q => ⟨q.1, h _ q.2⟩) q
  ok := fun F0 H0 F H σ ρ E Q hh le q => by
    refine ha.ok F0 H0 F H σ ρ E _ hh le (ha.mono E ρ _ _ (fun x q v F1 H1 g1 r1 => ?_) q)
    exact ⟨v, .ty c, .type (tyName x), .type c, _, rfl, (by constructor), r1.ty g1.s q.1, kit_ty (kit_at (kit_in x q.1 hc)), q.2 _ F1 H1 g1 (.bl _)⟩
/-! ### looking at own objects -/
theorem bor_o {ρ : DL.Env} (i : Nat) (d : D) : (DL.bor ρ)[i]? ≠ some (.o d) := by
  unfold DL.bor
  rw [List.getElem?_map]
  cases ρ[i]? with
  | none => simp
  | some u => cases u <;> simp
theorem Hold.bor (h : Hold K cl F0 H0 F H σ ρ) : ∃ F', Same F F' ∧ Hold K cl F' H F' H σ (DL.bor ρ) := by
  obtain ⟨θ, hs, hd⟩ := h.sl
  have sf : Same F (un F H) := fun p o e => by
    unfold un
    rw [e]
  refine ⟨un F H, sf, Gr.refl fun p o e => ?_, by simp [DL.bor, h.len], θ, fun i s e => ?_, fun i j di dj e _ => absurd e (bor_o i di), fun i a d _ e => absurd e (bor_o i d)⟩
  · unfold un at e
    cases q : F p with
    | some u => rw [q] at e; cases e; exact h.g.s p _ q
    | none => rw [q] at e; exact e
  · unfold DL.bor at e
    rw [List.getElem?_map] at e
    cases q : ρ[i]? with
    | none => rw [q] at e; cases e
    | some u =>
      rw [q] at e
      cases u with
      | no => cases e; trivial
      | v d => cases e; obtain ⟨v, e1, r⟩ := hs i _ q; exact ⟨v, e1, r.mono sf⟩
      | o d =>
        cases e
        obtain ⟨e1, n0, nf, w⟩ := hs i _ q
        refine ⟨_, e1, ?_⟩
        have eo : ∀ o, H (θ i) = some o → un F H (θ i) = some o := fun o z => by
          unfold un
          rw [nf]
          exact z
        cases d with
        | lst ds => obtain ⟨vs, z, r⟩ := w; exact .lst (eo _ z) (r.mono sf)
        | dk ds => obtain ⟨vs, z, r⟩ := w; exact .dk (eo _ z) (r.mono sf)
        | dt ds => obtain ⟨vs, z, r⟩ := w; exact .dt (eo _ z) (r.mono sf)
        | ins c ds => obtain ⟨vs, ⟨C, dx, n, z, o, _⟩, r⟩ := w; exact .ins n (eo _ z) (sf _ _ o) (r.mono sf)
        | _ => exact w.elim
theorem Rep.flatF {v : V} {d : D} (r : Rep K cl F v d) (h : isFlat d = true) : Rep K cl F' v d := by
  cases r with
  | non => exact .non
  | bl b => exact .bl b
  | int b => exact .int b
  | str b => exact .str b
  | _ => cases h
theorem rfe_bor {te : TE} {t : DT} (ha : RfE K cl W te t) : RfE K cl W te (dBor t) where
  mono2 := fun E E' ρ P P' hE h q => ha.mono noE _ _ _ (fun x q => ⟨q.1, h _ q.2⟩) q
  ok := fun F0 H0 F H σ ρ E Q hh le q => by
    obtain ⟨F', sf, hb⟩ := hh.bor
    refine ha.ok F' H F' H σ _ noE _ hb (fun err ρ σ F H c dx _ z _ => z.elim) (ha.mono noE _ _ _ (fun x q v F1 H1 g1 r1 => ?_) q)
    exact q.2 v F H1 (Gr.h hh.g.s g1.k) (r1.flatF q.1)
theorem rfe_ixO {i : Nat} {te : TE} {t : DT} (ha : RfE K cl W te t) : RfE K cl W (tOp (rIxU K) (tVar i) te) (dIxO i t) where
  mono2 := fun E E' ρ P P' hE h q => by
    unfold dIxO at q ⊢
    cases e : ρ[i]? with
    | none => rw [e] at q; exact q.elim
    | some s =>
      rw [e] at q
      cases s with
      | no => exact q.elim
      | v d => exact q.elim
      | o d =>
        cases d with
        | lst xs =>
          refine ha.mono2 E E' ρ _ _ hE (fun y q => ?_) q
          cases y with
          | int k =>
            have q : oGet (DL.atI xs k) P := q
            show oGet (DL.atI xs k) P'
            cases z : DL.atI xs k with
            | none => rw [z] at q; exact q.elim
            | some d => rw [z] at q; exact h _ q
          | _ => exact q.elim
        | _ => exact q.elim
  ok := fun F0 H0 F H σ ρ E Q hh le q => by
    unfold dIxO at q
    cases e : ρ[i]? with
    | none => rw [e] at q; exact q.elim
    | some s =>
      rw [e] at q
      cases s with
      | no => exact q.elim
      | v d => exact q.elim
      | o d =>
        cases d with
        | lst xs =>
          obtain ⟨a, ea, n0, nf, vs, ho, rr⟩ := hh.ownAt e
          refine ⟨.ref a, ea, ha.ok F0 H0 F H σ ρ E _ hh le (ha.mono E ρ _ _ (fun y q u F1 H1 g1 r1 => ?_) q)⟩
          cases r1 with
          | int k =>
            obtain ⟨d, e1, q⟩ := oGet_some q
            obtain ⟨w, e2, r2⟩ := rr.atI e1
            exact .inl (.inl ⟨a, vs, k, w, rfl, rfl, SqL.of (g1.k _ _ ho), e2, q w F1 H1 g1 (r2.mono g1.f)⟩)
          | _ => exact q.elim
        | _ => exact q.elim
end
end DL

/-! DV: the rules over syntax, as a printed term uses them. -/
namespace DL
open PySem L2 PyProof.Rows
section
variable {X : Cx} {K : Fg} {cl : Cl} {W : WX} {pos : Pos}
/-! ### expressions -/
theorem ve_var {i : Nat} {x : Str} (hN : X.N[i]? = some x := by rfl) (hv : Vis X.env.scope x := by first | exact Or.inl rfl | exact Or.inr (Or.inl rfl) | exact Or.inr (Or.inr rfl)) (hd : (x == ("__debug__" : Str)) = false := by decide)
    (hcd : (x == ("__classdict__" : Str)) = false := by decide) (hK : X.K = K := by rfl) : VE X K cl W (.Name x pos) (tVar i) (dVar i) := by
  obtain rfl := hK
  exact ⟨pe_var hN hv hd hcd, rfe_var, rfl⟩
theorem ve_int {i j} (hK : X.K = K := by rfl) : VE X K cl W (.Constant (.int i) j pos) (tC (.int i)) (dC (.int i)) := by
  obtain rfl := hK
  exact ⟨pe_int, rfe_c fun _ => .int _, rfl⟩
theorem ve_bl {b j} (hK : X.K = K := by rfl) : VE X K cl W (.Constant (.bool b) j pos) (tC (.bl b)) (dC (.bl b)) := by
  obtain rfl := hK
  exact ⟨pe_bl, rfe_c fun _ => .bl _, rfl⟩
theorem ve_non {j} (hK : X.K = K := by rfl) : VE X K cl W (.Constant .none j pos) (tC .non) (dC .non) := by
  obtain rfl := hK
  exact ⟨pe_non, rfe_c fun _ => .non, rfl⟩
theorem ve_str {x j} (hK : X.K = K := by rfl) : VE X K cl W (.Constant (.str x) j pos) (tC (.str x)) (dC (.str x)) := by
  obtain rfl := hK
  exact ⟨pe_str, rfe_c fun _ => .str _, rfl⟩
theorem ve_glob {x : Str} {v : V} {u : Value} {d : D} (hg : Gl X x) (hm : X.mg x = some u) (r : RelV v u) (rp : ∀ F, Rep K cl F v d) (hd : (x == ("__debug__" : Str)) = false := by decide) (hK : X.K = K := by rfl) : VE X K cl W (.Name x pos) (tC v) (dC d) := by
  obtain rfl := hK
  exact ⟨pe_glob hg hm r hd, rfe_c rp, rfl⟩
theorem ve_globI {x : Str} {n : Int} {tk : Tok} (hg : Gl X x) (hm : X.mg x = some (.int n tk)) (hd : (x == ("__debug__" : Str)) = false := by decide) (hK : X.K = K := by rfl) : VE X K cl W (.Name x pos) (tC (.int n)) (dC (.int n)) := by
  obtain rfl := hK
  exact ⟨pe_glob hg hm ⟨_, rfl⟩ hd, rfe_c fun _ => .int _, rfl⟩
theorem ve_globS {x : Str} {n : Str} {tk : Tok} (hg : Gl X x) (hm : X.mg x = some (.str n tk)) (hd : (x == ("__debug__" : Str)) = false := by decide) (hK : X.K = K := by rfl) : VE X K cl W (.Name x pos) (tC (.str n)) (dC (.str n)) := by
  obtain rfl := hK
  exact ⟨pe_glob hg hm ⟨_, rfl⟩ hd, rfe_c fun _ => .str _, rfl⟩
theorem reps_strs {F : Hp} : ∀ {ns : List Str}, Reps K cl F (ns.map V.str) (ns.map D.str)
  | [] => .nil
  | _ :: _ => .cons (.str _) reps_strs
theorem ve_globTI {x : Str} {a : Addr} {ns : List Int} (hg : Gl X x) (hm : X.mg x = some (.ref a)) (hq : ∀ H, SqT K H a (ns.map V.int)) (hd : (x == ("__debug__" : Str)) = false := by decide) (hK : X.K = K := by rfl) : VE X K cl W (.Name x pos) (tC (.ref a)) (dC (.tup (ns.map .int))) := by
  obtain rfl := hK
  exact ⟨pe_glob hg hm rfl hd, rfe_c fun F => .tup (hq F) (reps_ints _), rfl⟩
theorem ve_globTS {x : Str} {a : Addr} {ns : List Str} (hg : Gl X x) (hm : X.mg x = some (.ref a)) (hq : ∀ H, SqT K H a (ns.map V.str)) (hd : (x == ("__debug__" : Str)) = false := by decide) (hK : X.K = K := by rfl) : VE X K cl W (.Name x pos) (tC (.ref a)) (dC (.tup (ns.map .str))) := by
  obtain rfl := hK
  exact ⟨pe_glob hg hm rfl hd, rfe_c fun F => .tup (hq F) reps_strs, rfl⟩
theorem ve_bin {a b : Expr} {ta tb : TE} {p q : DT} {op : Operator} {r : R2} {f : D → D → DK → Prop} (ho : OpR X (binaryOp op) r) (o : RfOp K cl r f) (ha : VE X K cl W a ta p) (hb : VE X K cl W b tb q) : VE X K cl W (.BinOp a op b pos) (tOp r ta tb) (dOp f p q) := by
  obtain rfl := ha.hK
  exact ⟨pe_op ho ha.pe hb.pe, rfe_op o ha.rf hb.rf, rfl⟩
theorem ve_add {a b : Expr} {ta tb : TE} {p q : DT} (ha : VE X K cl W a ta p) (hb : VE X K cl W b tb q) : VE X K cl W (.BinOp a .Add b pos) (tOp (rAddU K) ta tb) (dOp oAdd p q) := by
  obtain rfl := ha.hK
  exact ve_bin op_addU rf_add ha hb
theorem ve_sub {a b : Expr} {ta tb : TE} {p q : DT} (ha : VE X K cl W a ta p) (hb : VE X K cl W b tb q) : VE X K cl W (.BinOp a .Sub b pos) (tOp (rI0 fun i j => .int (i - j)) ta tb) (dOp oSub p q) := by
  obtain rfl := ha.hK
  exact ve_bin op_sub rf_sub ha hb
theorem ve_mul {a b : Expr} {ta tb : TE} {p q : DT} (ha : VE X K cl W a ta p) (hb : VE X K cl W b tb q) : VE X K cl W (.BinOp a .Mult b pos) (tOp (rMulU K) ta tb) (dOp oMul p q) := by
  obtain rfl := ha.hK
  exact ve_bin op_mulU rf_mul ha hb
theorem ve_div {a b : Expr} {ta tb : TE} {p q : DT} (ha : VE X K cl W a ta p) (hb : VE X K cl W b tb q) : VE X K cl W (.BinOp a .FloorDiv b pos) (tOp (rI CDivW fun i j => .int (i / j)) ta tb) (dOp oDiv p q) := by
  obtain rfl := ha.hK
  exact ve_bin op_fdivW rf_div ha hb
theorem ve_mod {a b : Expr} {ta tb : TE} {p q : DT} (ha : VE X K cl W a ta p) (hb : VE X K cl W b tb q) : VE X K cl W (.BinOp a .Mod b pos) (tOp (rI (fun _ j => 0 < j) fun i j => .int (i % j)) ta tb) (dOp oMod p q) := by
  obtain rfl := ha.hK
  exact ve_bin op_mod rf_mod ha hb
theorem ve_pow {a b : Expr} {ta tb : TE} {p q : DT} (ha : VE X K cl W a ta p) (hb : VE X K cl W b tb q) : VE X K cl W (.BinOp a .Pow b pos) (tOp (rI CPow fun i j => .int (i ^ j.toNat)) ta tb) (dOp oPow p q) := by
  obtain rfl := ha.hK
  exact ve_bin op_pow rf_pow ha hb
theorem ve_neg {a : Expr} {ta : TE} {p : DT} (ha : VE X K cl W a ta p) : VE X K cl W (.UnaryOp .USub a pos) (tUn (rU fun i => .int (-i)) ta) (dUn oNeg p) := by
  obtain rfl := ha.hK
  exact ⟨pe_un un_neg ha.pe, rfe_un rf_neg ha.rf, rfl⟩
/-- an operator of comparison and its two readings -/
structure Cm (X : Cx) (K : Fg) (cl : Cl) (op : CmpOp) (r : R2) (f : D → D → DK → Prop) : Prop where
  o : OpR X (compareOp op) r
  f : RfOp K cl r f
  hK : X.K = K
theorem cm_eq (hu : X.A.units + 65 < cLine) (hK : X.K = K := by rfl) : Cm X K cl .Eq (rEqD K) oEq := by
  obtain rfl := hK
  exact ⟨op_eqD (by omega), rf_eq, rfl⟩
theorem cm_ne (hu : X.A.units + 65 < cLine) (hK : X.K = K := by rfl) : Cm X K cl .NotEq (rNeD K) oNe := by
  obtain rfl := hK
  exact ⟨op_neD (by omega), rf_ne, rfl⟩
theorem cm_lt (hu : X.A.units + 65 < cLine) (hK : X.K = K := by rfl) : Cm X K cl .Lt (rCmpU (fun i j => decide (i < j)) fun i j => decide (i.cps.toList < j.cps.toList)) oLt := by
  obtain rfl := hK
  exact ⟨op_ltU, rf_lt, rfl⟩
theorem cm_le (hu : X.A.units + 65 < cLine) (hK : X.K = K := by rfl) : Cm X K cl .LtE (rCmpU (fun i j => decide (i ≤ j)) fun i j => !decide (j.cps.toList < i.cps.toList)) oLe := by
  obtain rfl := hK
  exact ⟨op_leU, rf_le, rfl⟩
theorem cm_gt (hu : X.A.units + 65 < cLine) (hK : X.K = K := by rfl) : Cm X K cl .Gt (rCmpU (fun i j => decide (j < i)) fun i j => decide (j.cps.toList < i.cps.toList)) oGt := by
  obtain rfl := hK
  exact ⟨op_gtU, rf_gt, rfl⟩
theorem cm_ge (hu : X.A.units + 65 < cLine) (hK : X.K = K := by rfl) : Cm X K cl .GtE (rCmpU (fun i j => decide (j ≤ i)) fun i j => !decide (i.cps.toList < j.cps.toList)) oGe := by
  obtain rfl := hK
  exact ⟨op_geU, rf_ge, rfl⟩
theorem cm_in (hu : X.A.units + 65 < cLine) (hK : X.K = K := by rfl) : Cm X K cl .In (rInU K) oIn := by
  obtain rfl := hK
  exact ⟨op_inU hu, rf_in, rfl⟩
theorem cm_notIn (hu : X.A.units + 65 < cLine) (hK : X.K = K := by rfl) : Cm X K cl .NotIn (rNotInU K) oNotIn := by
  obtain rfl := hK
  exact ⟨op_notInU hu, rf_notIn, rfl⟩
theorem cm_is (hu : X.A.units + 65 < cLine) (hK : X.K = K := by rfl) : Cm X K cl .Is (fun x y H Q => y = .non ∧ Q (.bl (decide (x = .non))) H) oIs := by
  obtain rfl := hK
  exact ⟨op_isN, rf_isN, rfl⟩
theorem cm_isNot (hu : X.A.units + 65 < cLine) (hK : X.K = K := by rfl) : Cm X K cl .IsNot (fun x y H Q => y = .non ∧ Q (.bl (!decide (x = .non))) H) oIsNot := by
  obtain rfl := hK
  exact ⟨op_notN, rf_notN, rfl⟩
theorem ve_cmp {a b : Expr} {ta tb : TE} {p q : DT} {op : CmpOp} {r : R2} {f : D → D → DK → Prop} (c : Cm X K cl op r f) (ha : VE X K cl W a ta p) (hb : VE X K cl W b tb q) (hm : behindInMarks op b = false := by rfl) : VE X K cl W (.Compare a [op] [b] pos) (tOp r ta tb) (dOp f p q) := by
  obtain rfl := c.hK
  exact ⟨pe_cmpR c.o ha.pe hb.pe hm, rfe_op c.f ha.rf hb.rf, rfl⟩
theorem vb_cmp {a b : Expr} {ta tb : TE} {p q : DT} {op : CmpOp} {r : R2} {f : D → D → DK → Prop} (c : Cm X K cl op r f) (ha : VE X K cl W a ta p) (hb : VE X K cl W b tb q) (hm : behindInMarks op b = false := by rfl) : VB X K cl W (.Compare a [op] [b] pos) (tTest (tOp r ta tb)) (bT (dOp f p q)) := by
  obtain rfl := c.hK
  exact ⟨pt_cmpR c.o ha.pe hb.pe hm, rfb_T (rfe_op c.f ha.rf hb.rf), rfl⟩
theorem ve_chain {a b c : Expr} {ta tb tc : TE} {p q s : DT} {op op' : CmpOp} {r r' : R2} {f f' : D → D → DK → Prop} (m : Cm X K cl op r f) (m' : Cm X K cl op' r' f') (ha : VE X K cl W a ta p) (hb : VE X K cl W b tb q) (hc : VE X K cl W c tc s)
    (hm : lastMarks [op, op'] [b, c] = false := by with_unfolding_all rfl) : VE X K cl W (.Compare a [op, op'] [b, c] pos) (tChain r r' ta tb tc) (dChain f f' p q s) := by
  obtain rfl := m.hK
  exact ⟨pe_chain m.o m'.o ha.pe hb.pe hc.pe hm, rfe_chain m.f m'.f ha.rf hb.rf hc.rf, rfl⟩
theorem vb_chain {a b c : Expr} {ta tb tc : TE} {p q s : DT} {op op' : CmpOp} {r r' : R2} {f f' : D → D → DK → Prop} (m : Cm X K cl op r f) (m' : Cm X K cl op' r' f') (ha : VE X K cl W a ta p) (hb : VE X K cl W b tb q) (hc : VE X K cl W c tc s)
    (hm : lastMarks [op, op'] [b, c] = false := by with_unfolding_all rfl) : VB X K cl W (.Compare a [op, op'] [b, c] pos) (tTest (tChain r r' ta tb tc)) (bT (dChain f f' p q s)) := by
  obtain rfl := m.hK
  exact ⟨pt_chain m.o m'.o ha.pe hb.pe hc.pe hm, rfb_T (rfe_chain m.f m'.f ha.rf hb.rf hc.rf), rfl⟩
theorem ve_one {a : Expr} {ta : TE} {p : DT} {op} (ha : VE X K cl W a ta p) : VE X K cl W (.BoolOp op [a] pos) ta p := by
  obtain rfl := ha.hK
  exact ⟨pe_one ha.pe, ha.rf, rfl⟩
theorem ve_and {a b : Expr} {rest : List Expr} {ta tb : TE} {p q : DT} (ha : VE X K cl W a ta p) (hb : VE X K cl W (.BoolOp .And (b :: rest) pos) tb q) : VE X K cl W (.BoolOp .And (a :: b :: rest) pos) (tAndV ta tb) (dAndV p q) := by
  obtain rfl := ha.hK
  exact ⟨pe_and ha.pe hb.pe, rfe_andV ha.rf hb.rf, rfl⟩
theorem ve_or {a b : Expr} {rest : List Expr} {ta tb : TE} {p q : DT} (ha : VE X K cl W a ta p) (hb : VE X K cl W (.BoolOp .Or (b :: rest) pos) tb q) : VE X K cl W (.BoolOp .Or (a :: b :: rest) pos) (tOrV ta tb) (dOrV p q) := by
  obtain rfl := ha.hK
  exact ⟨pe_or ha.pe hb.pe, rfe_orV ha.rf hb.rf, rfl⟩
theorem ve_not {a : Expr} {ta : TE} {p : DT} (ha : VE X K cl W a ta p) : VE X K cl W (.UnaryOp .Not a pos) (tNotV ta) (dNotV p) := by
  obtain rfl := ha.hK
  exact ⟨pe_not ha.pe, rfe_notV ha.rf, rfl⟩
theorem ve_if {c a b : Expr} {tc : TT} {ta tb : TE} {r : DB} {p q : DT} (hc : VB X K cl W c tc r) (ha : VE X K cl W a ta p) (hb : VE X K cl W b tb q) : VE X K cl W (.IfExp c a b pos) (tIf tc ta tb) (dIf r p q) := by
  obtain rfl := hc.hK
  exact ⟨pe_ifExp hc.pe ha.pe hb.pe, rfe_if hc.rf ha.rf hb.rf, rfl⟩
theorem va_nil (hK : X.K = K := by rfl) : VA X K cl W [] tNil aNil := by
  obtain rfl := hK
  exact ⟨pa_nil, rfa_nil, rfl⟩
theorem va_cons {e : Expr} {es : List Expr} {te : TE} {t : TA} {p : DT} {q : DA} (ha : VE X K cl W e te p) (hr : VA X K cl W es t q) (hs : starEach (e :: es) X.env = (false, eval e X.env) :: starEach es X.env := by rfl) : VA X K cl W (e :: es) (tCons te t) (aCons p q) := by
  obtain rfl := ha.hK
  exact ⟨pa_cons ha.pe hr.pe hs, rfa_cons ha.rf hr.rf, rfl⟩
theorem ve_tup {es : List Expr} {x1} {t : TA} {q : DA} (h : VA X K cl W es t q) : VE X K cl W (.Tuple es x1 pos) (tTup t) (dTup q) := by
  obtain rfl := h.hK
  exact ⟨pe_tup h.pe, rfe_tup h.rf, rfl⟩
structure VN (X : Cx) (K : Fg) (cl : Cl) (W : WX) (e : Expr) (te : TE) (t : DT) : Prop where
  pe : PE X e te
  rf : RfN K cl W te t
  hK : X.K = K
theorem VN.e {e : Expr} {te : TE} {t : DT} (h : VN X K cl W e te t) : VE X K cl W e te t := by
  obtain rfl := h.hK
  exact ⟨h.pe, h.rf.e, rfl⟩
theorem vn_lst {es : List Expr} {t : TA} {q : DA} (h : VA X K cl W es t q) : VN X K cl W (.List es pos) (tLst t) (dLst q) := by
  obtain rfl := h.hK
  exact ⟨pe_lst h.pe, rfn_lst h.rf, rfl⟩
theorem ve_lst {es : List Expr} {t : TA} {q : DA} (h : VA X K cl W es t q) : VE X K cl W (.List es pos) (tLst t) (dLst q) := by
  obtain rfl := h.hK
  exact (vn_lst h).e
theorem ve_ix {a b : Expr} {ta tb : TE} {p q : DT} (hu : X.A.units + 65 < cLine) (ha : VE X K cl W a ta p) (hb : VE X K cl W b tb q) (hs : PlainIx b := by exact fun _ _ => rfl) : VE X K cl W (.Subscript a b pos) (tOp (rIxU K) ta tb) (dOp oIx p q) := by
  obtain rfl := ha.hK
  exact ⟨pe_ix (ix_U (by omega)) ha.pe hb.pe hs, rfe_op rf_ix ha.rf hb.rf, rfl⟩
theorem ve_ixO {i : Nat} {x : Str} {p1 : Pos} {b : Expr} {tb : TE} {q : DT} (hu : X.A.units + 65 < cLine) (hb : VE X K cl W b tb q) (hs : PlainIx b := by exact fun _ _ => rfl) (hN : X.N[i]? = some x := by rfl) (hv : Vis X.env.scope x := by first | exact Or.inl rfl | exact Or.inr (Or.inl rfl) | exact Or.inr (Or.inr rfl)) (hd : (x == ("__debug__" : Str)) = false := by decide)
    (hcd : (x == ("__classdict__" : Str)) = false := by decide) : VE X K cl W (.Subscript (.Name x p1) b pos) (tOp (rIxU K) (tVar i) tb) (dIxO i q) := by
  obtain rfl := hb.hK
  exact ⟨pe_ix (ix_U (by omega)) (pe_var hN hv hd hcd) hb.pe hs, rfe_ixO hb.rf, rfl⟩
theorem ve_bor {e : Expr} {te : TE} {p : DT} (h : VE X K cl W e te p) : VE X K cl W e te (dBor p) := by
  obtain rfl := h.hK
  exact ⟨h.pe, rfe_bor h.rf, rfl⟩
theorem vo_N (hK : X.K = K := by rfl) : VO X K cl W none tNoPart oN := by
  obtain rfl := hK
  exact ⟨po_none, rfo_N, rfl⟩
theorem vo_S {e : Expr} {te : TE} {p : DT} (h : VE X K cl W e te p) : VO X K cl W (some e) (tPart te) (oS p) := by
  obtain rfl := h.hK
  exact ⟨po_some h.pe, rfo_S h.rf, rfl⟩
theorem ve_slice {e : Expr} {lo hi : Option Expr} {te : TE} {tl th : TO} {p : DT} {l u : DO} {p2 : Pos} (he : VE X K cl W e te p) (hl : VO X K cl W lo tl l) (hu : VO X K cl W hi th u) : VE X K cl W (.Subscript e (.Slice lo hi none p2) pos) (tSl (rSlU K) te tl th) (dSlice p l u) := by
  obtain rfl := he.hK
  exact ⟨pe_slice sl_U he.pe hl.pe hu.pe, rfe_slice he.rf hl.rf hu.rf, rfl⟩
/-! calls -/
theorem ve_call {Wf : DF} {k : Nat} {f : Addr} {fd : FuncData} {ps : List Str} {x : Str} {p : Pos} {e : Expr} {es : List Expr} {t : TA} {q : DA} (F : FnOk X.prog X.w K X.mg X.base (L2.CX X.prog X.w) k f fd ps (spD K cl Wf)) (hr : Room k X.A) (hg : Gl X x) (mg : X.mg x = some (.ref f)) (hk : PySem.W.keepIn K (.ref f) = true)
    (hb : Binds K fd ps []) (tk : Takes X W) (ha : VA X K cl W (e :: es) t q) (hdb : (x == ("__debug__" : Str)) = false := by decide) (he : starEach (e :: es) X.env = (false, eval e X.env) :: starEach es X.env := by rfl) (hpl : (backTo pos (starEach es X.env)).any (·.1) = false := by rfl) :
    VE X K cl W (.Call (.Name x p) (e :: es) [] pos) (tCallSD (spD K cl Wf) [] (fun σ => WE W σ) t) (dCall Wf q) := by
  obtain rfl := ha.hK
  exact ⟨pe_callSD F hr hg mg hk hb .nil (passAt tk) ha.pe hdb he hpl, rfe_call0 ha.rf, rfl⟩
theorem vn_call {Wf : DF} {k : Nat} {f : Addr} {fd : FuncData} {ps : List Str} {x : Str} {p : Pos} {e : Expr} {es : List Expr} {t : TA} {q : DA} (F : FnOk X.prog X.w K X.mg X.base (L2.CX X.prog X.w) k f fd ps (spN K cl Wf)) (hr : Room k X.A) (hg : Gl X x) (mg : X.mg x = some (.ref f)) (hk : PySem.W.keepIn K (.ref f) = true)
    (hb : Binds K fd ps []) (tk : Takes X W) (ha : VA X K cl W (e :: es) t q) (hdb : (x == ("__debug__" : Str)) = false := by decide) (he : starEach (e :: es) X.env = (false, eval e X.env) :: starEach es X.env := by rfl) (hpl : (backTo pos (starEach es X.env)).any (·.1) = false := by rfl) :
    VN X K cl W (.Call (.Name x p) (e :: es) [] pos) (tCallSD (spN K cl Wf) [] (fun σ => WE W σ) t) (dCall Wf q) := by
  obtain rfl := ha.hK
  exact ⟨pe_callSD F hr hg mg hk hb .nil (passAt tk) ha.pe hdb he hpl, rfn_call0 ha.rf, rfl⟩
theorem ve_callD {Wf : DF} {k : Nat} {f : Addr} {fd : FuncData} {ps : List Str} {x : Str} {p : Pos} {e : Expr} {es : List Expr} {t : TA} {q : DA} {ds : List Value} {dvs : List V} {dds : List D} (F : FnOk X.prog X.w K X.mg X.base (L2.CX X.prog X.w) k f fd ps (spD K cl Wf)) (hr : Room k X.A) (hg : Gl X x) (mg : X.mg x = some (.ref f)) (hk : PySem.W.keepIn K (.ref f) = true)
    (hb : Binds K fd ps ds) (hd : Vals dvs ds) (hr2 : ∀ F, Reps K cl F dvs dds) (tk : Takes X W) (ha : VA X K cl W (e :: es) t q) (hdb : (x == ("__debug__" : Str)) = false := by decide) (he : starEach (e :: es) X.env = (false, eval e X.env) :: starEach es X.env := by rfl) (hpl : (backTo pos (starEach es X.env)).any (·.1) = false := by rfl) :
    VE X K cl W (.Call (.Name x p) (e :: es) [] pos) (tCallSD (spD K cl Wf) dvs (fun σ => WE W σ) t) (dCall (fun xs => Wf (xs ++ dds)) q) := by
  obtain rfl := ha.hK
  exact ⟨pe_callSD F hr hg mg hk hb hd (passAt tk) ha.pe hdb he hpl, rfe_call hr2 ha.rf, rfl⟩
/-- a built-in function, a built-in class, by values -/
structure Bi (X : Cx) (K : Fg) (cl : Cl) (v : Value) (r : List V → Hp → VK → Prop) (f : List D → DK → Prop) : Prop where
  o : CallR X v r
  f : RfC K cl r f
  hK : X.K = K
structure BiN (X : Cx) (K : Fg) (cl : Cl) (v : Value) (r : List V → Hp → VK → Prop) (f : List D → DK → Prop) : Prop where
  o : CallR X v r
  f : RfNC K cl r f
  hK : X.K = K
theorem ve_bfun {id : String} {r : List V → Hp → VK → Prop} {f : List D → DK → Prop} {x : Str} {p : Pos} {e : Expr} {es : List Expr} {t : TA} {q : DA} (b : Bi X K cl (.builtin id) r f) (hg : Gl X x) (hm : X.mg x = some (.builtin id)) (ha : VA X K cl W (e :: es) t q) (hdb : (x == ("__debug__" : Str)) = false := by decide)
    (he : starEach (e :: es) X.env = (false, eval e X.env) :: starEach es X.env := by rfl) (hpl : (backTo pos (starEach es X.env)).any (·.1) = false := by rfl) : VE X K cl W (.Call (.Name x p) (e :: es) [] pos) (tCB r t) (dBlt f q) := by
  obtain rfl := b.hK
  exact ⟨pe_callBfun b.o hg hm ha.pe hdb he hpl, rfe_cb b.f ha.rf, rfl⟩
theorem ve_blt {id : String} {r : List V → Hp → VK → Prop} {f : List D → DK → Prop} {x : Str} {p : Pos} {e : Expr} {es : List Expr} {t : TA} {q : DA} (b : Bi X K cl (.builtin id) r f) (hg : Gl X x) (hm : X.mg x = none) (hv : bootBuiltins x = some (.builtin id)) (ha : VA X K cl W (e :: es) t q) (hn : x ≠ "__name__" := by decide) (hdb : (x == ("__debug__" : Str)) = false := by decide)
    (he : starEach (e :: es) X.env = (false, eval e X.env) :: starEach es X.env := by rfl) (hpl : (backTo pos (starEach es X.env)).any (·.1) = false := by rfl) : VE X K cl W (.Call (.Name x p) (e :: es) [] pos) (tCB r t) (dBlt f q) := by
  obtain rfl := b.hK
  exact ⟨pe_callB b.o hg hm hv ha.pe hn hdb he hpl, rfe_cb b.f ha.rf, rfl⟩
theorem ve_cls {T : String} {r : List V → Hp → VK → Prop} {f : List D → DK → Prop} {x : Str} {p : Pos} {e : Expr} {es : List Expr} {t : TA} {q : DA} (b : Bi X K cl (.type T) r f) (hg : Gl X x) (hm : X.mg x = none) (hv : bootBuiltins x = some (.type T)) (ha : VA X K cl W (e :: es) t q) (hn : x ≠ "__name__" := by decide) (hdb : (x == ("__debug__" : Str)) = false := by decide)
    (he : starEach (e :: es) X.env = (false, eval e X.env) :: starEach es X.env := by rfl) (hpl : (backTo pos (starEach es X.env)).any (·.1) = false := by rfl) : VE X K cl W (.Call (.Name x p) (e :: es) [] pos) (tCB r t) (dBlt f q) := by
  obtain rfl := b.hK
  exact ⟨pe_callTy b.o hg hm hv ha.pe hn hdb he hpl, rfe_cb b.f ha.rf, rfl⟩
theorem vn_blt {id : String} {r : List V → Hp → VK → Prop} {f : List D → DK → Prop} {x : Str} {p : Pos} {e : Expr} {es : List Expr} {t : TA} {q : DA} (b : BiN X K cl (.builtin id) r f) (hg : Gl X x) (hm : X.mg x = none) (hv : bootBuiltins x = some (.builtin id)) (ha : VA X K cl W (e :: es) t q) (hn : x ≠ "__name__" := by decide) (hdb : (x == ("__debug__" : Str)) = false := by decide)
    (he : starEach (e :: es) X.env = (false, eval e X.env) :: starEach es X.env := by rfl) (hpl : (backTo pos (starEach es X.env)).any (·.1) = false := by rfl) : VN X K cl W (.Call (.Name x p) (e :: es) [] pos) (tCB r t) (dBlt f q) := by
  obtain rfl := b.hK
  exact ⟨pe_callB b.o hg hm hv ha.pe hn hdb he hpl, rfn_cb b.f ha.rf, rfl⟩
theorem vn_cls {T : String} {r : List V → Hp → VK → Prop} {f : List D → DK → Prop} {x : Str} {p : Pos} {e : Expr} {es : List Expr} {t : TA} {q : DA} (b : BiN X K cl (.type T) r f) (hg : Gl X x) (hm : X.mg x = none) (hv : bootBuiltins x = some (.type T)) (ha : VA X K cl W (e :: es) t q) (hn : x ≠ "__name__" := by decide) (hdb : (x == ("__debug__" : Str)) = false := by decide)
    (he : starEach (e :: es) X.env = (false, eval e X.env) :: starEach es X.env := by rfl) (hpl : (backTo pos (starEach es X.env)).any (·.1) = false := by rfl) : VN X K cl W (.Call (.Name x p) (e :: es) [] pos) (tCB r t) (dBlt f q) := by
  obtain rfl := b.hK
  exact ⟨pe_callTy b.o hg hm hv ha.pe hn hdb he hpl, rfn_cb b.f ha.rf, rfl⟩
theorem bi_len (hK : X.K = K := by rfl) : Bi X K cl (.builtin "len") (rLenU K) fLen := by
  obtain rfl := hK
  exact ⟨cr_lenU, rf_len, rfl⟩
theorem bi_gcd (hK : X.K = K := by rfl) : Bi X K cl (.builtin "math.gcd") rGcd fGcd := by
  obtain rfl := hK
  exact ⟨cr_gcd, rf_gcd, rfl⟩
theorem bi_abs (hK : X.K = K := by rfl) : Bi X K cl (.builtin "abs") (fun xs H Q => ∃ i, xs = [.int i] ∧ Q (.int (if i < 0 then -i else i)) H) fAbs := by
  obtain rfl := hK
  exact ⟨call_abs, rf_abs, rfl⟩
theorem bi_min (hc : X.calm = true) (hK : X.K = K := by rfl) : Bi X K cl (.builtin "min") (rMinU K) fMin := by
  obtain rfl := hK
  exact ⟨cr_minU hc, rf_min, rfl⟩
theorem bi_max (hc : X.calm = true) (hK : X.K = K := by rfl) : Bi X K cl (.builtin "max") (rMaxU K) fMax := by
  obtain rfl := hK
  exact ⟨cr_maxU hc, rf_max, rfl⟩
theorem bi_sum (hc : X.calm = true) (hK : X.K = K := by rfl) : Bi X K cl (.builtin "sum") (rSumU K) fSum := by
  obtain rfl := hK
  exact ⟨cr_sumU hc, rf_sum, rfl⟩
theorem bi_all (hc : X.calm = true) (hK : X.K = K := by rfl) : Bi X K cl (.builtin "all") (rAll K) fAll := by
  obtain rfl := hK
  exact ⟨cr_all hc, rf_all, rfl⟩
theorem bi_any (hc : X.calm = true) (hK : X.K = K := by rfl) : Bi X K cl (.builtin "any") (rAny K) fAny := by
  obtain rfl := hK
  exact ⟨cr_any hc, rf_any, rfl⟩
theorem bi_int (hK : X.K = K := by rfl) : Bi X K cl (.type "int") (fun xs H Q => (∃ i, xs = [.int i] ∧ Q (.int i) H) ∨ ∃ k, xs = [.bl k] ∧ Q (.int (if k then 1 else 0)) H) fInt := by
  obtain rfl := hK
  exact ⟨call_int1, rf_int, rfl⟩
theorem bi_str (hK : X.K = K := by rfl) : Bi X K cl (.type "str") (fun xs H Q => ∃ i, xs = [.int i] ∧ i.natAbs.log2 < 1920 ∧ Q (.str (toString i)) H) fStr := by
  obtain rfl := hK
  exact ⟨call_str_int, rf_str, rfl⟩
theorem bi_divmod (hK : X.K = K := by rfl) : Bi X K cl (.builtin "divmod") (fun xs H Q => ∃ i j, xs = [.int i, .int j] ∧ CDiv i j ∧ ∀ p, H p = none → Q (.ref p) (upd H p (.tup [.int (i / j), .int (i % j)]))) fDivmod := by
  obtain rfl := hK
  exact ⟨call_divmod, rf_divmod, rfl⟩
theorem bi_tuple (hK : X.K = K := by rfl) : Bi X K cl (.type "tuple") (fun xs H Q => ∃ p ys, xs = [.ref p] ∧ ((SqL K H p ys ∧ ∀ l, H l = none → Q (.ref l) (upd H l (.tup ys))) ∨ (SqT K H p ys ∧ Q (.ref p) H))) fTuple := by
  obtain rfl := hK
  exact ⟨call_tuple_of, rf_tuple, rfl⟩
theorem bn_list (hc : X.calm = true := by rfl) (hK : X.K = K := by rfl) : BiN X K cl (.type "list") (rListU K) fList := by
  obtain rfl := hK
  exact ⟨cr_listU hc, rf_list, rfl⟩
theorem bn_sorted (hc : X.calm = true := by rfl) (hK : X.K = K := by rfl) : BiN X K cl (.builtin "sorted") (rSortedU K) fSorted := by
  obtain rfl := hK
  exact ⟨cr_sortedU hc, rf_sorted, rfl⟩
theorem ve_isi {x c : Str} {cs : String} {p p' : Pos} {e : Expr} {te : TE} {t : DT} (hg : Gl X x) (hm : X.mg x = none) (hv : bootBuiltins x = some (.builtin "isinstance")) (hg2 : Gl X c) (hm2 : X.mg c = none) (hv2 : bootBuiltins c = some (.type cs)) (hc : cs ∈ ["int", "bool", "str", "tuple", "list", "dict"]) (ha : VE X K cl W e te t)
    (hn : x ≠ "__name__" := by decide) (hdb : (x == ("__debug__" : Str)) = false := by decide) (hn2 : c ≠ "__name__" := by decide) (hdb2 : (c == ("__debug__" : Str)) = false := by decide)
    (he : starEach [e, .Name c p'] X.env = (false, eval e X.env) :: starEach [.Name c p'] X.env := by rfl) (he2 : starEach [.Name c p'] X.env = (false, eval (.Name c p') X.env) :: starEach [] X.env := by rfl) (hpl : (backTo pos (starEach [.Name c p'] X.env)).any (·.1) = false := by rfl) :
    VE X K cl W (.Call (.Name x p) [e, .Name c p'] [] pos) (tCB (rIsi K) (tCons te (tCons (tC (.ty cs)) tNil))) (dIsi cs t) := by
  obtain rfl := ha.hK
  exact ⟨pe_callB call_isi hg hm hv (pa_cons ha.pe (pa_cons (pe_bltn hg2 hm2 hv2 rfl hn2 hdb2) pa_nil he2) he) hn hdb he hpl, rfe_isi hc ha.rf, rfl⟩
/-! tests -/
theorem vb_val {e : Expr} {te : TE} {t : DT} (h : VE X K cl W e te t) (he : ∀ whole, isTrue e X.env whole = (do let v ← whole; standAt e.pos; holding [v] (truthy v)) := by intro _; rfl) : VB X K cl W e (tB te) (bT t) := by
  obtain rfl := h.hK
  exact ⟨pt_val h.pe he, rfb_T h.rf, rfl⟩
def tTruA (K : Fg) (ta : TE) : TT := fun σ H Q => ta σ H fun x H' => ∃ k, TruV K x H' k ∧ Q k H'
theorem rfb_truth {te : TE} {t : DT} (ha : RfE K cl W te t) : RfB K cl W (tTruA K te) (bTruth t) where
  mono2 := fun E E' ρ P P' hE h q => ha.mono2 E E' ρ _ _ hE (fun x q => by
    cases x with
    | str z => exact ⟨q.1, h _ q.2⟩
    | non => exact h _ q
    | bl b => exact h _ q
    | int i => exact h _ q
    | lst l => exact h _ q
    | tup l => exact h _ q
    | dk l => exact h _ q
    | _ => exact q.elim) q
  ok := fun F0 H0 F H σ ρ E Q hh le q => by
    have em : ∀ {vs : List V} {ds : List D}, vs.length = ds.length → vs.isEmpty = ds.isEmpty := fun {vs ds} h => by
      cases vs <;> cases ds <;> simp at h ⊢
    refine ha.ok F0 H0 F H σ ρ E _ hh le (ha.mono E ρ _ _ (fun x q v F1 H1 g1 r1 => ?_) q)
    cases r1 with
    | non => exact ⟨false, rfl, q F1 H1 g1⟩
    | bl b => exact ⟨b, rfl, q F1 H1 g1⟩
    | int i => exact ⟨_, rfl, q F1 H1 g1⟩
    | str z => exact ⟨_, ⟨by rw [← line_eq]; exact q.1, by
        rw [Bool.eq_iff_iff]
        simp⟩, q.2 F1 H1 g1⟩
    | lst e r => exact ⟨_, .inl ⟨_, SqL.of (g1.s _ _ e), by rw [em r.length]⟩, q F1 H1 g1⟩
    | tup e r => exact ⟨_, .inr (.inl ⟨_, same_t g1.s e, by rw [em r.length]⟩), q F1 H1 g1⟩
    | dk e r => exact ⟨_, .inr (.inr ⟨_, g1.s _ _ e, by cases r <;> rfl⟩), q F1 H1 g1⟩
    | _ => exact q.elim
theorem vb_truth {e : Expr} {te : TE} {t : DT} (h : VE X K cl W e te t) (he : ∀ whole, isTrue e X.env whole = (do let v ← whole; standAt e.pos; holding [v] (truthy v)) := by intro _; rfl) : VB X K cl W e (tTruA K te) (bTruth t) := by
  obtain rfl := h.hK
  exact ⟨pt_truth h.pe he, rfb_truth h.rf, rfl⟩
theorem VW.b {e : Expr} {te : TT} {t : DB} (h : VW X K cl W e te t) : VB X K cl W e te t := by
  obtain rfl := h.hK
  exact ⟨h.pe.pt, h.rf, rfl⟩
theorem vw_and1 {a : Expr} {tA : TT} {p : DB} (ha : VB X K cl W a tA p) : VW X K cl W (.BoolOp .And [a] pos) tA p := by
  obtain rfl := ha.hK
  exact ⟨pw_and1 ha.pe, ha.rf, rfl⟩
theorem vw_or1 {a : Expr} {tA : TT} {p : DB} (ha : VB X K cl W a tA p) : VW X K cl W (.BoolOp .Or [a] pos) tA p := by
  obtain rfl := ha.hK
  exact ⟨pw_or1 ha.pe, ha.rf, rfl⟩
theorem vw_and {a b : Expr} {rest : List Expr} {tA tB' : TT} {p q : DB} (ha : VB X K cl W a tA p) (hb : VW X K cl W (.BoolOp .And (b :: rest) pos) tB' q) : VW X K cl W (.BoolOp .And (a :: b :: rest) pos) (tAnd tA tB') (bAnd p q) := by
  obtain rfl := ha.hK
  exact ⟨pw_and ha.pe hb.pe, rfb_and ha.rf hb.rf, rfl⟩
theorem vw_or {a b : Expr} {rest : List Expr} {tA tB' : TT} {p q : DB} (ha : VB X K cl W a tA p) (hb : VW X K cl W (.BoolOp .Or (b :: rest) pos) tB' q) : VW X K cl W (.BoolOp .Or (a :: b :: rest) pos) (tOr tA tB') (bOr p q) := by
  obtain rfl := ha.hK
  exact ⟨pw_or ha.pe hb.pe, rfb_or ha.rf hb.rf, rfl⟩
theorem vb_not {a : Expr} {tA : TT} {p : DB} (ha : VB X K cl W a tA p) : VB X K cl W (.UnaryOp .Not a pos) (tNot tA) (bNot p) := by
  obtain rfl := ha.hK
  exact ⟨pt_not ha.pe, rfb_not ha.rf, rfl⟩
theorem rfb_bor {te : TT} {t : DB} {K : Fg} (ha : RfB K cl W te t) : RfB K cl W te (bBor t) where
  mono2 := fun E E' ρ P P' hE h q => ha.mono noE _ _ _ (fun x q => h _ q) q
  ok := fun F0 H0 F H σ ρ E Q hh le q => by
    obtain ⟨F', sf, hb⟩ := hh.bor
    exact ha.ok F' H F' H σ _ noE _ hb (fun err ρ σ F H c dx _ z _ => z.elim) (ha.mono noE _ _ _ (fun x q F1 H1 g1 => q F H1 (Gr.h hh.g.s g1.k)) q)
theorem vb_bor {e : Expr} {te : TT} {t : DB} (h : VB X K cl W e te t) : VB X K cl W e te (bBor t) := by
  obtain rfl := h.hK
  exact ⟨h.pe, rfb_bor h.rf, rfl⟩
/-! what is walked -/
theorem vi_seq {tg e : Expr} {te : TE} {t : DT} (h : VE X K cl W e te t) : VI X K cl W tg e (iU K te) (iSeq t) := by
  obtain rfl := h.hK
  exact ⟨pi_U h.pe, rfi_seq h.rf, rfl⟩
theorem vi_rng1 {tg a : Expr} {ta : TA} {t : DA} {p : Pos} (hg : Gl X "range") (hm : X.mg "range" = none) (ha : VA X K cl W [a] ta t) (hs : starEach [a] X.env = [(false, eval a X.env)] := by rfl) : VI X K cl W tg (.Call (.Name "range" p) [a] [] pos) (L2.iRng1 ta) (DL.iRng1 t) := by
  obtain rfl := ha.hK
  exact ⟨pi_range1 hg hm ha.pe hs, rfi_rng1 ha.rf, rfl⟩
theorem vi_rng2 {tg a b : Expr} {ta : TA} {t : DA} {p : Pos} (hg : Gl X "range") (hm : X.mg "range" = none) (ha : VA X K cl W [a, b] ta t) (hs : starEach [a, b] X.env = [(false, eval a X.env), (false, eval b X.env)] := by rfl) (hs2 : starEach [b] X.env = [(false, eval b X.env)] := by rfl) : VI X K cl W tg (.Call (.Name "range" p) [a, b] [] pos) (L2.iRng2 ta) (DL.iRng2 t) := by
  obtain rfl := ha.hK
  exact ⟨pi_range2 hg hm ha.pe hs hs2, rfi_rng2 ha.rf, rfl⟩
theorem vi_enum {e : Expr} {ta : TA} {t : DA} {p tpos : Pos} {elts : List Expr} {kk : Nat} (hg : Gl X "enumerate") (hm : X.mg "enumerate" = none) (ha : VA X K cl W [e] ta t) (hs : starEach [e] X.env = [(false, eval e X.env)] := by rfl) : VI X K cl W (.Tuple elts kk tpos) (.Call (.Name "enumerate" p) [e] [] pos) (L2.iEnum K ta) (DL.iEnum t) := by
  obtain rfl := ha.hK
  exact ⟨pi_enum hg hm ha.pe hs, rfi_enum ha.rf, rfl⟩
theorem vi_zip {e e2 : Expr} {ta : TA} {t : DA} {p tpos : Pos} {elts : List Expr} {kk : Nat} (hg : Gl X "zip") (hm : X.mg "zip" = none) (ha : VA X K cl W [e, e2] ta t) (hs : starEach [e, e2] X.env = (false, eval e X.env) :: starEach [e2] X.env := by rfl) (hpl : (backTo pos (starEach [e2] X.env)).any (·.1) = false := by rfl) : VI X K cl W (.Tuple elts kk tpos) (.Call (.Name "zip" p) [e, e2] [] pos) (RZ.iZipA K ta) (DL.iZip t) := by
  obtain rfl := ha.hK
  exact ⟨RZ.pi_zipA hg hm ha.pe hs hpl, rfi_zip ha.rf, rfl⟩
theorem vi_rev {tg e : Expr} {te : TE} {t : DT} {p : Pos} (hg : Gl X "reversed") (hm : X.mg "reversed" = none) (he : VE X K cl W e te t) (hs : starEach [e] X.env = (false, eval e X.env) :: starEach [] X.env := by rfl) : VI X K cl W tg (.Call (.Name "reversed" p) [e] [] pos) (RT.iRevA K te) (DL.iRev t) := by
  obtain rfl := he.hK
  exact ⟨RT.pi_revA hg hm he.pe hs, rfi_rev he.rf, rfl⟩
/-! targets -/
structure VT (X : Cx) (K : Fg) (cl : Cl) (js : List Nat) (e : Expr) (te : TG) (t : DG) : Prop where
  pe : PG X e te
  rf : RfG K cl js te t
  no : NoO t
  go : ∀ d ρ (P : DL.Env → Prop), t d ρ P → ∃ ρ', P ρ'
  hK : X.K = K
structure VTs (X : Cx) (K : Fg) (cl : Cl) (js : List Nat) (n : Nat) (e : List Expr) (te : TGs) (t : DGs) : Prop where
  pe : PGs X e te
  rf : RfGs K cl js te t
  no : NoOs t
  go : ∀ d ρ (P : DL.Env → Prop), t d ρ P → ∃ ρ', P ρ'
  len : ∀ xs ρ Q, t xs ρ Q → xs.length = n
  hK : X.K = K
theorem vt_name {i : Nat} {x : Str} (hN : X.N.Nodup) (hi : X.N[i]? = some x := by rfl) (hx : Loc X.env.scope x := by first | exact Or.inl rfl | exact Or.inr rfl) (hf : X.fn x = true ∨ X.env.scope.names.lookup x = some .local := by first | exact .inl rfl | exact .inr rfl | assumption) (hK : X.K = K := by rfl) : VT X K cl [i] (.Name x pos) (L2.gName i) (DL.gName i) := by
  obtain rfl := hK
  exact ⟨pg_name hN hi hx hf, rfg_name, noO_name, fun _ _ _ q => ⟨_, q⟩, rfl⟩
theorem vts_nil (hK : X.K = K := by rfl) : VTs X K cl [] 0 [] L2.gNil DL.gNil := by
  obtain rfl := hK
  exact ⟨pgs_nil, rfgs_nil, noOs_nil, fun _ _ _ q => ⟨_, q.2⟩, fun xs ρ Q q => by rw [q.1]; rfl, rfl⟩
theorem vts_cons {js ks : List Nat} {n : Nat} {e : Expr} {es : List Expr} {g : TG} {gs : TGs} {t : DG} {ts : DGs} (h1 : VT X K cl js e g t) (h2 : VTs X K cl ks n es gs ts) (hs : (assignEach (e :: es) X.env).map (·.2) = assign e X.env :: (assignEach es X.env).map (·.2) := by rfl) : VTs X K cl (js ++ ks) (n + 1) (e :: es) (L2.gCons g gs) (DL.gCons t ts) := by
  obtain rfl := h1.hK
  exact ⟨pgs_cons h1.pe h2.pe hs, rfgs_cons h1.rf h2.rf, noOs_cons h1.rf.mono h1.no h2.no, fun d ρ P q => by
    cases d with
    | nil => exact q.elim
    | cons x r =>
      obtain ⟨ρ', q⟩ := h1.go _ _ _ q
      exact h2.go _ _ _ q, gCons_len h2.len h1.go, rfl⟩
theorem vt_tup {js : List Nat} {n : Nat} {es : List Expr} {k : Nat} {gs : TGs} {ts : DGs} (hc : X.calm = true) (h : VTs X K cl js n es gs ts) (hn : (assignEach es X.env).length = n := by rfl) (hst : (assignEach es X.env).findIdx? (·.1) = none := by rfl) : VT X K cl js (.Tuple es k pos) (gTL K n gs) (DL.gTup ts) := by
  obtain rfl := h.hK
  exact ⟨pg_tl hc h.pe hn hst, rfg_tup h.rf h.len, noO_tup h.no, fun d ρ P q => by
    cases d <;> first | exact h.go _ _ _ q | exact q.elim, rfl⟩
/-! ### statements -/
theorem vss_nil (hK : X.K = K := by rfl) : VSs X K cl W [] L2.tNext sNext := by
  obtain rfl := hK
  exact ⟨pss_nil, rfs_next, rfl⟩
theorem vss_cons {st : Stmt} {rest : List Stmt} {t u : TS} {a b : DS} (h1 : VS X K cl W st t a) (h2 : VSs X K cl W rest u b) : VSs X K cl W (st :: rest) (tSeq t u) (sSeq a b) := by
  obtain rfl := h1.hK
  exact ⟨pss_cons h1.pe h2.pe, rfs_seq h1.rf h2.rf, rfl⟩
theorem vss_one {st : Stmt} {t : TS} {a : DS} (h1 : VS X K cl W st t a) : VSs X K cl W [st] t a := by
  obtain rfl := h1.hK
  exact ⟨pss_one h1.pe, h1.rf, rfl⟩
theorem vs_pass (hK : X.K = K := by rfl) : VS X K cl W (.Pass pos) L2.tNext sNext := by
  obtain rfl := hK
  exact ⟨ps_pass, rfs_next, rfl⟩
theorem vs_break (hK : X.K = K := by rfl) : VS X K cl W (.Break pos) L2.tBreak sBreak := by
  obtain rfl := hK
  exact ⟨ps_break, rfs_break, rfl⟩
theorem vs_cont (hK : X.K = K := by rfl) : VS X K cl W (.Continue pos) L2.tCont sCont := by
  obtain rfl := hK
  exact ⟨ps_continue, rfs_cont, rfl⟩
theorem vs_expr {e : Expr} {te : TE} {t : DT} (h : VE X K cl W e te t) (hs : swapsWith e none pos.line X.env = pure false := by rfl) : VS X K cl W (.Expr e pos) (tDrop te) (sDrop t) := by
  obtain rfl := h.hK
  exact ⟨ps_expr h.pe hs, rfs_drop h.rf, rfl⟩
theorem vs_ret {e : Expr} {te : TE} {t : DT} (h : VE X K cl W e te t) (hf : cl.fr = false := by rfl) : VS X K cl W (.Return (some e) pos) (tRet te) (sRet t) := by
  obtain rfl := h.hK
  exact ⟨ps_ret h.pe, rfs_ret hf h.rf, rfl⟩
theorem vs_retNew {e : Expr} {te : TE} {t : DT} (h : VN X K cl W e te t) (hf : cl.fr = true := by rfl) : VS X K cl W (.Return (some e) pos) (tRet te) (sRet t) := by
  obtain rfl := h.hK
  exact ⟨ps_ret h.pe, rfs_retNew hf h.rf, rfl⟩
theorem vs_retO {i : Nat} {x : Str} {p1 : Pos} (hN : X.N[i]? = some x := by rfl) (hv : Vis X.env.scope x := by first | exact Or.inl rfl | exact Or.inr (Or.inl rfl) | exact Or.inr (Or.inr rfl)) (hd : (x == ("__debug__" : Str)) = false := by decide)
    (hcd : (x == ("__classdict__" : Str)) = false := by decide) (hK : X.K = K := by rfl) (hf : cl.fr = true := by rfl) : VS X K cl W (.Return (some (.Name x p1)) pos) (tRet (tVar i)) (sRetO i) := by
  obtain rfl := hK
  exact ⟨ps_ret (pe_var hN hv hd hcd), rfs_retO hf, rfl⟩
theorem vs_retN (hK : X.K = K := by rfl) (hf : cl.fr = false := by rfl) : VS X K cl W (.Return none pos) tRetN sRetN := by
  obtain rfl := hK
  exact ⟨ps_retN, rfs_retN hf, rfl⟩
theorem vs_if {c : Expr} {a b : List Stmt} {tc : TT} {t u : TS} {p : DB} {q r : DS} (hc : VB X K cl W c tc p) (ha : VSs X K cl W a t q) (hb : VSs X K cl W b u r) : VS X K cl W (.If c a b pos) (tIfS tc t u) (sIf p q r) := by
  obtain rfl := hc.hK
  exact ⟨ps_if hc.pe ha.pe hb.pe, rfs_if hc.rf ha.rf hb.rf, rfl⟩
theorem vs_set {i : Nat} {x : Str} {e : Expr} {te : TE} {t : DT} {pos' : Pos} (hN : X.N.Nodup) (he : VE X K cl W e te t) (hi : X.N[i]? = some x := by rfl) (hx : Loc X.env.scope x := by first | exact Or.inl rfl | exact Or.inr rfl) (hs : swapsWith e (some (.Name x pos')) pos.line X.env = pure false := by rfl) (hf : X.fn x = true ∨ X.env.scope.names.lookup x = some .local := by first | exact .inl rfl | exact .inr rfl | assumption) :
    VS X K cl W (.Assign [.Name x pos'] e pos) (tAsg te (L2.gName i)) (sSet i t) := by
  obtain rfl := he.hK
  exact ⟨ps_set hN hi hx he.pe hs hf, rfs_set he.rf, rfl⟩
theorem vs_own {i : Nat} {x : Str} {e : Expr} {te : TE} {t : DT} {pos' : Pos} (hN : X.N.Nodup) (he : VN X K cl W e te t) (hi : X.N[i]? = some x := by rfl) (hx : Loc X.env.scope x := by first | exact Or.inl rfl | exact Or.inr rfl) (hs : swapsWith e (some (.Name x pos')) pos.line X.env = pure false := by rfl) (hf : X.fn x = true ∨ X.env.scope.names.lookup x = some .local := by first | exact .inl rfl | exact .inr rfl | assumption) (hpi : cl.pin i = none := by rfl) :
    VS X K cl W (.Assign [.Name x pos'] e pos) (tAsg te (L2.gName i)) (sOwn i t) := by
  obtain rfl := he.hK
  exact ⟨ps_set hN hi hx he.pe hs hf, rfs_own hpi he.rf, rfl⟩
theorem vs_asg {js : List Nat} {tg e : Expr} {te : TE} {t : DT} {g : TG} {d : DG} (he : VE X K cl W e te t) (hg : VT X K cl js tg g d) (hs : swapsWithSole [tg] e pos.line X.env = pure false := by rfl) (hw : swappedStores [tg] e X.env = pure none := by rfl) (h1 : (assignEach [tg] X.env).map (·.2) = [assign tg X.env] := by rfl) :
    VS X K cl W (.Assign [tg] e pos) (tAsg te g) (sAsg t d) := by
  obtain rfl := he.hK
  exact ⟨ps_asg he.pe hg.pe hs hw h1, rfs_asg he.rf hg.rf, rfl⟩
theorem vs_par {i j : Nat} {x y : Str} {a b : Expr} {ta : TA} {q : DA} {px py pt : Pos} {kt k2 pt2} (hc : X.calm = true) (hN : X.N.Nodup) (ha : VA X K cl W [a, b] ta q) (hi : X.N[i]? = some x := by rfl) (hj : X.N[j]? = some y := by rfl) (hij : i ≠ j := by decide)
    (hx : X.env.scope.names.lookup x = some .local := by rfl) (hy : X.env.scope.names.lookup y = some .local := by rfl) (hw : swappedStores [.Tuple [.Name x px, .Name y py] kt pt] (.Tuple [a, b] k2 pt2) X.env = pure (some [x, y]) := by rfl)
    (hs : swapsWithSole [.Tuple [.Name x px, .Name y py] kt pt] (.Tuple [a, b] k2 pt2) pos.line X.env = pure false := by rfl) :
    VS X K cl W (.Assign [.Tuple [.Name x px, .Name y py] kt pt] (.Tuple [a, b] k2 pt2) pos) (tPar i j ta) (sPar i j q) := by
  obtain rfl := ha.hK
  exact ⟨ps_par hc hN hi hj hij hx hy ha.pe hw hs, rfs_par ha.rf, rfl⟩
theorem rf_ipI {g : Int → Int → Int} {f : D → D → DK → Prop} {K : Fg} (hf : ∀ i j Q, f (.int i) (.int j) Q = Q (.int (g i j))) (hn : ∀ x y Q, f x y Q → ∃ i j, x = .int i ∧ y = .int j) : RfIp K cl (ipI g) f where
  mono := fun x y P P' h q => by
    obtain ⟨i, j, rfl, rfl⟩ := hn x y P q
    rw [hf] at q ⊢
    exact h _ q
  ok := fun F H v u x y Q s rx ry q => by
    obtain ⟨i, j, rfl, rfl⟩ := hn x y _ q
    rw [hf] at q
    cases rx
    cases ry
    exact ⟨i, j, rfl, rfl, q _ F H (Gr.refl s) (.int _)⟩
theorem vs_augAdd {i : Nat} {x : Str} {e : Expr} {te : TE} {t : DT} {pos' : Pos} (hN : X.N.Nodup) (he : VE X K cl W e te t) (hi : X.N[i]? = some x := by rfl) (hx : Loc X.env.scope x := by first | exact Or.inl rfl | exact Or.inr rfl) (hf : X.fn x = true ∨ X.env.scope.names.lookup x = some .local := by first | exact .inl rfl | exact .inr rfl | assumption) :
    VS X K cl W (.AugAssign (.Name x pos') .Add e pos) (tAug i te (ipI fun i j => i + j)) (sAug i oAddI t) := by
  obtain rfl := he.hK
  exact ⟨ps_aug hN hi hx he.pe ip_add hf, rfs_aug (rf_ipI (fun _ _ _ => rfl) fun x y Q q => by cases x <;> cases y <;> first | exact ⟨_, _, rfl, rfl⟩ | exact q.elim) he.rf, rfl⟩
theorem vs_augSub {i : Nat} {x : Str} {e : Expr} {te : TE} {t : DT} {pos' : Pos} (hN : X.N.Nodup) (he : VE X K cl W e te t) (hi : X.N[i]? = some x := by rfl) (hx : Loc X.env.scope x := by first | exact Or.inl rfl | exact Or.inr rfl) (hf : X.fn x = true ∨ X.env.scope.names.lookup x = some .local := by first | exact .inl rfl | exact .inr rfl | assumption) :
    VS X K cl W (.AugAssign (.Name x pos') .Sub e pos) (tAug i te (ipI fun i j => i - j)) (sAug i oSub t) := by
  obtain rfl := he.hK
  exact ⟨ps_aug hN hi hx he.pe ip_sub hf, rfs_aug (rf_ipI (fun _ _ _ => rfl) fun x y Q q => by cases x <;> cases y <;> first | exact ⟨_, _, rfl, rfl⟩ | exact q.elim) he.rf, rfl⟩
theorem vs_app {i : Nat} {x : Str} {e : Expr} {te : TE} {t : DT} {p1 apos cpos : Pos} (he : VE X K cl W e te t) (hN : X.N[i]? = some x := by rfl) (hv : Vis X.env.scope x := by first | exact Or.inl rfl | exact Or.inr (Or.inl rfl) | exact Or.inr (Or.inr rfl)) (hd : (x == ("__debug__" : Str)) = false := by decide)
    (hcd : (x == ("__classdict__" : Str)) = false := by decide) (hs1 : starEach [e] X.env = (false, eval e X.env) :: starEach [] X.env := by rfl)
    (hbase : attributeBase (.Name x p1) "append" X.env (eval (.Name x p1) X.env) = eval (.Name x p1) X.env := by rfl)
    (hfew : ((backTo cpos (starEach [e] X.env)).all (fun x => !x.1) && (backToKw cpos (keywordEach [] X.env)).all (fun x => x.1.isSome)
      && decide ([e].length + ([] : List Keyword).length + (if ([] : List Keyword).isEmpty then 0 else 1) < 30)) = true := by rfl)
    (hline : (apos.endLine == cpos.line) = true := by rfl) (hplain : (backTo cpos (starEach [] X.env)).any (·.1) = false := by rfl)
    (hs : swapsWith (.Call (.Attribute (.Name x p1) "append" apos) [e] [] cpos) none pos.line X.env = pure false := by rfl) :
    VS X K cl W (.Expr (.Call (.Attribute (.Name x p1) "append" apos) [e] [] cpos) pos) (tAppS K i te) (sApp i t) := by
  obtain rfl := he.hK
  exact ⟨ps_expr (pe_bm PySem.F.plainAttrs_list PySem.F.slot_list_append PySem.F.type_list_append mt_append (pe_var hN hv hd hcd) (pa_cons he.pe pa_nil hs1) hbase hfew hline hs1 hplain) hs, rfs_app he.rf, rfl⟩
theorem vs_frz {i : Nat} {st : Stmt} {ts : TS} {t : DS} (h : VS X K cl W st ts t) : VS X K cl W st ts (sFrz i t) := by
  obtain rfl := h.hK
  exact ⟨h.pe, rfs_frz h.rf, rfl⟩
theorem vs_fgt {js : List Nat} {st : Stmt} {ts : TS} {t : DS} (h : VS X K cl W st ts t) : VS X K cl W st ts (sFgt js t) := by
  obtain rfl := h.hK
  exact ⟨h.pe, rfs_fgt h.rf, rfl⟩
theorem vss_frz {i : Nat} {st : List Stmt} {ts : TS} {t : DS} (h : VSs X K cl W st ts t) : VSs X K cl W st ts (sFrz i t) := ⟨h.pe, rfs_frz h.rf, h.hK⟩
theorem vss_fgt {js : List Nat} {st : List Stmt} {ts : TS} {t : DS} (h : VSs X K cl W st ts t) : VSs X K cl W st ts (sFgt js t) := by
  obtain rfl := h.hK
  exact ⟨h.pe, rfs_fgt h.rf, rfl⟩
theorem vs_for {js : List Nat} {tg iter : Expr} {body : List Stmt} {wi : TI} {it : DI} {g : TG} {d : DG} {tb : TS} {b : DS} (hp : PassesOwn (model X.prog X.w) X.A X.env X.xe) (hc : X.calm = true) (hi : VI X K cl W tg iter wi it) (hg : VT X K cl js tg g d) (hb : VSs X K cl W body tb b)
    (hs : ∀ x, foldedSetIterable iter X.env x = pure x := by intro _; rfl) : VS X K cl W (.For tg iter body [] pos) (tFor wi g tb) (sFor it d b) := by
  obtain rfl := hi.hK
  exact ⟨ps_for hp hc hi.pe hg.pe hb.pe hs, rfs_for hi.rf hg.rf hb.rf, rfl⟩
theorem vs_while {c : Expr} {body : List Stmt} {tc : TT} {p : DB} {tb : TS} {b : DS} (hp : PassesOwn (model X.prog X.w) X.A X.env X.xe) (hc : VB X K cl W c tc p) (hb : VSs X K cl W body tb b) : VS X K cl W (.While c body [] pos) (tWhile tc tb) (sWhile p b) := by
  obtain rfl := hc.hK
  exact ⟨ps_while hp hc.pe hb.pe, rfs_while hc.rf hb.rf, rfl⟩
/-! ### list comprehensions -/
structure VP (X : Cx) (K : Fg) (cl : Cl) (W : WX) (ifs : List Expr) (tt : TT) (t : DB) : Prop where
  pe : PTs X ifs tt
  rf : RfB K cl W tt t
  hK : X.K = K
theorem vp_nil (hK : X.K = K := by rfl) : VP X K cl W [] tYes bYes := by
  obtain rfl := hK
  exact ⟨pts_nil, rfb_yes, rfl⟩
theorem vp_one {c : Expr} {tt : TT} {t : DB} (h : VB X K cl W c tt t) : VP X K cl W [c] tt t := by
  obtain rfl := h.hK
  exact ⟨pts_one h.pe, h.rf, rfl⟩
abbrev WF : WX := fun _ _ _ _ => False
theorem takes_no {X : Cx} : Takes X WF := fun _ _ ⟨_, _, _, _, _, _, _, _, _, _, _, _, _, _, _, _, w⟩ => w.elim
theorem vn_lc {js : List Nat} {elt tg iter : Expr} {ifs : List Expr} {scope : Scope} {own : List (Str × Nat)} {vs : List Nat} {wi : TI} {it : DI} {g : TG} {d : DG} {tt : TT} {t : DB} {te : TE} {e : DT} (hc : X.calm = true) (hN : X.N.Nodup) (hi : VI X K cl W tg iter wi it) (ok : BlkOk X.N X.env.scope scope own)
    (hg : ∀ (s : Shared) (H : Hp) (C : Addr) (l : List (Str × Addr)) (fp : List Addr), VT (X.blk s H scope (compEnvC scope l C X.env) fp) K cl js tg g d) (ht : ∀ (s : Shared) (H : Hp) (C : Addr) (l : List (Str × Addr)) (fp : List Addr), VP (X.blk s H scope (compEnvC scope l C X.env) fp) K cl WF ifs tt t)
    (he : ∀ (s : Shared) (H : Hp) (C : Addr) (l : List (Str × Addr)) (fp : List Addr), VE (X.blk s H scope (compEnvC scope l C X.env) fp) K cl WF elt te e) (hvs : own.map (·.2) = vs := by rfl) (hjs : ∀ j ∈ js, j ∈ own.map (·.2) := by decide) (hs : ∀ x, foldedSetIterable iter X.env x = pure x := by intro _; rfl) :
    VN X K cl W (.ListComp elt [⟨tg, iter, ifs, 0⟩] scope pos) (tLc wi g tt te vs) (dLc it d t e vs) := by
  obtain rfl := hi.hK
  exact hvs ▸ ⟨pe_lc hc hN hi.pe ok (fun s H C l fp => (hg s H C l fp).pe) (fun s H C l fp => (ht s H C l fp).pe) (fun s H C l fp => (he s H C l fp).pe) hs,
    rfn_lc hi.rf (hg X.s_0 X.H_0 0 [] []).rf (hg X.s_0 X.H_0 0 [] []).no hjs (ht X.s_0 X.H_0 0 [] []).rf (he X.s_0 X.H_0 0 [] []).rf, rfl⟩
theorem vs_lc {i : Nat} {js : List Nat} {y : Str} {py spos : Pos} {elt tg iter : Expr} {ifs : List Expr} {scope : Scope} {own : List (Str × Nat)} {vs : List Nat} {wi : TI} {it : DI} {g : TG} {d : DG} {tt : TT} {t : DB} {te : TE} {e : DT} (hc : X.calm = true) (hN : X.N.Nodup) (hi : VI X K cl W tg iter wi it) (ok : BlkOk X.N X.env.scope scope own)
    (hg : ∀ (s : Shared) (H : Hp) (C : Addr) (l : List (Str × Addr)) (fp : List Addr), VT (X.blk s H scope (compEnvC scope l C X.env) fp) K cl js tg g d) (ht : ∀ (s : Shared) (H : Hp) (C : Addr) (l : List (Str × Addr)) (fp : List Addr), VP (X.blk s H scope (compEnvC scope l C X.env) fp) K cl WF ifs tt t)
    (he : ∀ (s : Shared) (H : Hp) (C : Addr) (l : List (Str × Addr)) (fp : List Addr), VE (X.blk s H scope (compEnvC scope l C X.env) fp) K cl WF elt te e) (hsw : swapsWith (.ListComp elt [⟨tg, iter, ifs, 0⟩] scope pos) (some (.Name y py)) spos.line X.env = pure true) (hy : X.N[i]? = some y := by rfl) (hyl : X.env.scope.names.lookup y = some .local := by rfl) (hvs : own.map (·.2) = vs := by rfl) (hjs : ∀ j ∈ js, j ∈ own.map (·.2) := by decide) (hs : ∀ x, foldedSetIterable iter X.env x = pure x := by intro _; rfl) :
    VS X K cl W (.Assign [.Name y py] (.ListComp elt [⟨tg, iter, ifs, 0⟩] scope pos) spos) (tAsg (tLc wi g tt te vs) (L2.gName i)) (sSet i (dLc it d t e vs)) := by
  obtain rfl := hi.hK
  exact hvs ▸ ⟨ps_setLc hc hN hy hyl hsw hi.pe ok (fun s H C l fp => (hg s H C l fp).pe) (fun s H C l fp => (ht s H C l fp).pe) (fun s H C l fp => (he s H C l fp).pe) hs,
    rfs_set (rfn_lc hi.rf (hg X.s_0 X.H_0 0 [] []).rf (hg X.s_0 X.H_0 0 [] []).no hjs (ht X.s_0 X.H_0 0 [] []).rf (he X.s_0 X.H_0 0 [] []).rf).e, rfl⟩
theorem vs_lcO {i : Nat} {js : List Nat} {y : Str} {py spos : Pos} {elt tg iter : Expr} {ifs : List Expr} {scope : Scope} {own : List (Str × Nat)} {vs : List Nat} {wi : TI} {it : DI} {g : TG} {d : DG} {tt : TT} {t : DB} {te : TE} {e : DT} (hc : X.calm = true) (hN : X.N.Nodup) (hi : VI X K cl W tg iter wi it) (ok : BlkOk X.N X.env.scope scope own)
    (hg : ∀ (s : Shared) (H : Hp) (C : Addr) (l : List (Str × Addr)) (fp : List Addr), VT (X.blk s H scope (compEnvC scope l C X.env) fp) K cl js tg g d) (ht : ∀ (s : Shared) (H : Hp) (C : Addr) (l : List (Str × Addr)) (fp : List Addr), VP (X.blk s H scope (compEnvC scope l C X.env) fp) K cl WF ifs tt t)
    (he : ∀ (s : Shared) (H : Hp) (C : Addr) (l : List (Str × Addr)) (fp : List Addr), VE (X.blk s H scope (compEnvC scope l C X.env) fp) K cl WF elt te e) (hsw : swapsWith (.ListComp elt [⟨tg, iter, ifs, 0⟩] scope pos) (some (.Name y py)) spos.line X.env = pure true) (hy : X.N[i]? = some y := by rfl) (hyl : X.env.scope.names.lookup y = some .local := by rfl) (hvs : own.map (·.2) = vs := by rfl) (hjs : ∀ j ∈ js, j ∈ own.map (·.2) := by decide) (hs : ∀ x, foldedSetIterable iter X.env x = pure x := by intro _; rfl) (hpi : cl.pin i = none := by rfl) :
    VS X K cl W (.Assign [.Name y py] (.ListComp elt [⟨tg, iter, ifs, 0⟩] scope pos) spos) (tAsg (tLc wi g tt te vs) (L2.gName i)) (sOwn i (dLc it d t e vs)) := by
  obtain rfl := hi.hK
  exact hvs ▸ ⟨ps_setLc hc hN hy hyl hsw hi.pe ok (fun s H C l fp => (hg s H C l fp).pe) (fun s H C l fp => (ht s H C l fp).pe) (fun s H C l fp => (he s H C l fp).pe) hs,
    rfs_own hpi (rfn_lc hi.rf (hg X.s_0 X.H_0 0 [] []).rf (hg X.s_0 X.H_0 0 [] []).no hjs (ht X.s_0 X.H_0 0 [] []).rf (he X.s_0 X.H_0 0 [] []).rf), rfl⟩
end
end DL

/-! DCls: classes whose instances are made once and read. -/
namespace DL
open PySem L2 PyProof.Rows
section
variable {K : Fg} {cl : Cl} {W : WX}
theorem FReps.look {F : Hp} (f : Str) : ∀ {ws : List (Str × V)} {fs : List (Str × D)}, FReps K cl F ws fs → (fs.lookup f = none ∧ ws.lookup f = none) ∨ ∃ v d, fs.lookup f = some d ∧ ws.lookup f = some v ∧ Rep K cl F v d
  | _, _, .nil => .inl ⟨rfl, rfl⟩
  | _, _, .cons (k := k) h r => by
    rw [List.lookup_cons, List.lookup_cons]
    cases e : f == k with
    | true => exact .inr ⟨_, _, rfl, rfl, h⟩
    | false => exact FReps.look f r
theorem FReps.put {F : Hp} {v : V} {d : D} (f : Str) (h : Rep K cl F v d) : ∀ {ws : List (Str × V)} {fs : List (Str × D)}, FReps K cl F ws fs → FReps K cl F (putF f v ws) (putFD f d fs)
  | _, _, .nil => .cons h .nil
  | _, _, .cons (k := k) h2 r => by
    unfold putF putFD
    by_cases e : k = f
    · rw [if_pos e, if_pos e]
      exact .cons h r
    · rw [if_neg e, if_neg e]
      exact .cons h2 (FReps.put f h r)
theorem FReps.length {F : Hp} : ∀ {ws : List (Str × V)} {fs : List (Str × D)}, FReps K cl F ws fs → ws.length = fs.length
  | _, _, .nil => rfl
  | _, _, .cons _ r => by rw [List.length_cons, List.length_cons, FReps.length r]
theorem rfe_fld {c : String} {f : Str} {ta : TE} {t : DT} (hC : ∀ C, cl.nm c = some C → L2.Cls K C ∧ NoAttr K C f) (ha : RfE K cl W ta t) : RfE K cl W (tFld K ta f) (dFld c f t) where
  mono2 := fun E E' ρ P P' hE h q => ha.mono2 E E' ρ _ _ hE (fun x q => by
    cases x with
    | ins c' fs =>
      refine ⟨q.1, ?_⟩
      have q := q.2
      cases e : fs.lookup f with
      | none => rw [e] at q; exact q.elim
      | some d => rw [e] at q; exact h _ q
    | _ => exact q.elim) q
  ok := fun F0 H0 F H σ ρ E Q hh le q => by
    refine ha.ok F0 H0 F H σ ρ E _ hh le (ha.mono E ρ _ _ (fun x q v F1 H1 g1 r1 => ?_) q)
    cases r1 with
    | ins n e1 e2 rr =>
      obtain ⟨rfl, qq⟩ := q
      obtain ⟨h1, h2⟩ := hC _ n
      rcases rr.look f with ⟨z, _⟩ | ⟨v, d, z1, z2, z3⟩
      · rw [z] at qq; exact qq.elim
      · rw [z1] at qq
        exact ⟨_, _, _, _, v, rfl, g1.s _ _ e1, h1, h2, z2, qq v F1 H1 g1 z3⟩
    | _ => exact q.elim
theorem rfs_fldO {c : String} {i : Nat} {f : Str} {ta : TE} {t : DT} (hC : ∀ C, cl.nm c = some C → L2.Cls K C ∧ NoAttr K C f) (ha : RfE K cl W ta t) : RfS K cl W (sFld K (tVar i) ta f) (sFldO c i f t) where
  mono2 := fun E E' A B ρ hE l q => by
    unfold sFldO at q ⊢
    cases e : ρ[i]? with
    | none => rw [e] at q; exact q.elim
    | some s =>
      rw [e] at q
      cases s with
      | no => exact q.elim
      | v d => exact q.elim
      | o d => cases d <;> first | exact ⟨q.1, ha.mono2 E E' ρ _ _ hE (fun x q => ⟨q.1, l.nx _ q.2⟩) q.2⟩ | exact q.elim
  ok := fun F0 H0 F H σ ρ E B A hh le ld q => by
    unfold sFldO at q
    cases e : ρ[i]? with
    | none => rw [e] at q; exact q.elim
    | some s =>
      rw [e] at q
      cases s with
      | no => exact q.elim
      | v d => exact q.elim
      | o d =>
        cases d with
        | ins c' fs =>
          obtain ⟨rfl, q⟩ := q
          obtain ⟨a, ea, n0, nf, ws, ⟨C, dx, n, ho, hd, hm⟩, rr⟩ := hh.ownAt e
          refine ha.ok F0 H0 F H σ ρ E _ hh le (ha.mono E ρ _ _ (fun x q v F1 H1 g1 r1 => ?_) q)
          obtain ⟨h1, h2⟩ := hC _ n
          have e1 := g1.k _ _ ho
          refine ⟨.ref a, ea, a, C, dx, ws, rfl, e1, h1, h2, by rw [rr.length]; exact q.1, ?_⟩
          exact ld.nx _ _ _ _ ((hh.grow g1).mut (d' := .ins c' (putFD f x fs)) ea e ⟨_, ⟨C, dx, n, upd_same, g1.f _ _ hd, hm⟩, (rr.mono g1.f).put f r1⟩) q.2
        | _ => exact q.elim
theorem rfe_meth {c : String} {C : Addr} {m : Str} {Wf : DF} {ta : TE} {tr : TA} {t : DT} {r : DA} (hC : cl.nm c = some C) (ha : RfE K cl W ta t) (hr : RfA K cl W tr r) : RfE K cl W (tMeth C m (spD K cl Wf) [] (fun _ _ _ => False) ta tr) (dMeth c m Wf t r) where
  mono2 := fun E E' ρ P P' hE h q => ha.mono2 E E' ρ _ _ hE (fun x q => by
    cases x with
    | ins c' fs => exact ⟨q.1, q.2.1, hr.mono2 E E' ρ _ _ hE (fun xs q => q.mono h fun e z => z) q.2.2⟩
    | _ => exact q.elim) q
  ok := fun F0 H0 F H σ ρ E Q hh le q => by
    refine ha.ok F0 H0 F H σ ρ E _ hh le (ha.mono E ρ _ _ (fun x q v F1 H1 g1 r1 => ?_) q)
    cases r1 with
    | ins n e1 e2 rr =>
      obtain ⟨rfl, hm, q⟩ := q
      rw [hC] at n
      cases n
      rcases rr.look m with ⟨_, hm2⟩ | ⟨v, d, z1, _⟩
      rotate_left
      · rw [z1] at hm; cases hm
      refine ⟨_, _, _, rfl, g1.s _ _ e1, hm2, ?_⟩
      have h1 := hh.grow g1
      refine hr.ok F0 H0 F1 H1 σ ρ E _ h1 le (hr.mono E ρ _ _ (fun xs q vs F2 H2 g2 r2 => ?_) q)
      obtain ⟨Q', E', q, a, b⟩ := q
      exact ⟨F2, _ :: xs, Q', E', g2.s, .cons ((Rep.ins hC e1 e2 rr).mono g2.f) (by rw [List.append_nil]; exact r2), q, fun d z v F' H' g r => a d z v F' H' ((g1.trans g2).trans g) r, fun e z c dx F' H' g r => (b e z).elim⟩
    | _ => exact q.elim
/-- the promise of an __init__ -/
def spM (K : Fg) (cl : Cl) (c : String) (Wf : DF) : Sp := fun vs H Q E => ∃ x dx C us Hb F ds Q' E', vs = .ref x :: us ∧ cl.nm c = some C ∧ H = upd (upd Hb dx (.own x)) x (.ins C dx []) ∧ Hb x = none ∧ Hb dx = none ∧ dx ≠ x ∧ Same F Hb ∧ Reps K cl F us ds ∧ Wf ds Q' E' ∧
  (∀ d, Q' d → ∀ F' H', Gr F Hb F' H' → Rep K cl F' (.ref x) d → Q .non H') ∧ ∀ err, E' err → False
theorem rfe_make {c : String} {C : Addr} {Wf : DF} {tr : TA} {r : DA} (hC : cl.nm c = some C) (hr : RfA K cl W tr r) : RfE K cl W (tMake C (spM K cl c Wf) [] (fun _ _ _ => False) tr) (dMake Wf r) where
  mono2 := fun E E' ρ P P' hE h q => hr.mono2 E E' ρ _ _ hE (fun xs q => q.mono h fun e z => z) q
  ok := fun F0 H0 F H σ ρ E Q hh le q => by
    refine hr.ok F0 H0 F H σ ρ E _ hh le (hr.mono E ρ _ _ (fun xs q vs F1 H1 g1 r1 => ?_) q)
    obtain ⟨Q', E', q, a, b⟩ := q
    intro x dx hx hdx ne
    exact ⟨x, dx, C, vs ++ [], H1, F1, xs, Q', E', rfl, hC, rfl, hx, hdx, ne, g1.s, by rw [List.append_nil]; exact r1, q, fun d z F' H' g r => ⟨rfl, a d z _ F' H' (g1.trans g) r⟩, b⟩
end
section
variable {K : Fg} {cl cl' : Cl} {F : Hp}
mutual
theorem Rep.toCl (n : cl'.nm = cl.nm) (o : cl'.so = cl.so) : ∀ {v : V} {d : D}, Rep K cl F v d → Rep K cl' F v d
  | _, _, .non => .non
  | _, _, .bl b => .bl b
  | _, _, .int b => .int b
  | _, _, .str b => .str b
  | _, _, .tup h r => .tup h (Reps.toCl n o r)
  | _, _, .lst h r => .lst h (Reps.toCl n o r)
  | _, _, .dk h r => .dk h (KReps.toCl n o r)
  | _, _, .dt h r => .dt h (TReps.toCl n o r)
  | _, _, .ins c h g r => .ins (by rw [n]; exact c) h g (FReps.toCl n o r)
  | _, _, .st h g z => .st (by rw [o]; exact h) (by rw [o]; exact g) z
  | _, _, .scr h => .scr h
  | _, _, .fn h => .fn (by rw [n]; exact h)
theorem Reps.toCl (n : cl'.nm = cl.nm) (o : cl'.so = cl.so) : ∀ {vs : List V} {ds : List D}, Reps K cl F vs ds → Reps K cl' F vs ds
  | _, _, .nil => .nil
  | _, _, .cons h r => .cons (Rep.toCl n o h) (Reps.toCl n o r)
theorem KReps.toCl (n : cl'.nm = cl.nm) (o : cl'.so = cl.so) : ∀ {vs : List (L2.Key × V)} {ds : List (DL.Key × D)}, KReps K cl F vs ds → KReps K cl' F vs ds
  | _, _, .nil => .nil
  | _, _, .cons h r => .cons (Rep.toCl n o h) (KReps.toCl n o r)
theorem TReps.toCl (n : cl'.nm = cl.nm) (o : cl'.so = cl.so) : ∀ {vs : List (List L2.Key × V)} {ds : List (List DL.Key × D)}, TReps K cl F vs ds → TReps K cl' F vs ds
  | _, _, .nil => .nil
  | _, _, .cons h r => .cons (Rep.toCl n o h) (TReps.toCl n o r)
theorem FReps.toCl (n : cl'.nm = cl.nm) (o : cl'.so = cl.so) : ∀ {vs : List (Str × V)} {ds : List (Str × D)}, FReps K cl F vs ds → FReps K cl' F vs ds
  | _, _, .nil => .nil
  | _, _, .cons h r => .cons (Rep.toCl n o h) (FReps.toCl n o r)
end
theorem repErr_toCl {c : Value} {dx : Option Addr} {e : Err} (n : cl'.nm = cl.nm) (o : cl'.so = cl.so) (h : RepErr K cl F c dx e) : RepErr K cl' F c dx e := by
  obtain ⟨C, h1, h2, h3⟩ := h
  refine ⟨C, by rw [n]; exact h1, h2, ?_⟩
  cases dx with
  | none => exact h3
  | some d =>
    obtain ⟨ws, h4, h5⟩ := h3
    exact ⟨ws, h4, h5.toCl n o⟩
end
section
variable {P : Program} {w : World} {K : Fg} {cl cl' : Cl} {mg : Str → Option Value} {base : Heap}
/-- a def's promise while an instance is made -/
theorem fn_cl {k : Nat} {f : Addr} {fd : FuncData} {ps : List Str} {Wf : DF} (F : FnOk P w K mg base (L2.CX P w) k f fd ps (spD K cl Wf)) (n : cl'.nm = cl.nm) (o : cl'.so = cl.so) : FnOk P w K mg base (L2.CX P w) k f fd ps (spD K cl' Wf) :=
  F.imp fun vs H Q E ⟨F0, ds, Q', E', s, r, q, a, b⟩ => ⟨F0, ds, Q', E', s, r.toCl n.symm o.symm, q, fun d z v F' H' g r => a d z v F' H' g (r.toCl n o), fun e z c dx F' H' g r => b e z c dx F' H' g (repErr_toCl n o r)⟩
theorem Own.toCl {H : Hp} {F : Hp} {a : Addr} {d : D} (n : cl'.nm = cl.nm) (o : cl'.so = cl.so) (m : cl'.me = cl.me) (h : Own K cl F H a d) : Own K cl' F H a d := by
  cases d with
  | lst ds => obtain ⟨vs, e, r⟩ := h; exact ⟨vs, e, r.toCl n o⟩
  | dk ds => obtain ⟨vs, e, r⟩ := h; exact ⟨vs, e, r.toCl n o⟩
  | dt ds => obtain ⟨vs, e, r⟩ := h; exact ⟨vs, e, r.toCl n o⟩
  | ins c ds => obtain ⟨vs, ⟨C, dx, n1, e, ow, m1⟩, r⟩ := h; exact ⟨vs, ⟨C, dx, by rw [n]; exact n1, e, ow, by rw [m]; exact m1⟩, r.toCl n o⟩
  | _ => exact h.elim
theorem fn_clN {k : Nat} {f : Addr} {fd : FuncData} {ps : List Str} {Wf : DF} (F : FnOk P w K mg base (L2.CX P w) k f fd ps (spN K cl Wf)) (n : cl'.nm = cl.nm) (o : cl'.so = cl.so) (m : cl'.me = cl.me) : FnOk P w K mg base (L2.CX P w) k f fd ps (spN K cl' Wf) :=
  F.imp fun vs H Q E ⟨F0, ds, Q', E', s, r, q, a, b⟩ => ⟨F0, ds, Q', E', s, r.toCl n.symm o.symm, q, fun d z p F' H' g x y w => a d z p F' H' g x y (w.toCl n o m), fun e z c dx F' H' g r => b e z c dx F' H' g (repErr_toCl n o r)⟩
theorem fn_clM {k : Nat} {f : Addr} {fd : FuncData} {ps : List Str} {Wf : DF} {c : String} (F : FnOk P w K mg base (L2.CX P w) k f fd ps (spM K cl c Wf)) (n : cl'.nm = cl.nm) (o : cl'.so = cl.so) : FnOk P w K mg base (L2.CX P w) k f fd ps (spM K cl' c Wf) :=
  F.imp fun vs H Q E ⟨x, dx, C, us, Hb, F0, ds, Q', E', e1, e2, e3, e4, e5, e6, e7, r, q, a, b⟩ => ⟨x, dx, C, us, Hb, F0, ds, Q', E', e1, by rw [← n]; exact e2, e3, e4, e5, e6, e7, r.toCl n.symm o.symm, q, fun d z F' H' g r => a d z F' H' g (r.toCl n o), b⟩
/-- THE RULE for an __init__ -/
theorem fn_okM {x qual : Str} {st : Stmt} {f : Addr} {fd : FuncData} {N ps : List Str} {k : Nat} {b : DS} {c : String} (F : Fun K x qual st f fd) (S : FnScope N ps (defScope st)) (hp : ps.length ≤ N.length)
    (hb : ∀ (me : Addr) (cdv : Value) (A : Around) (outer : List PySem.Env) (s : Shared) (H : Hp) (E : XK), Room k (A.deeper (envOfC qual (defScope st) s.heap.objs.size f cdv)) →
      ∃ t, VSs (cxOf (L2.CX P w) P w K mg base N qual (defScope st) f cdv A outer s H E) K { cl with me := some me } (fun c d _ H' => E c d H') (defBody st) t b) (hpn : cl.pin 0 = none := by rfl) :
    FnOk P w K mg base (L2.CX P w) (k + 1) f fd ps (spM K cl c (mkT c ps.length N.length b)) := by
  refine F.okX S (fun vs H Q E h => ?_) (fun cdv A outer s H vs Q E hr h => ?_)
  · obtain ⟨x, dx, C, us, Hb, F0, ds, Q', E', rfl, _, _, _, _, _, _, r, ⟨hl, _⟩, _⟩ := h
    rw [List.length_cons, r.length]
    exact hl
  · obtain ⟨x, dx, C, us, Hb, F0, ds, Q', E', rfl, hC, rfl, hx, hdx, ne, s0, r, ⟨hl, q⟩, hQ, hE⟩ := h
    obtain ⟨t, h⟩ := hb x cdv A outer s _ E hr
    refine ⟨t, h.pe, ?_⟩
    have hn : (V.non :: us).length ≤ N.length := by rw [List.length_cons, r.length, hl]; exact hp
    have r1 : Reps K { cl with me := some x } F0 (V.non :: us) (D.non :: ds) := .cons .non (Reps.toCl (cl := cl) (cl' := { cl with me := some x }) rfl rfl r)
    have h0 := start_hold s0 r1 hn
    have nx : x ≠ dx := fun z => ne z.symm
    have fdx : F0 dx = none := s0.free hdx
    have fx : F0 x = none := s0.free hx
    have g : Gr F0 Hb (upd F0 dx (.own x)) (upd (upd Hb dx (.own x)) x (.ins C dx [])) := by
      have a1 : (upd Hb dx (.own x)) x = none := by rw [upd_ne nx]; exact hx
      refine ⟨same_upd fdx, (same_upd hdx).trans (same_upd a1), (same_upd2 s0).trans (same_upd a1), fun p a b => ?_⟩
      by_cases hpd : p = dx
      · subst hpd; exact hdx
      · rw [upd_ne hpd] at a
        exact absurd b a
    have h1 := Hold.own (cl := { cl with me := some x }) (i := 0) (d := .ins c []) (a := x) hpn h0 g hx (by rw [upd_ne nx]; exact fx) ⟨[], ⟨C, dx, hC, upd_same, upd_same, rfl⟩, .nil⟩
    refine h.rf.ok F0 Hb _ _ _ _ (fun e _ => E' e) { nx := madeQ Q', rt := fun _ => False } { nx := fun _ H' => Q .non H', rt := Q } h1 (fun err ρ σ F' H' c dx h e re => (hE err e).elim)
      ⟨fun F' H' σ ρ h q => ?_, fun _ _ _ _ _ z => z.elim, fun _ _ _ _ _ z => z.elim, fun F' H' v d g r _ q => q.elim, fun _ _ _ _ _ _ _ _ z => z.elim⟩ q
    have q : madeQ Q' ρ := q
    unfold madeQ at q
    cases e : ρ[(0 : Nat)]? with
    | none => rw [e] at q; exact q.elim
    | some sl =>
      rw [e] at q
      cases sl with
      | no => exact q.elim
      | v d => exact q.elim
      | o d =>
        cases d with
        | ins c2 fs =>
          obtain ⟨a, ea, n0, nf, w⟩ := h.ownAt e
          obtain ⟨ws, ⟨C2, dx2, n2, z1, z2, z3⟩, z4⟩ := id w
          cases z3
          obtain ⟨F2, h2⟩ := h.frz 0
          have e2 : (DL.frz 0 ρ)[(0 : Nat)]? = some (.v (.ins c2 fs)) := by
            unfold DL.frz
            rw [e]
            exact List.getElem?_set_self (List.getElem?_eq_some_iff.mp e).1
          obtain ⟨v, ev, rv⟩ := h2.var e2
          rw [ea] at ev
          cases ev
          exact hQ _ q F2 H' h2.g (Rep.toCl (cl := { cl with me := some x }) (cl' := cl) rfl rfl rv)
        | _ => exact q.elim
end
section
variable {X : Cx} {K : Fg} {cl : Cl} {W : WX} {pos : Pos}
theorem pass_no : Passes (L2.CX X.prog X.w) X (fun _ _ _ => False) := fun _ _ _ _ _ _ _ h => by
  obtain ⟨_, _, _, _, _, _, _, _, _, _, _, _, z⟩ := h
  exact z.elim
theorem ve_fld {c : String} {f : Str} {e : Expr} {te : TE} {t : DT} (he : VE X K cl W e te t) (hC : ∀ C, cl.nm c = some C → L2.Cls K C ∧ NoAttr K C f) (hb : attributeBase e f X.env (eval e X.env) = eval e X.env := by rfl) : VE X K cl W (.Attribute e f pos) (tFld K te f) (dFld c f t) := by
  obtain rfl := he.hK
  exact ⟨pe_fld he.pe hb, rfe_fld hC he.rf, rfl⟩
theorem vs_fldO {i : Nat} {c : String} {f x : Str} {e : Expr} {te : TE} {t : DT} {p1 pos' : Pos} (he : VE X K cl W e te t) (hC : ∀ C, cl.nm c = some C → L2.Cls K C ∧ NoAttr K C f) (hN : X.N[i]? = some x := by rfl) (hv : Vis X.env.scope x := by first | exact Or.inl rfl | exact Or.inr (Or.inl rfl) | exact Or.inr (Or.inr rfl)) (hd : (x == ("__debug__" : Str)) = false := by decide)
    (hcd : (x == ("__classdict__" : Str)) = false := by decide) (hs : swapsWith e (some (.Attribute (.Name x p1) f pos')) pos.line X.env = pure false := by rfl) : VS X K cl W (.Assign [.Attribute (.Name x p1) f pos'] e pos) (sFld K (tVar i) te f) (sFldO c i f t) := by
  obtain rfl := he.hK
  exact ⟨ps_fld (pe_var hN hv hd hcd) he.pe hs, rfs_fldO hC he.rf, rfl⟩
theorem ve_meth {c : String} {C : Addr} {m : Str} {Wf : DF} {k : Nat} {f : Addr} {fd : FuncData} {ps : List Str} {o e : Expr} {es : List Expr} {to : TE} {t : TA} {d : DT} {q : DA} {apos : Pos} {pl : Sem Bool} (F : FnOk X.prog X.w X.K X.mg X.base (L2.CX X.prog X.w) k f fd ps (spD X.K cl Wf)) (hr : Room k X.A) (c1 : L2.Cls X.K C) (hm : Meth X.K C m f) (hb : Binds X.K fd ps []) (hC : cl.nm c = some C)
    (ho : VE X K cl W o to d) (ha : VA X K cl W (e :: es) t q) (hst : starEach (e :: es) X.env = (false, eval e X.env) :: starEach es X.env := by rfl) (hpl : (backTo pos (starEach es X.env)).any (·.1) = false := by rfl)
    (ht : eval (.Call (.Attribute o m apos) (e :: es) [] pos) X.env = (do
      let ov ← eval o X.env
      standAt apos.atName
      let (f, first) ← holding [ov] (getMethod ov m pl)
      callWith pos f first (backTo pos (starEach (e :: es) X.env)) (backToKw pos (keywordEach [] X.env))) := by rfl) :
    VE X K cl W (.Call (.Attribute o m apos) (e :: es) [] pos) (tMeth C m (spD K cl Wf) [] (fun _ _ _ => False) to t) (dMeth c m Wf d q) := by
  obtain rfl := ho.hK
  exact ⟨pe_meth ho.pe c1 hm F hr hb .nil pass_no ha.pe hst hpl ht, rfe_meth hC ho.rf ha.rf, rfl⟩
theorem ve_meth0 {c : String} {C : Addr} {m : Str} {Wf : DF} {k : Nat} {f : Addr} {fd : FuncData} {ps : List Str} {o : Expr} {to : TE} {d : DT} {apos : Pos} {pl : Sem Bool} (F : FnOk X.prog X.w X.K X.mg X.base (L2.CX X.prog X.w) k f fd ps (spD X.K cl Wf)) (hr : Room k X.A) (c1 : L2.Cls X.K C) (hm : Meth X.K C m f) (hb : Binds X.K fd ps []) (hC : cl.nm c = some C)
    (ho : VE X K cl W o to d)
    (ht : eval (.Call (.Attribute o m apos) [] [] pos) X.env = (do
      let ov ← eval o X.env
      standAt apos.atName
      let (f, first) ← holding [ov] (getMethod ov m pl)
      callWith pos f first (backTo pos (starEach [] X.env)) (backToKw pos (keywordEach [] X.env))) := by rfl) :
    VE X K cl W (.Call (.Attribute o m apos) [] [] pos) (tMeth C m (spD K cl Wf) [] (fun _ _ _ => False) to tNil) (dMeth c m Wf d aNil) := by
  obtain rfl := ho.hK
  exact ⟨pe_meth0 ho.pe c1 hm F hr hb .nil pass_no ht, rfe_meth hC ho.rf rfa_nil, rfl⟩
theorem ve_make {c : String} {C : Addr} {Wf : DF} {k : Nat} {f : Addr} {fd : FuncData} {ps : List Str} {x : Str} {p : Pos} {e : Expr} {es : List Expr} {t : TA} {q : DA} (F : FnOk X.prog X.w X.K X.mg X.base (L2.CX X.prog X.w) k f fd ps (spM X.K cl c Wf)) (hr : Room (k + 1) X.A) (M : Mk X.K C f) (hg : Gl X x) (hm : X.mg x = some (.ref C)) (hb : Binds X.K fd ps []) (hC : cl.nm c = some C)
    (ha : VA X K cl W (e :: es) t q) (hdb : (x == ("__debug__" : Str)) = false := by decide) (he : starEach (e :: es) X.env = (false, eval e X.env) :: starEach es X.env := by rfl) (hpl : (backTo pos (starEach es X.env)).any (·.1) = false := by rfl) :
    VE X K cl W (.Call (.Name x p) (e :: es) [] pos) (tMake C (spM K cl c Wf) [] (fun _ _ _ => False) t) (dMake Wf q) := by
  obtain rfl := ha.hK
  exact ⟨pe_make M F hr hg hm hb .nil pass_no ha.pe hdb he hpl, rfe_make hC ha.rf, rfl⟩
end
section
variable {P : Program} {w : World} {K : Fg} {cl : Cl} {mg : Str → Option Value} {base : Heap} {f : Addr} {fd : FuncData} {ps : List Str}
theorem fn_noneM {k : Nat} {c : String} : FnOk P w K mg base (L2.CX P w) k f fd ps (spM K cl c fun _ _ _ => False) := by
  have no : ∀ vs H Q E, ¬ spM K cl c (fun _ _ _ => False) vs H Q E := fun vs H Q E h => by
    obtain ⟨_, _, _, _, _, _, _, _, _, _, _, _, _, _, _, _, _, z, _⟩ := h
    exact z
  exact ⟨fun vs H Q E h => absurd h (no vs H Q E), fun A outer s H args us vs Q E _ _ _ _ h => absurd h (no vs H Q E)⟩
theorem fn_upN2 {G : Nat → DF} {N L : Nat} (h : ∀ n, FnOk P w K mg base (L2.CX P w) (L + 2 * n) f fd ps (spD K cl (G n))) : FnOk P w K mg base (L2.CX P w) (L + 2 * N) f fd ps (spD K cl (upN G N)) := by
  have go : ∀ vs H Q E, spD K cl (upN G N) vs H Q E → ∃ n, n ≤ N ∧ spD K cl (G n) vs H Q E := fun vs H Q E ⟨F, ds, Q', E', s, r, ⟨n, hn, q⟩, a, b⟩ => ⟨n, hn, F, ds, Q', E', s, r, q, a, b⟩
  refine ⟨fun vs H Q E hs => ?_, fun A outer s H args us vs Q E hr a b c hs => ?_⟩
  · obtain ⟨n, _, q⟩ := go _ _ _ _ hs
    exact (h n).len _ _ _ _ q
  · obtain ⟨n, hn, q⟩ := go _ _ _ _ hs
    exact (h n).run A outer s H args us vs Q E (hr.mono (by omega)) a b c q
theorem fn_upNM2 {c : String} {G : Nat → DF} {N L : Nat} (h : ∀ n, FnOk P w K mg base (L2.CX P w) (L + 2 * n) f fd ps (spM K cl c (G n))) : FnOk P w K mg base (L2.CX P w) (L + 2 * N) f fd ps (spM K cl c (upN G N)) := by
  have go : ∀ vs H Q E, spM K cl c (upN G N) vs H Q E → ∃ n, n ≤ N ∧ spM K cl c (G n) vs H Q E := fun vs H Q E ⟨x, dx, C, us, Hb, F, ds, Q', E', e1, e2, e3, e4, e5, e6, e7, r, ⟨n, hn, q⟩, a, b⟩ => ⟨n, hn, x, dx, C, us, Hb, F, ds, Q', E', e1, e2, e3, e4, e5, e6, e7, r, q, a, b⟩
  refine ⟨fun vs H Q E hs => ?_, fun A outer s H args us vs Q E hr a b c hs => ?_⟩
  · obtain ⟨n, _, q⟩ := go _ _ _ _ hs
    exact (h n).len _ _ _ _ q
  · obtain ⟨n, hn, q⟩ := go _ _ _ _ hs
    exact (h n).run A outer s H args us vs Q E (hr.mono (by omega)) a b c q
theorem le_add2 {j L n : Nat} (h : j ≤ L) : j ≤ L + n + 1 := Nat.le_trans h (Nat.le_trans (Nat.le_add_right L n) (Nat.le_succ _))
end
end DL

/-! DDraw: the drawing state of the laws as one steady object. -/
namespace DL
open PySem L2 PyProof.Rows
/-- the same things are tracked, some told otherwise -/
structure Sm (H H1 : Hp) : Prop where
  dom : ∀ b, H b = none ↔ H1 b = none
  tups : ∀ b xs, H b = some (.tup xs) → H1 b = some (.tup xs)
  frzs : ∀ b o u, H b = some (.frz o u) → H1 b = some (.frz o u)
  tbls : ∀ b ps, H b = some (.tbl ps) → H1 b = some (.tbl ps)
theorem Sm.refl (H : Hp) : Sm H H := ⟨fun _ => Iff.rfl, fun _ _ h => h, fun _ _ _ h => h, fun _ _ h => h⟩
theorem Sm.upd {H : Hp} {a : Addr} {o u : HO} (h : H a = some o) (n1 : ∀ xs, o ≠ .tup xs) (n2 : ∀ x y, o ≠ .frz x y) (n3 : ∀ ps, o ≠ .tbl ps) : Sm H (L2.upd H a u) := by
  have go : ∀ b v, H b = some v → o ≠ v → L2.upd H a u b = some v := fun b v e ne => by
    have hb : b ≠ a := fun z => by
      subst z
      rw [h] at e
      exact ne (Option.some.inj e)
    rw [upd_ne hb]
    exact e
  refine ⟨fun b => ?_, fun b xs e => go b _ e (n1 xs), fun b x y e => go b _ e (n2 x y), fun b ps e => go b _ e (n3 ps)⟩
  by_cases hb : b = a
  · subst hb
    rw [upd_same, h]
    simp
  · rw [upd_ne hb]
section
variable {P : Program} {w : World} {K : PySem.W.Frag} {mg : Str → Option Value} {base : Heap}
theorem fn_view {k : Nat} {f : Addr} {fd : FuncData} {ps : List Str} {sp sp' : Sp} (F : FnOk P w K mg base (L2.CX P w) k f fd ps sp')
    (hl : ∀ vs H Q E, sp vs H Q E → vs.length = ps.length)
    (hsp : ∀ vs H Q E, sp vs H Q E → ∀ h, HOk P w H h → ∃ H1, Sm H H1 ∧ HOk P w H1 h ∧ sp' vs H1 (fun v H2 => ∃ H3, Sm H2 H3 ∧ (∀ h, HOk P w H2 h → HOk P w H3 h) ∧ Q v H3) (fun _ _ _ => False)) :
    FnOk P w K mg base (L2.CX P w) k f fd ps sp := by
  refine ⟨hl, fun A outer s H args us vs Q E hr he hb hv h => ?_⟩
  obtain ⟨H1, sm, hok, q⟩ := hsp vs H Q E h s.heap he.hok
  have he1 : Env0 P w K mg base A outer s H1 := ⟨he.frames, he.mod, fun b o e => ⟨(he.bs b o e).1, (sm.dom b).mp (he.bs b o e).2⟩, he.bsz, he.funs, fun b hb => (sm.dom b).mp (he.frf b hb), hok, he.bare⟩
  refine codeAny_mono (F.run A outer s H1 args us vs _ _ hr he1 hb hv q) fun r s' hq => ?_
  cases r with
  | error e =>
    obtain ⟨_, _, _, _, _, _, _, _, _, _, _, _, z⟩ := hq
    exact z.elim
  | ok fl =>
    cases fl with
    | ret u =>
      obtain ⟨v, H2, os, bare, un, hok2, rv, H3, sm3, ok3, qq⟩ := hq
      refine ⟨v, H3, os, bare, ⟨fun b o e n hb hx => un.keep b o e ((sm.dom b).mp n) hb hx, fun b o e n hb hx => un.slot b o e ((sm.dom b).mp n) hb hx, fun b o e n hx => (sm3.dom b).mp (un.free b o e ((sm.dom b).mp n) hx), un.there, fun b xs e => sm3.tups _ _ (un.tups b xs (sm.tups _ _ e)), fun b o u e => sm3.frzs _ _ _ (un.frzs b o u (sm.frzs _ _ _ e)), fun b ps e => ?_⟩, ok3 _ hok2, rv, qq⟩
      obtain ⟨more, z⟩ := un.tbls b ps (sm.tbls _ _ e)
      exact ⟨more, sm3.tbls _ _ z⟩
    | next => exact False.elim hq
    | brk => exact False.elim hq
    | cont => exact False.elim hq
end
/-! ### the state's dict -/
def kCells : L2.Key := Sum.inr ("cells" : Str)
def kAt : L2.Key := Sum.inr ("at" : Str)
def kLeft : L2.Key := Sum.inr ("left" : Str)
def kMix : L2.Key := Sum.inr ("mix" : Str)
def stKV (c : Addr) (i l m : Int) : List (L2.Key × V) := [(kCells, .ref c), (kAt, .int i), (kLeft, .int l), (kMix, .int m)]
theorem st_ne : ((("cells" : Str) ≠ "at" ∧ ("cells" : Str) ≠ "left" ∧ ("cells" : Str) ≠ "mix") ∧ (("at" : Str) ≠ "cells" ∧ ("at" : Str) ≠ "left" ∧ ("at" : Str) ≠ "mix")) ∧
    ((("left" : Str) ≠ "cells" ∧ ("left" : Str) ≠ "at" ∧ ("left" : Str) ≠ "mix") ∧ (("mix" : Str) ≠ "cells" ∧ ("mix" : Str) ≠ "at" ∧ ("mix" : Str) ≠ "left")) := by decide +kernel
theorem key_ne {a b : Str} (h : a ≠ b) : (Sum.inr a : L2.Key) ≠ Sum.inr b := fun z => h (Sum.inr.inj z)
theorem st_cells (c : Addr) (i l m : Int) : valV (stKV c i l m) (Sum.inr ("cells" : Str)) = some (.ref c) := by
  simp [valV, stKV, kCells]
theorem st_at (c : Addr) (i l m : Int) : valV (stKV c i l m) (Sum.inr ("at" : Str)) = some (.int i) := by
  obtain ⟨⟨⟨a1, a2, a3⟩, ⟨b1, b2, b3⟩⟩, ⟨⟨c1, c2, c3⟩, ⟨d1, d2, d3⟩⟩⟩ := st_ne
  simp [valV, stKV, kCells, kAt, key_ne a1]
theorem st_left (c : Addr) (i l m : Int) : valV (stKV c i l m) (Sum.inr ("left" : Str)) = some (.int l) := by
  obtain ⟨⟨⟨a1, a2, a3⟩, ⟨b1, b2, b3⟩⟩, ⟨⟨c1, c2, c3⟩, ⟨d1, d2, d3⟩⟩⟩ := st_ne
  simp [valV, stKV, kCells, kAt, kLeft, key_ne a2, key_ne b2]
theorem st_mix (c : Addr) (i l m : Int) : valV (stKV c i l m) (Sum.inr ("mix" : Str)) = some (.int m) := by
  obtain ⟨⟨⟨a1, a2, a3⟩, ⟨b1, b2, b3⟩⟩, ⟨⟨c1, c2, c3⟩, ⟨d1, d2, d3⟩⟩⟩ := st_ne
  simp [valV, stKV, kCells, kAt, kLeft, kMix, key_ne a3, key_ne b3, key_ne c3]
theorem st_put_at (c : Addr) (i l m j : Int) : putK (stKV c i l m) (Sum.inr ("at" : Str)) (.int j) = stKV c j l m := by
  obtain ⟨⟨⟨a1, a2, a3⟩, ⟨b1, b2, b3⟩⟩, ⟨⟨c1, c2, c3⟩, ⟨d1, d2, d3⟩⟩⟩ := st_ne
  simp [putK, stKV, kCells, kAt, kLeft, kMix, a1, c2, d2]
theorem st_put_left (c : Addr) (i l m j : Int) : putK (stKV c i l m) (Sum.inr ("left" : Str)) (.int j) = stKV c i j m := by
  obtain ⟨⟨⟨a1, a2, a3⟩, ⟨b1, b2, b3⟩⟩, ⟨⟨c1, c2, c3⟩, ⟨d1, d2, d3⟩⟩⟩ := st_ne
  simp [putK, stKV, kCells, kAt, kLeft, kMix, a2, b2, d3]
theorem st_put_mix (c : Addr) (i l m j : Int) : putK (stKV c i l m) (Sum.inr ("mix" : Str)) (.int j) = stKV c i l j := by
  obtain ⟨⟨⟨a1, a2, a3⟩, ⟨b1, b2, b3⟩⟩, ⟨⟨c1, c2, c3⟩, ⟨d1, d2, d3⟩⟩⟩ := st_ne
  simp [putK, stKV, kCells, kAt, kLeft, kMix, a3, b3, c3]
/-- what holds of the numbers -/
def StOk (n : Nat) (i l m : Int) : Prop := 0 ≤ i ∧ i ≤ n ∧ 0 ≤ l ∧ 0 ≤ m ∧ m < 2147483647
def stPhi (P : Program) (w : World) (a c : Addr) (n : Nat) : Heap → Prop := fun h => ∃ i l m, StOk n i l m ∧ ObjOk P w (fun _ => none) h a (.dK (stKV c i l m))
def stO0 (P : Program) (w : World) (a c : Addr) (n : Nat) : HO := .ext (stPhi P w a c n)
def stO (P : Program) (w : World) : Bool × (Addr → Addr → Nat → HO) := (true, stO0 P w)
theorem dk_any {P : Program} {w : World} {H H' : Hp} {h : Heap} {a : Addr} {kvs : List (L2.Key × V)} (x : ObjOk P w H h a (.dK kvs)) : ObjOk P w H' h a (.dK kvs) := x
theorem hok_upd {P : Program} {w : World} {H : Hp} {h : Heap} {a : Addr} {o u : HO} (ok : HOk P w H h) (e : H a = some o) (n1 : ∀ x, o ≠ .own x) (n2 : ∀ xs, o ≠ .tup xs) (new : ObjOk P w (upd H a u) h a u) : HOk P w (upd H a u) h := fun b v q => by
  by_cases hb : b = a
  · subst hb
    rw [upd_same] at q
    cases q
    exact new
  · rw [upd_ne hb] at q
    have ne : ∀ c y, H c = some y → o ≠ y → upd H a u c = some y := fun c y z k => by
      have hc : c ≠ a := fun z' => by
        subst z'
        rw [e] at z
        exact k (Option.some.inj z)
      rw [upd_ne hc]
      exact z
    exact (ok b v q).stay (fun _ _ _ x => x) (fun c z => ne c _ z (n1 b)) fun c xs z => ne c _ z (n2 xs)
theorem st_open {P : Program} {w : World} {H : Hp} {h : Heap} {a c : Addr} {n : Nat} (ok : HOk P w H h) (e : H a = some (stO0 P w a c n)) : ∃ i l m, StOk n i l m ∧ HOk P w (upd H a (.dK (stKV c i l m))) h := by
  obtain ⟨⟨i, l, m, hs, d⟩, _, _⟩ := ok a _ e
  exact ⟨i, l, m, hs, hok_upd ok e (fun _ z => by cases z) (fun _ z => by cases z) d⟩
theorem st_close {P : Program} {w : World} {H : Hp} {h : Heap} {a c : Addr} {n : Nat} {i l m : Int} (hs : StOk n i l m) (ok : HOk P w H h) (e : H a = some (.dK (stKV c i l m))) : HOk P w (upd H a (stO0 P w a c n)) h := by
  have d := ok a _ e
  refine hok_upd ok e (fun _ z => by cases z) (fun _ z => by cases z) ⟨⟨i, l, m, hs, d⟩, ?_, fun h1 h2 ⟨i, l, m, hs, d⟩ k => ⟨i, l, m, hs, ?_⟩⟩
  · obtain ⟨_, _, vs, _, ob, es, ep, e2, _⟩ := d
    exact ⟨ob, e2⟩
  · exact d.stay (fun b u hb q => by
      rcases hb with rfl | z
      · exact k _ q
      · cases z) (fun _ z => by cases z) (fun _ _ z => by cases z)
end DL
namespace DL
open PySem L2 PyProof.Rows
section
variable {H : Hp} {a c : Addr} {i l m : Int}
theorem sg_cells (e : H a = some (.dK (stKV c i l m))) : DGet H a (.str ("cells" : Str)) (some (.ref c)) := by
  have := DGet.k (k := (Sum.inr ("cells" : Str) : L2.Key)) e
  rwa [st_cells] at this
theorem sg_at (e : H a = some (.dK (stKV c i l m))) : DGet H a (.str ("at" : Str)) (some (.int i)) := by
  have := DGet.k (k := (Sum.inr ("at" : Str) : L2.Key)) e
  rwa [st_at] at this
theorem sg_left (e : H a = some (.dK (stKV c i l m))) : DGet H a (.str ("left" : Str)) (some (.int l)) := by
  have := DGet.k (k := (Sum.inr ("left" : Str) : L2.Key)) e
  rwa [st_left] at this
theorem sg_mix (e : H a = some (.dK (stKV c i l m))) : DGet H a (.str ("mix" : Str)) (some (.int m)) := by
  have := DGet.k (k := (Sum.inr ("mix" : Str) : L2.Key)) e
  rwa [st_mix] at this
theorem st_small : (stKV c i l m).length < sizeLine := small1000 (show 4 ≤ 1000 by decide)
theorem sp_at (j : Int) (e : H a = some (.dK (stKV c i l m))) : DPut H a (.str ("at" : Str)) (.int j) (upd H a (.dK (stKV c j l m))) := by
  have := DPut.k (k := (Sum.inr ("at" : Str) : L2.Key)) (v := .int j) e st_small
  rwa [st_put_at] at this
theorem sp_left (j : Int) (e : H a = some (.dK (stKV c i l m))) : DPut H a (.str ("left" : Str)) (.int j) (upd H a (.dK (stKV c i j m))) := by
  have := DPut.k (k := (Sum.inr ("left" : Str) : L2.Key)) (v := .int j) e st_small
  rwa [st_put_left] at this
theorem sp_mix (j : Int) (e : H a = some (.dK (stKV c i l m))) : DPut H a (.str ("mix" : Str)) (.int j) (upd H a (.dK (stKV c i l j))) := by
  have := DPut.k (k := (Sum.inr ("mix" : Str) : L2.Key)) (v := .int j) e st_small
  rwa [st_put_mix] at this
end
/-- the draw's promise over the dict -/
def spDraw : Sp := fun vs H Q _ => ∃ (a c : Addr) (ns : List Int) (i l m b : Int), vs = [.ref a, .int b] ∧ H a = some (.dK (stKV c i l m)) ∧ H c = some (.lst (ns.map V.int)) ∧ (∀ x ∈ ns, 0 ≤ x) ∧ StOk ns.length i l m ∧ 0 < b ∧ b.natAbs.log2 < 9000 ∧
  ∀ r i' l' m', 0 ≤ r → r < b → StOk ns.length i' l' m' → Q (.int r) (upd H a (.dK (stKV c i' l' m')))
theorem mod_mix (z : Int) : 0 ≤ z % 2147483647 ∧ z % 2147483647 < 2147483647 := ⟨Int.emod_nonneg _ (by decide), Int.emod_lt_of_pos _ (by decide)⟩
theorem small_mix {m : Int} (h0 : 0 ≤ m) (h : m < 2147483647) : -(2 ^ 64) < m ∧ m < 2 ^ 64 := ⟨by omega, by omega⟩
theorem emod_in {z b : Int} (h : 0 < b) : 0 ≤ z % b ∧ z % b < b := ⟨Int.emod_nonneg _ (by omega), Int.emod_lt_of_pos _ h⟩
/-- over the steady object -/
theorem draw_view {P : Program} {w : World} {K : Fg} {cl : Cl} {mg : Str → Option Value} {base : Heap} {k : Nat} {f : Addr} {fd : FuncData} (hso : cl.so = stO P w) (F : FnOk P w K mg base (L2.CX P w) k f fd ["state", "bound"] spDraw) :
    FnOk P w K mg base (L2.CX P w) k f fd ["state", "bound"] (spD K cl wDraw) := by
  refine fn_view F (fun vs H Q E h => ?_) (fun vs H Q E h hp ok => ?_)
  · obtain ⟨F0, ds, Q', E', _, r, q, _⟩ := h
    match ds, q with
    | [.st, .int b], q => rw [r.length]; rfl
  · obtain ⟨F0, ds, Q', E', s0, r, q, hQ, hE⟩ := h
    match ds, q, r with
    | [.st, .int b], ⟨hb, hb2, q⟩, .cons (.st (a := a) (c := c) (ns := ns) e1 e2 e3) (.cons (.int _) .nil) =>
      rw [hso] at e1 e2
      have e1 : F0 a = some (stO0 P w a c ns.length) := e1
      have e2 : F0 c = some (.lst (ns.map V.int)) := e2 rfl
      have e1' := s0 _ _ e1
      have e2' := s0 _ _ e2
      have nac : c ≠ a := fun z => by
        subst z
        rw [e1'] at e2'
        cases e2'
      obtain ⟨i, l, m, hs, ok1⟩ := st_open ok e1'
      have sm : Sm H (upd H a (.dK (stKV c i l m))) := Sm.upd e1' (fun _ z => by cases z) (fun _ _ z => by cases z) (fun _ z => by cases z)
      refine ⟨_, sm, ok1, a, c, ns, i, l, m, b, rfl, upd_same, by rw [upd_ne nac]; exact e2', e3, hs, hb, hb2, fun r i' l' m' h0 h1 hs' => ?_⟩
      refine ⟨H, ?_, fun h ok2 => ?_, hQ _ (q r h0 h1) _ F0 H (Gr.refl s0) (.int _)⟩
      · rw [upd_upd]
        have z := Sm.upd (H := upd H a (.dK (stKV c i' l' m'))) (a := a) (u := stO0 P w a c ns.length) upd_same (fun _ z => by cases z) (fun _ _ z => by cases z) (fun _ z => by cases z)
        rw [upd_upd] at z
        have e : upd H a (stO0 P w a c ns.length) = H := by
          funext p
          by_cases hp : p = a
          · subst hp
            rw [upd_same, e1']
          · rw [upd_ne hp]
        rwa [e] at z
      · rw [upd_upd] at ok2
        have z := st_close hs' ok2 upd_same
        rw [upd_upd] at z
        have e : upd H a (stO0 P w a c ns.length) = H := by
          funext p
          by_cases hp : p = a
          · subst hp
            rw [upd_same, e1']
          · rw [upd_ne hp]
        rwa [e] at z
/-- the start's promise over the dict -/
def spStart (K : Fg) : Sp := fun vs H Q _ => ∃ (a : Addr) (ns : List Int), vs = [.ref a] ∧ SqL K H a (ns.map V.int) ∧ ns.length ≤ 63 ∧
  ∀ (p c : Addr) (ns' : List Int) (m : Int) (H' : Hp), Same H H' → H p = none → H c = none → ns'.length = ns.length → (∀ x ∈ ns', 0 ≤ x) → 0 ≤ m → m < 2147483647 → H' c = some (.lst (ns'.map V.int)) → H' p = some (.dK (stKV c 0 0 m)) → Q (.ref p) H'
theorem start_view {P : Program} {w : World} {K : Fg} {cl : Cl} {mg : Str → Option Value} {base : Heap} {k : Nat} {f : Addr} {fd : FuncData} (hso : cl.so = stO P w) (F : FnOk P w K mg base (L2.CX P w) k f fd ["script"] (spStart K)) :
    FnOk P w K mg base (L2.CX P w) k f fd ["script"] (spD K cl wStart) := by
  refine fn_view F (fun vs H Q E h => ?_) (fun vs H Q E h hp ok => ?_)
  · obtain ⟨F0, ds, Q', E', _, r, q, _⟩ := h
    match ds, q with
    | [.scr ns], q => rw [r.length]; rfl
  · obtain ⟨F0, ds, Q', E', s0, r, q, hQ, hE⟩ := h
    match ds, q, r with
    | [.scr ns], ⟨hn, q⟩, .cons (.scr (a := a) e) .nil =>
      refine ⟨H, Sm.refl H, ok, a, ns, rfl, s0.seq e, hn, fun p c ns' m H' sm np nc hl hx h0 h1 ec ep => ?_⟩
      have ncp : c ≠ p := fun z => by
        subst z
        rw [ec] at ep
        cases ep
      refine ⟨upd H' p (stO0 P w p c ns'.length), Sm.upd ep (fun _ z => by cases z) (fun _ _ z => by cases z) (fun _ z => by cases z), fun h ok2 => st_close ⟨by omega, by omega, by omega, h0, h1⟩ ok2 ep, ?_⟩
      have s1 : Same F0 H' := s0.trans sm
      have e1 : (upd H' p (stO0 P w p c ns'.length)) p = some (stO0 P w p c ns'.length) := upd_same
      have fp : F0 p = none := s0.free np
      have fc : F0 c = none := s0.free nc
      refine hQ _ q _ (upd (upd F0 c (.lst (ns'.map V.int))) p (stO0 P w p c ns'.length)) _ ⟨fun b u z => ?_, fun b u z => ?_, fun b u z => ?_, fun b z1 z2 => ?_⟩ (.st (c := c) (ns := ns') (by rw [hso]; exact upd_same) (fun _ => by rw [upd_ne ncp, upd_same]) hx)
      · rw [upd_ne (ne_of_none z fp), upd_ne (ne_of_none z fc)]
        exact z
      · rw [upd_ne (ne_of_none z np)]
        exact sm b u z
      · by_cases hb : b = p
        · subst hb
          rw [upd_same] at z ⊢
          exact z
        · rw [upd_ne hb] at z ⊢
          by_cases hb2 : b = c
          · subst hb2
            rw [upd_same] at z
            rw [ec]
            exact z
          · rw [upd_ne hb2] at z
            exact s1 b u z
      · by_cases hb : b = p
        · subst hb; exact np
        · rw [upd_ne hb] at z1
          by_cases hb2 : b = c
          · subst hb2; exact nc
          · rw [upd_ne hb2] at z1
            exact absurd z2 z1

/-- the second part of a block once, for all ways that come to it -/
theorem seq_elim {t u : TS} {D : Ends} {σ : L2.St} {H : Hp} (C : L2.St → Hp → Prop) (h2 : ∀ σ2 H2, C σ2 H2 → u D σ2 H2) (h1 : (∀ σ2 H2, C σ2 H2 → u D σ2 H2) → t { D with nx := u D } σ H) : tSeq t u D σ H := h1 h2
theorem up_self {H : Hp} {a : Addr} {o : HO} (h : H a = some o) : upd H a o = H := by
  funext p
  by_cases hp : p = a
  · subst hp
    rw [upd_same, h]
  · rw [upd_ne hp]
theorem at_ns {ns : List Int} {i : Int} (h0 : 0 ≤ i) (h1 : i < ns.length) : ∃ x, x ∈ ns ∧ atI (ns.map V.int) i = some (.int x) := by
  have hl : i.toNat < ns.length := by omega
  refine ⟨ns[i.toNat], List.getElem_mem _, ?_⟩
  have := atI_nat (xs := ns.map V.int) (j := i.toNat) (v := .int ns[i.toNat]) (by rw [List.getElem?_map, List.getElem?_eq_getElem hl]; rfl)
  rwa [Int.toNat_of_nonneg h0] at this

theorem sqT_frag {K : Fg} {a : Addr} {xs : List V} {dd : Option Addr} {sl : Array (Option Value)} {its : Array Value} {n : Nat} (h : K.lookup a = some ⟨.type "tuple", dd, .seq its n, sl⟩) (hs : its.size ≤ sizeLine) (hv : Vals xs its.toList) (H : Hp) : SqT K H a xs := .inr ⟨_, its, n, h, rfl, rfl, hs, hv⟩
theorem fn_none {P : Program} {w : World} {K : Fg} {cl : Cl} {mg : Str → Option Value} {base : Heap} {k : Nat} {f : Addr} {fd : FuncData} {ps : List Str} : FnOk P w K mg base (L2.CX P w) k f fd ps (spD K cl fun _ _ _ => False) := by
  have no : ∀ vs H Q E, ¬ spD K cl (fun _ _ _ => False) vs H Q E := fun vs H Q E h => by
    obtain ⟨_, _, _, _, _, _, z, _⟩ := h
    exact z
  exact ⟨fun vs H Q E h => absurd h (no vs H Q E), fun A outer s H args us vs Q E _ _ _ _ h => absurd h (no vs H Q E)⟩
theorem fn_upN {P : Program} {w : World} {K : Fg} {cl : Cl} {mg : Str → Option Value} {base : Heap} {f : Addr} {fd : FuncData} {ps : List Str} {G : Nat → DF} {N L : Nat} (h : ∀ n, FnOk P w K mg base (L2.CX P w) (L + n) f fd ps (spD K cl (G n))) :
    FnOk P w K mg base (L2.CX P w) (L + N) f fd ps (spD K cl (upN G N)) := by
  have go : ∀ vs H Q E, spD K cl (upN G N) vs H Q E → ∃ n, n ≤ N ∧ spD K cl (G n) vs H Q E := fun vs H Q E ⟨F, ds, Q', E', s, r, ⟨n, hn, q⟩, a, b⟩ => ⟨n, hn, F, ds, Q', E', s, r, q, a, b⟩
  refine ⟨fun vs H Q E hs => ?_, fun A outer s H args us vs Q E hr a b c hs => ?_⟩
  · obtain ⟨n, _, q⟩ := go _ _ _ _ hs
    exact (h n).len _ _ _ _ q
  · obtain ⟨n, hn, q⟩ := go _ _ _ _ hs
    exact (h n).run A outer s H args us vs Q E (hr.mono (Nat.add_le_add_left hn L)) a b c q
theorem le_add {j L n : Nat} (h : j ≤ L) : j ≤ L + n := Nat.le_trans h (Nat.le_add_right L n)
theorem hu65 {A : Around} {k : Nat} (hr : Room k A) : A.units + 65 < cLine := by
  have := hr.un
  omega
/-- what a law promises -/
def spLaw (K : Fg) : Sp := fun vs H Q _ => ∃ (a : Addr) (ns : List Int), vs = [.ref a] ∧ SqL K H a (ns.map V.int) ∧ ns.length ≤ 63 ∧ ∀ H', Q (.bl true) H'
theorem law_ok {P : Program} {w : World} {K : Fg} {cl : Cl} {mg : Str → Option Value} {base : Heap} {k : Nat} {f : Addr} {fd : FuncData} {W : DF} (F : FnOk P w K mg base (L2.CX P w) k f fd ["script"] (spD K cl W)) (h : ∀ ns : List Int, ns.length ≤ 63 → W [.scr ns] (fun d => d = .bl true) fun _ => False) :
    FnOk P w K mg base (L2.CX P w) k f fd ["script"] (spLaw K) :=
  F.imp fun vs H Q E ⟨a, ns, e, hS, hl, q⟩ => ⟨H, [.scr ns], _, _, Same.refl H, by rw [e]; exact .cons (.scr hS) .nil, h ns hl, fun d z v F' H' g r => by
    subst z
    cases r
    exact q H', fun _ z => z.elim⟩
theorem walkD {l : PySem.W.OpenLaw} {k : Nat} {q : Program} {loose : List Str} {XP : (Str → Option Value) → Heap → Prop} {YP : World → Heap → Prop} {d : DefRec} {K : Params → PySem.W.Frag}
    (hn : l.most = some 63) (hdf : d.params.defaults = []) (hr : Room k callerA) (hY : ∀ (w : World) (h : Heap), YP w h → (K w.params).In h)
    (F : ∀ (w : World) (mg : Str → Option Value) (fa : Addr) (h : Heap), (K w.params).In h → h.Ns mainGlobals mg → mg d.name = some (.ref fa) →
      ∃ fd : FuncData, (∀ (s : Shared) (u : Value), BindsTo s fd ⟨[u], []⟩ [("script", u)]) ∧
        ∀ base : Heap, (K w.params).In base → base.Ns mainGlobals mg → FnOk l.prog w (K w.params) mg base (L2.CX l.prog w) k fa fd ["script"] (spLaw (K w.params))) :
    PySem.W.WalkO q loose XP YP l.row.toRowW d [] (fun f vs => PySem.call f vs) :=
  L2.walk_of (n := 63) (k := k) (x := "script") (CX := fun w => L2.CX l.prog w) (sp := fun w => spLaw (K w.params)) hn (by decide) hdf hr hY F (fun _ _ a ns hl _ hS => ⟨a, ns, rfl, hS, hl, fun _ => rfl⟩) fun _ _ _ _ _ z => by
    obtain ⟨_, _, _, _, _, _, _, _, _, _, _, _, z⟩ := z
    exact z
end DL

/-! DVc: how a transformer is proved. Plain Lean. -/
namespace DL
open PySem
@[simp] theorem envOf_eq (n : Nat) (ds : List D) : envOf n ds = ds.map Sl.v ++ List.replicate (n - ds.length) .no := rfl
@[simp] theorem fgt_nil (ρ : Env) : fgt [] ρ = ρ := rfl
@[simp] theorem fgt_cons (j : Nat) (js : List Nat) (ρ : Env) : fgt (j :: js) ρ = fgt js (ρ.set j .no) := rfl
@[simp] theorem wipe_nil (ρ : Env) : wipeE ρ [] = ρ := rfl
@[simp] theorem wipe_cons (j : Nat) (js : List Nat) (ρ : Env) : wipeE ρ (j :: js) = wipeE (ρ.set j .no) js := rfl
@[simp] theorem xown_nil : noOwn [] = [] := rfl
@[simp] theorem xown_v (d : D) (ρ : Env) : noOwn (.v d :: ρ) = .v d :: noOwn ρ := rfl
@[simp] theorem xown_o (d : D) (ρ : Env) : noOwn (.o d :: ρ) = .no :: noOwn ρ := rfl
@[simp] theorem xown_no (ρ : Env) : noOwn (.no :: ρ) = .no :: noOwn ρ := rfl
/-- of a slot that nothing is known of -/
def own1 (s : Sl) : Sl := match s with
  | .v d => .v d
  | _ => .no
@[simp low] theorem xown_any (s : Sl) (ρ : DL.Env) : noOwn (s :: ρ) = own1 s :: noOwn ρ := by cases s <;> rfl
def bor1 (s : Sl) : Sl := match s with
  | .o d => .v d
  | s => s
@[simp low] theorem xbor_any (s : Sl) (ρ : DL.Env) : bor (s :: ρ) = bor1 s :: bor ρ := by cases s <;> rfl
@[simp] theorem xbor_nil : bor [] = [] := rfl
@[simp] theorem xbor_v (d : D) (ρ : Env) : bor (.v d :: ρ) = .v d :: bor ρ := rfl
@[simp] theorem xbor_o (d : D) (ρ : Env) : bor (.o d :: ρ) = .v d :: bor ρ := rfl
@[simp] theorem xbor_no (ρ : Env) : bor (.no :: ρ) = .no :: bor ρ := rfl
@[simp] theorem bor1_o {d : D} : bor1 (.o d) = .v d := rfl
@[simp] theorem bor1_v {d : D} : bor1 (.v d) = .v d := rfl
@[simp] theorem bor1_no : bor1 .no = .no := rfl
@[simp] theorem own1_o {d : D} : own1 (.o d) = .no := rfl
@[simp] theorem own1_v {d : D} : own1 (.v d) = .v d := rfl
@[simp] theorem own1_no : own1 .no = .no := rfl
/-! what a place holds -/
def gV (o : Option Sl) (Q : DK) : Prop := match o with
  | some (.v d) => Q d
  | _ => False
@[simp] theorem gV_v {d : D} {Q : DK} : gV (some (.v d)) Q ↔ Q d := ⟨fun h => h, fun h => h⟩
@[simp] theorem gOL_o {d : List D} {Q : List D → Prop} : gOL (some (.o (.lst d))) Q ↔ Q d := ⟨fun h => h, fun h => h⟩
def gFrz (o : Option Sl) (i : Nat) (ρ : DL.Env) (Q : DL.Env → Prop) : Prop := match o with
  | some (.o d) => Q (ρ.set i (.v d))
  | _ => Q ρ
@[simp] theorem gFrz_o {d : D} {i : Nat} {ρ : DL.Env} {Q : DL.Env → Prop} : gFrz (some (.o d)) i ρ Q ↔ Q (ρ.set i (.v d)) := ⟨fun h => h, fun h => h⟩
@[simp] theorem gFrz_v {d : D} {i : Nat} {ρ : DL.Env} {Q : DL.Env → Prop} : gFrz (some (.v d)) i ρ Q ↔ Q ρ := ⟨fun h => h, fun h => h⟩
@[simp] theorem gFrz_no {i : Nat} {ρ : DL.Env} {Q : DL.Env → Prop} : gFrz (some .no) i ρ Q ↔ Q ρ := ⟨fun h => h, fun h => h⟩
def gB (d : D) (Q : Bool → Prop) : Prop := match d with
  | .bl b => Q b
  | _ => False
@[simp] theorem gB_b {b : Bool} {Q : Bool → Prop} : gB (.bl b) Q ↔ Q b := ⟨fun h => h, fun h => h⟩
@[simp] theorem gI_i {b : Int} {Q : Int → Prop} : gI (.int b) Q ↔ Q b := ⟨fun h => h, fun h => h⟩
def gSeq (d : D) (Q : List D → Prop) : Prop := match d with
  | .lst xs => Q xs
  | .tup xs => Q xs
  | .str z => Q (z.cps.toList.map fun c => .str ⟨#[c]⟩)
  | _ => False
@[simp] theorem gSeq_l {xs : List D} {Q : List D → Prop} : gSeq (.lst xs) Q ↔ Q xs := ⟨fun h => h, fun h => h⟩
@[simp] theorem gSeq_t {xs : List D} {Q : List D → Prop} : gSeq (.tup xs) Q ↔ Q xs := ⟨fun h => h, fun h => h⟩
def gRng1 (xs : List D) (Q : List D → Prop) : Prop := match xs with
  | [.int j] => -(2 ^ 62) ≤ j ∧ j < 2 ^ 62 ∧ Q (rng 0 j.toNat)
  | _ => False
@[simp] theorem gRng1_i {j : Int} {Q : List D → Prop} : gRng1 [.int j] Q ↔ -4611686018427387904 ≤ j ∧ j < 4611686018427387904 ∧ Q (rng 0 j.toNat) := ⟨fun h => h, fun h => h⟩
def gRng2 (xs : List D) (Q : List D → Prop) : Prop := match xs with
  | [.int i, .int j] => (-(2 ^ 62) ≤ i ∧ i < 2 ^ 62 ∧ -(2 ^ 62) ≤ j ∧ j < 2 ^ 62) ∧ Q (rng i (j - i).toNat)
  | _ => False
@[simp] theorem gRng2_i {i j : Int} {Q : List D → Prop} : gRng2 [.int i, .int j] Q ↔ (-4611686018427387904 ≤ i ∧ i < 4611686018427387904 ∧ -4611686018427387904 ≤ j ∧ j < 4611686018427387904) ∧ Q (rng i (j - i).toNat) := ⟨fun h => h, fun h => h⟩
def g2 (xs : List D) (Q : D → D → Prop) : Prop := match xs with
  | [x, y] => Q x y
  | _ => False
@[simp] theorem g2_2 {x y : D} {Q : D → D → Prop} : g2 [x, y] Q ↔ Q x y := ⟨fun h => h, fun h => h⟩
def gEnum (xs : List D) (Q : List D → Prop) : Prop := match xs with
  | [.lst xs] => Q (enumD xs)
  | _ => False
@[simp] theorem gEnum_l {xs : List D} {Q : List D → Prop} : gEnum [.lst xs] Q ↔ Q (enumD xs) := ⟨fun h => h, fun h => h⟩
def gZip (xs : List D) (Q : List D → Prop) : Prop := match xs with
  | [.lst xs, .lst ys] => Q (zipD xs ys)
  | [.tup xs, .tup ys] => Q (zipD xs ys)
  | _ => False
@[simp] theorem gZip_l {xs ys : List D} {Q : List D → Prop} : gZip [.lst xs, .lst ys] Q ↔ Q (zipD xs ys) := ⟨fun h => h, fun h => h⟩
@[simp] theorem gZip_t {xs ys : List D} {Q : List D → Prop} : gZip [.tup xs, .tup ys] Q ↔ Q (zipD xs ys) := ⟨fun h => h, fun h => h⟩
def gRev (x : D) (Q : List D → Prop) : Prop := match x with
  | .lst xs => Q xs.reverse
  | .tup xs => Q xs.reverse
  | _ => False
@[simp] theorem gRev_l {xs : List D} {Q : List D → Prop} : gRev (.lst xs) Q ↔ Q xs.reverse := ⟨fun h => h, fun h => h⟩
@[simp] theorem gRev_t {xs : List D} {Q : List D → Prop} : gRev (.tup xs) Q ↔ Q xs.reverse := ⟨fun h => h, fun h => h⟩
@[simp] theorem w_ienum {a : DA} {E : EK} {ρ : DL.Env} {Q : List D → Prop} : DL.iEnum a E ρ Q ↔ a E ρ fun xs => gEnum xs Q := ⟨fun h => h, fun h => h⟩
@[simp] theorem w_izip {a : DA} {E : EK} {ρ : DL.Env} {Q : List D → Prop} : DL.iZip a E ρ Q ↔ a E ρ fun xs => gZip xs Q := ⟨fun h => h, fun h => h⟩
@[simp] theorem w_irev {a : DT} {E : EK} {ρ : DL.Env} {Q : List D → Prop} : DL.iRev a E ρ Q ↔ a E ρ fun x => gRev x Q := ⟨fun h => h, fun h => h⟩
def gIns (c : String) (x : D) (Q : List (Str × D) → Prop) : Prop := match x with
  | .ins c' fs => c' = c ∧ Q fs
  | _ => False
@[simp] theorem gIns_i {c : String} {fs : List (Str × D)} {Q : List (Str × D) → Prop} : gIns c (.ins c fs) Q ↔ Q fs := ⟨fun h => h.2, fun h => ⟨rfl, h⟩⟩
def gOI (c : String) (o : Option Sl) (Q : List (Str × D) → Prop) : Prop := match o with
  | some (.o (.ins c' fs)) => c' = c ∧ Q fs
  | _ => False
@[simp] theorem gOI_i {c : String} {fs : List (Str × D)} {Q : List (Str × D) → Prop} : gOI c (some (.o (.ins c fs))) Q ↔ Q fs := ⟨fun h => h.2, fun h => ⟨rfl, h⟩⟩
@[simp] theorem w_fld {c : String} {f : Str} {a : DT} {E : EK} {ρ : DL.Env} {Q : DK} : dFld c f a E ρ Q ↔ a E ρ fun x => gIns c x fun fs => oGet (fs.lookup f) Q := ⟨fun h => h, fun h => h⟩
@[simp] theorem w_fldO {c : String} {i : Nat} {f : Str} {a : DT} {E : EK} {K : DE} {ρ : DL.Env} : sFldO c i f a E K ρ ↔ gOI c ρ[i]? fun fs => a E ρ fun v => fs.length < 1000 ∧ K.nx (ρ.set i (.o (.ins c (putFD f v fs)))) := by
  unfold sFldO gOI
  cases ρ[i]? with
  | none => exact Iff.rfl
  | some s => cases s with
    | o d => cases d <;> exact Iff.rfl
    | _ => exact Iff.rfl
@[simp] theorem w_make {W : DF} {r : DA} {E : EK} {ρ : DL.Env} {Q : DK} : dMake W r E ρ Q ↔ r E ρ fun xs => up W xs Q fun _ => False := ⟨fun h => h, fun h => h⟩
@[simp] theorem w_made {c : String} {fs : List (Str × D)} {ρ : DL.Env} {Q : DK} : madeQ Q (.o (.ins c fs) :: ρ) ↔ Q (.ins c fs) := ⟨fun h => h, fun h => h⟩
@[simp] theorem gO_o {d : D} {Q : DK} : gO (some (.o d)) Q ↔ Q d := ⟨fun h => h, fun h => h⟩
@[simp] theorem w_retO {i : Nat} {E : EK} {K : DE} {ρ : DL.Env} : sRetO i E K ρ ↔ gO ρ[i]? K.rt := ⟨fun h => h, fun h => h⟩
@[simp] theorem gOD_o {d : List (Key × D)} {Q : List (Key × D) → Prop} : gOD (some (.o (.dk d))) Q ↔ Q d := ⟨fun h => h, fun h => h⟩
@[simp] theorem gK_i {b : Int} {Q : Key → Prop} : gK (.int b) Q ↔ Q (.inl b) := ⟨fun h => h, fun h => h⟩
@[simp] theorem gK_s {b : Str} {Q : Key → Prop} : gK (.str b) Q ↔ Q (.inr b) := ⟨fun h => h, fun h => h⟩
@[simp] theorem gSm_s {α : Type} {b : α} {Q : α → Prop} : gSm (some b) Q ↔ Q b := ⟨fun h => h, fun h => h⟩
@[simp] theorem gDk_d {d : List (Key × D)} {Q : List (Key × D) → Prop} : gDk (.dk d) Q ↔ Q d := ⟨fun h => h, fun h => h⟩
@[simp] theorem w_lop {f : List D → List D → (List D → Prop) → Prop} {i : Nat} {a : DA} {E : EK} {K : DE} {ρ : DL.Env} : sLop f i a E K ρ ↔ gOL ρ[i]? fun xs => a E ρ fun ys => f xs ys fun zs => K.nx (ρ.set i (.o (.lst zs))) := ⟨fun h => h, fun h => h⟩
@[simp] theorem w_ext {xs zs : List D} {Q : List D → Prop} : lExt xs [.lst zs] Q ↔ xs.length + zs.length ≤ lineMax ∧ Q (xs ++ zs) := ⟨fun h => h, fun h => h⟩
@[simp] theorem w_ins {xs : List D} {k : Int} {y : D} {Q : List D → Prop} : lIns xs [.int k, y] Q ↔ (xs.length < lineMax ∧ 0 ≤ k ∧ k < 9223372036854775808) ∧ Q (xs.take k.toNat ++ [y] ++ xs.drop k.toNat) := ⟨fun h => h, fun h => h⟩
@[simp] theorem w_rev {xs : List D} {Q : List D → Prop} : lRev xs [] Q ↔ Q xs.reverse := ⟨fun h => h.2, fun h => ⟨rfl, h⟩⟩
@[simp] theorem w_clr {xs : List D} {Q : List D → Prop} : lClr xs [] Q ↔ Q [] := ⟨fun h => h.2, fun h => ⟨rfl, h⟩⟩
@[simp] theorem w_pop0 {xs : List D} {Q : D → List D → Prop} : lPop xs [] Q ↔ gSm xs[xs.length - 1]? fun y => Q y xs.dropLast := ⟨fun h => h, fun h => h⟩
@[simp] theorem w_pop1 {xs : List D} {k : Int} {Q : D → List D → Prop} : lPop xs [.int k] Q ↔ (-9223372036854775808 ≤ k ∧ k < 9223372036854775808) ∧ gSm (ixN xs.length k) fun j => gSm xs[j]? fun y => Q y (xs.eraseIdx j) := ⟨fun h => h, fun h => h⟩
@[simp] theorem w_pop {i : Nat} {a : DA} {E : EK} {K : DE} {ρ : DL.Env} : sPop i a E K ρ ↔ gOL ρ[i]? fun xs => a E ρ fun ys => lPop xs ys fun _ zs => K.nx (ρ.set i (.o (.lst zs))) := ⟨fun h => h, fun h => h⟩
@[simp] theorem w_popTo {i j : Nat} {a : DA} {E : EK} {K : DE} {ρ : DL.Env} : sPopTo i j a E K ρ ↔ gOL ρ[i]? fun xs => a E ρ fun ys => lPop xs ys fun y zs => K.nx ((ρ.set i (.o (.lst zs))).set j (.v y)) := ⟨fun h => h, fun h => h⟩
@[simp] theorem w_popApp {i : Nat} {a : DA} {E : EK} {K : DE} {ρ : DL.Env} : sPopApp i a E K ρ ↔ gOL ρ[i]? fun xs => a E ρ fun ys => lPop xs ys fun y zs => zs.length < lineMax ∧ K.nx (ρ.set i (.o (.lst (zs ++ [y])))) := ⟨fun h => h, fun h => h⟩
@[simp] theorem w_setIx {i : Nat} {a b : DT} {E : EK} {K : DE} {ρ : DL.Env} : sSetIx i a b E K ρ ↔ gOL ρ[i]? fun xs => b E ρ fun v => a E ρ fun k => gI k fun k => gSm (ixN xs.length k) fun j => K.nx (ρ.set i (.o (.lst (xs.set j v)))) := ⟨fun h => h, fun h => h⟩
@[simp] theorem w_augIx {f : D → D → DK → Prop} {i : Nat} {a b : DT} {E : EK} {K : DE} {ρ : DL.Env} : sAugIx f i a b E K ρ ↔ gOL ρ[i]? fun xs => a E ρ fun k => gI k fun k => gSm (ixN xs.length k) fun j => gSm xs[j]? fun x => b E ρ fun y => f x y fun z => K.nx (ρ.set i (.o (.lst (xs.set j z)))) := ⟨fun h => h, fun h => h⟩
@[simp] theorem w_newK {E : EK} {ρ : DL.Env} {Q : DK} : dNewK E ρ Q ↔ Q (.dk []) := ⟨fun h => h, fun h => h⟩
@[simp] theorem w_putK {i : Nat} {a b : DT} {E : EK} {K : DE} {ρ : DL.Env} : sPutK i a b E K ρ ↔ gOD ρ[i]? fun kvs => b E ρ fun v => a E ρ fun k => gK k fun k => kvs.length < 1000000 ∧ K.nx (ρ.set i (.o (.dk (putD kvs k v)))) := ⟨fun h => h, fun h => h⟩
@[simp] theorem w_ixK {i : Nat} {a : DT} {E : EK} {ρ : DL.Env} {Q : DK} : dIxK i a E ρ Q ↔ gOD ρ[i]? fun kvs => a E ρ fun k => gK k fun k => oGet (lookD kvs k) Q := ⟨fun h => h, fun h => h⟩
@[simp] theorem w_getK1 {a b : DT} {E : EK} {ρ : DL.Env} {Q : DK} : dGetK1 a b E ρ Q ↔ a E ρ fun x => gDk x fun kvs => b E ρ fun k => gK k fun k => Q ((lookD kvs k).getD .non) := ⟨fun h => h, fun h => h⟩
@[simp] theorem w_getK2 {a b c : DT} {E : EK} {ρ : DL.Env} {Q : DK} : dGetK2 a b c E ρ Q ↔ a E ρ fun x => gDk x fun kvs => b E ρ fun k => c E ρ fun z => gK k fun k => Q ((lookD kvs k).getD z) := ⟨fun h => h, fun h => h⟩
@[simp] theorem w_pnil {E : EK} {ρ : DL.Env} {Q : List (D × D) → Prop} : pNil E ρ Q ↔ Q [] := ⟨fun h => h, fun h => h⟩
@[simp] theorem w_pcons {a b : DT} {r : DPs} {E : EK} {ρ : DL.Env} {Q : List (D × D) → Prop} : pCons a b r E ρ Q ↔ a E ρ fun x => b E ρ fun y => r E ρ fun ps => Q ((x, y) :: ps) := ⟨fun h => h, fun h => h⟩
@[simp] theorem w_disp {a : DPs} {E : EK} {ρ : DL.Env} {Q : DK} : dDisp a E ρ Q ↔ a E ρ fun ps => gSm (keyV ps) fun kvs => ps.length ≤ 15 ∧ Q (.dk (mergeD kvs)) := ⟨fun h => h, fun h => h⟩
@[simp] theorem keyV_nil : keyV [] = some [] := rfl
@[simp] theorem keyV_i {i : Int} {v : D} {r : List (D × D)} : keyV ((.int i, v) :: r) = (keyV r).map fun kvs => (.inl i, v) :: kvs := by
  simp only [keyV, keyOf]
  cases keyV r <;> rfl
@[simp] theorem keyV_s {i : Str} {v : D} {r : List (D × D)} : keyV ((.str i, v) :: r) = (keyV r).map fun kvs => (.inr i, v) :: kvs := by
  simp only [keyV, keyOf]
  cases keyV r <;> rfl
/-! the transformers, one by one -/
@[simp] theorem w_var {i : Nat} {Q : DK} {E : EK} {ρ : DL.Env} : dVar i E ρ Q ↔ gV ρ[i]? Q := ⟨fun h => h, fun h => h⟩
@[simp] theorem w_c {d : D} {Q : DK} {E : EK} {ρ : DL.Env} : dC d E ρ Q ↔ Q d := ⟨fun h => h, fun h => h⟩
@[simp] theorem w_op {f : D → D → DK → Prop} {a b : DT} {Q : DK} {E : EK} {ρ : DL.Env} : dOp f a b E ρ Q ↔ a E ρ fun x => b E ρ fun y => f x y Q := ⟨fun h => h, fun h => h⟩
@[simp] theorem w_un {f : D → DK → Prop} {a : DT} {Q : DK} {E : EK} {ρ : DL.Env} : dUn f a E ρ Q ↔ a E ρ fun x => f x Q := ⟨fun h => h, fun h => h⟩
@[simp] theorem w_chain {f g : D → D → DK → Prop} {a b c : DT} {Q : DK} {E : EK} {ρ : DL.Env} : dChain f g a b c E ρ Q ↔ a E ρ fun x => b E ρ fun y => f x y fun z => gB z fun k => if k = true then c E ρ fun u => g y u Q else Q (.bl false) := ⟨fun h => h, fun h => h⟩
@[simp] theorem w_anil {Q : List D → Prop} {E : EK} {ρ : DL.Env} : aNil E ρ Q ↔ Q [] := ⟨fun h => h, fun h => h⟩
@[simp] theorem w_acons {a : DT} {r : DA} {Q : List D → Prop} {E : EK} {ρ : DL.Env} : aCons a r E ρ Q ↔ a E ρ fun x => r E ρ fun xs => Q (x :: xs) := ⟨fun h => h, fun h => h⟩
@[simp] theorem w_tup {a : DA} {Q : DK} {E : EK} {ρ : DL.Env} : dTup a E ρ Q ↔ a E ρ fun xs => xs.length ≤ lineMax ∧ Q (.tup xs) := ⟨fun h => h, fun h => h⟩
@[simp] theorem w_lst {a : DA} {Q : DK} {E : EK} {ρ : DL.Env} : dLst a E ρ Q ↔ a E ρ fun xs => xs.length ≤ lineMax ∧ Q (.lst xs) := ⟨fun h => h, fun h => h⟩
@[simp] theorem w_call {W : DF} {a : DA} {Q : DK} {E : EK} {ρ : DL.Env} : dCall W a E ρ Q ↔ a E ρ fun xs => up W xs Q fun e => E e ρ := ⟨fun h => h, fun h => h⟩
@[simp] theorem w_blt {f : List D → DK → Prop} {a : DA} {Q : DK} {E : EK} {ρ : DL.Env} : dBlt f a E ρ Q ↔ a E ρ fun xs => f xs Q := ⟨fun h => h, fun h => h⟩
@[simp] theorem w_T {a : DT} {Q : Bool → Prop} {E : EK} {ρ : DL.Env} : bT a E ρ Q ↔ a E ρ fun x => gB x Q := ⟨fun h => h, fun h => h⟩
@[simp] theorem w_truth {a : DT} {Q : Bool → Prop} {E : EK} {ρ : DL.Env} : bTruth a E ρ Q ↔ a E ρ fun x => truthD x Q := ⟨fun h => h, fun h => h⟩
@[simp] theorem w_and {a b : DB} {Q : Bool → Prop} {E : EK} {ρ : DL.Env} : bAnd a b E ρ Q ↔ a E ρ fun c => if c = true then b E ρ Q else Q false := ⟨fun h => h, fun h => h⟩
@[simp] theorem w_or {a b : DB} {Q : Bool → Prop} {E : EK} {ρ : DL.Env} : bOr a b E ρ Q ↔ a E ρ fun c => if c = true then Q true else b E ρ Q := ⟨fun h => h, fun h => h⟩
@[simp] theorem w_not {a : DB} {Q : Bool → Prop} {E : EK} {ρ : DL.Env} : bNot a E ρ Q ↔ a E ρ fun c => Q (!c) := ⟨fun h => h, fun h => h⟩
@[simp] theorem w_andV {a b : DT} {Q : DK} {E : EK} {ρ : DL.Env} : dAndV a b E ρ Q ↔ a E ρ fun x => gB x fun c => if c = true then b E ρ Q else Q (.bl false) := ⟨fun h => h, fun h => h⟩
@[simp] theorem w_orV {a b : DT} {Q : DK} {E : EK} {ρ : DL.Env} : dOrV a b E ρ Q ↔ a E ρ fun x => gB x fun c => if c = true then Q (.bl true) else b E ρ Q := ⟨fun h => h, fun h => h⟩
@[simp] theorem w_notV {a : DT} {Q : DK} {E : EK} {ρ : DL.Env} : dNotV a E ρ Q ↔ a E ρ fun x => gB x fun c => Q (.bl (!c)) := ⟨fun h => h, fun h => h⟩
@[simp] theorem w_if {c : DB} {a b : DT} {Q : DK} {E : EK} {ρ : DL.Env} : dIf c a b E ρ Q ↔ c E ρ fun k => if k = true then a E ρ Q else b E ρ Q := ⟨fun h => h, fun h => h⟩
@[simp] theorem w_oN {Q : Option Int → Prop} {E : EK} {ρ : DL.Env} : oN E ρ Q ↔ Q none := ⟨fun h => h, fun h => h⟩
@[simp] theorem w_oS {a : DT} {Q : Option Int → Prop} {E : EK} {ρ : DL.Env} : oS a E ρ Q ↔ a E ρ fun x => gI x fun i => Q (some i) := ⟨fun h => h, fun h => h⟩
@[simp] theorem w_slice {a : DT} {lo hi : DO} {Q : DK} {E : EK} {ρ : DL.Env} : dSlice a lo hi E ρ Q ↔ a E ρ fun x => lo E ρ fun l => hi E ρ fun h => oCut x l h Q := ⟨fun h => h, fun h => h⟩
@[simp] theorem w_iseq {a : DT} {Q : List D → Prop} {E : EK} {ρ : DL.Env} : iSeq a E ρ Q ↔ a E ρ fun x => gSeq x Q := ⟨fun h => h, fun h => h⟩
@[simp] theorem w_rng1 {a : DA} {Q : List D → Prop} {E : EK} {ρ : DL.Env} : iRng1 a E ρ Q ↔ a E ρ fun xs => gRng1 xs Q := ⟨fun h => h, fun h => h⟩
@[simp] theorem w_rng2 {a : DA} {Q : List D → Prop} {E : EK} {ρ : DL.Env} : iRng2 a E ρ Q ↔ a E ρ fun xs => gRng2 xs Q := ⟨fun h => h, fun h => h⟩
@[simp] theorem w_gname {i : Nat} {d : D} {ρ : DL.Env} {Q : DL.Env → Prop} : gName i d ρ Q ↔ Q (ρ.set i (.v d)) := ⟨fun h => h, fun h => h⟩
@[simp] theorem w_gnil {ρ : DL.Env} {Q : DL.Env → Prop} : gNil [] ρ Q ↔ Q ρ := ⟨fun h => h.2, fun h => ⟨rfl, h⟩⟩
@[simp] theorem w_gcons {g : DG} {r : DGs} {x : D} {xs : List D} {ρ : DL.Env} {Q : DL.Env → Prop} : gCons g r (x :: xs) ρ Q ↔ g x ρ fun ρ' => r xs ρ' Q := ⟨fun h => h, fun h => h⟩
@[simp] theorem w_gtup {g : DGs} {xs : List D} {ρ : DL.Env} {Q : DL.Env → Prop} : gTup g (.tup xs) ρ Q ↔ g xs ρ Q := ⟨fun h => h, fun h => h⟩
@[simp] theorem w_gtupL {g : DGs} {xs : List D} {ρ : DL.Env} {Q : DL.Env → Prop} : gTup g (.lst xs) ρ Q ↔ g xs ρ Q := ⟨fun h => h, fun h => h⟩
@[simp] theorem w_next {E : EK} {K : DE} {ρ : DL.Env} : sNext E K ρ ↔ K.nx ρ := ⟨fun h => h, fun h => h⟩
@[simp] theorem w_seq {a b : DS} {E : EK} {K : DE} {ρ : DL.Env} : sSeq a b E K ρ ↔ a E { K with nx := b E K } ρ := ⟨fun h => h, fun h => h⟩
@[simp] theorem w_brk {E : EK} {K : DE} {ρ : DL.Env} : sBreak E K ρ ↔ K.bk ρ := ⟨fun h => h, fun h => h⟩
@[simp] theorem w_cnt {E : EK} {K : DE} {ρ : DL.Env} : sCont E K ρ ↔ K.ct ρ := ⟨fun h => h, fun h => h⟩
@[simp] theorem w_drop {a : DT} {E : EK} {K : DE} {ρ : DL.Env} : sDrop a E K ρ ↔ a E ρ fun _ => K.nx ρ := ⟨fun h => h, fun h => h⟩
@[simp] theorem w_ret {a : DT} {E : EK} {K : DE} {ρ : DL.Env} : sRet a E K ρ ↔ a E ρ K.rt := ⟨fun h => h, fun h => h⟩
@[simp] theorem w_retN {E : EK} {K : DE} {ρ : DL.Env} : sRetN E K ρ ↔ K.rt .non := ⟨fun h => h, fun h => h⟩
@[simp] theorem w_ifs {c : DB} {a b : DS} {E : EK} {K : DE} {ρ : DL.Env} : sIf c a b E K ρ ↔ c E ρ fun k => if k = true then a E K ρ else b E K ρ := ⟨fun h => h, fun h => h⟩
@[simp] theorem w_asg {a : DT} {g : DG} {E : EK} {K : DE} {ρ : DL.Env} : sAsg a g E K ρ ↔ a E ρ fun x => g x ρ K.nx := ⟨fun h => h, fun h => h⟩
@[simp] theorem w_set {i : Nat} {a : DT} {E : EK} {K : DE} {ρ : DL.Env} : sSet i a E K ρ ↔ a E ρ fun x => K.nx (ρ.set i (.v x)) := ⟨fun h => h, fun h => h⟩
@[simp] theorem w_own {i : Nat} {a : DT} {E : EK} {K : DE} {ρ : DL.Env} : sOwn i a E K ρ ↔ a E ρ fun x => K.nx (ρ.set i (.o x)) := ⟨fun h => h, fun h => h⟩
@[simp] theorem w_frz {i : Nat} {a : DS} {E : EK} {K : DE} {ρ : DL.Env} : sFrz i a E K ρ ↔ gFrz ρ[i]? i ρ fun ρ => a E K ρ := by
  show a E K (frz i ρ) ↔ _
  unfold frz gFrz
  cases ρ[i]? with
  | none => exact Iff.rfl
  | some s => cases s <;> exact Iff.rfl
@[simp] theorem w_fgt {js : List Nat} {a : DS} {E : EK} {K : DE} {ρ : DL.Env} : sFgt js a E K ρ ↔ a E K (fgt js ρ) := ⟨fun h => h, fun h => h⟩
@[simp] theorem w_par {i j : Nat} {a : DA} {E : EK} {K : DE} {ρ : DL.Env} : sPar i j a E K ρ ↔ a E ρ fun xs => g2 xs fun x y => K.nx ((ρ.set i (.v x)).set j (.v y)) := ⟨fun h => h, fun h => h⟩
@[simp] theorem w_aug {i : Nat} {f : D → D → DK → Prop} {a : DT} {E : EK} {K : DE} {ρ : DL.Env} : sAug i f a E K ρ ↔ gV ρ[i]? fun x => a E ρ fun y => f x y fun z => K.nx (ρ.set i (.v z)) := ⟨fun h => h, fun h => h⟩
@[simp] theorem w_app {i : Nat} {a : DT} {E : EK} {K : DE} {ρ : DL.Env} : sApp i a E K ρ ↔ gOL ρ[i]? fun xs => a E ρ fun x => xs.length < lineMax ∧ K.nx (ρ.set i (.o (.lst (xs ++ [x])))) := ⟨fun h => h, fun h => h⟩
@[simp] theorem w_for {it : DI} {g : DG} {b : DS} {E : EK} {K : DE} {ρ : DL.Env} : sFor it g b E K ρ ↔ it E ρ fun xs => forL g b E K xs ρ := ⟨fun h => h, fun h => h⟩
@[simp] theorem w_while {c : DB} {b : DS} {E : EK} {K : DE} {ρ : DL.Env} : sWhile c b E K ρ ↔ ∃ n, whileN c b E K n ρ := ⟨fun h => h, fun h => h⟩
@[simp] theorem w_lc {it : DI} {g : DG} {t : DB} {e : DT} {vs : List Nat} {Q : DK} {E : EK} {ρ : DL.Env} : dLc it g t e vs E ρ Q ↔ it E ρ fun xs => lcL g t e (noOwn (wipeE ρ vs)) xs [] fun r => Q (.lst r) := ⟨fun h => h, fun h => h⟩
@[simp] theorem w_yes {Q : Bool → Prop} {E : EK} {ρ : DL.Env} : bYes E ρ Q ↔ Q true := ⟨fun h => h, fun h => h⟩
@[simp] theorem w_isi {c : String} {a : DT} {Q : DK} {E : EK} {ρ : DL.Env} : dIsi c a E ρ Q ↔ a E ρ fun d => tyName d ≠ "" ∧ Q (.bl (isTy c d)) := ⟨fun h => h, fun h => h⟩
@[simp] theorem w_dbor {a : DT} {Q : DK} {E : EK} {ρ : DL.Env} : dBor a E ρ Q ↔ a noE (bor ρ) fun d => isFlat d = true ∧ Q d := ⟨fun h => h, fun h => h⟩
@[simp] theorem w_bbor {a : DB} {Q : Bool → Prop} {E : EK} {ρ : DL.Env} : bBor a E ρ Q ↔ a noE (bor ρ) Q := ⟨fun h => h, fun h => h⟩
@[simp] theorem w_ixO {i : Nat} {a : DT} {Q : DK} {E : EK} {ρ : DL.Env} : dIxO i a E ρ Q ↔ gOL ρ[i]? fun xs => a E ρ fun y => gI y fun k => oGet (atI xs k) Q := ⟨fun h => h, fun h => h⟩
@[simp] theorem w_addI {i j : Int} {Q : DK} : oAdd (.int i) (.int j) Q ↔ Q (.int (i + j)) := ⟨fun h => h, fun h => h⟩
@[simp] theorem w_addS {a b : Str} {Q : DK} : oAdd (.str a) (.str b) Q ↔ a.length + b.length ≤ lineMax ∧ Q (.str (a ++ b)) := ⟨fun h => h, fun h => h⟩
@[simp] theorem w_addL {a b : List D} {Q : DK} : oAdd (.lst a) (.lst b) Q ↔ a.length + b.length ≤ lineMax ∧ Q (.lst (a ++ b)) := ⟨fun h => h, fun h => h⟩
@[simp] theorem w_addT {a b : List D} {Q : DK} : oAdd (.tup a) (.tup b) Q ↔ a.length + b.length ≤ lineMax ∧ Q (.tup (a ++ b)) := ⟨fun h => h, fun h => h⟩
@[simp] theorem w_sub {i j : Int} {Q : DK} : oSub (.int i) (.int j) Q ↔ Q (.int (i - j)) := ⟨fun h => h, fun h => h⟩
@[simp] theorem w_mul {i j : Int} {Q : DK} : oMul (.int i) (.int j) Q ↔ mulOk i j ∧ Q (.int (i * j)) := ⟨fun h => h, fun h => h⟩
@[simp] theorem w_mulT {a : List D} {k : Int} {Q : DK} : oMul (.tup a) (.int k) Q ↔ -(2 ^ 63) ≤ k ∧ k ≤ 1000 ∧ a.length ≤ 1000 ∧ Q (.tup (List.replicate k.toNat a).flatten) := ⟨fun h => h, fun h => h⟩
@[simp] theorem w_mulL {a : List D} {k : Int} {Q : DK} : oMul (.lst a) (.int k) Q ↔ -(2 ^ 63) ≤ k ∧ k < 2 ^ 63 ∧ a.length * k.toNat ≤ lineMax ∧ Q (.lst (List.replicate k.toNat a).flatten) := ⟨fun h => h, fun h => h⟩
@[simp] theorem w_div {i j : Int} {Q : DK} : oDiv (.int i) (.int j) Q ↔ divOk j ∧ Q (.int (i / j)) := ⟨fun h => h, fun h => h⟩
@[simp] theorem w_mod {i j : Int} {Q : DK} : oMod (.int i) (.int j) Q ↔ 0 < j ∧ Q (.int (i % j)) := ⟨fun h => h, fun h => h⟩
@[simp] theorem w_pow {i j : Int} {Q : DK} : oPow (.int i) (.int j) Q ↔ (0 ≤ j ∧ j ≤ 1000000 ∧ i.natAbs < 2 ^ 64) ∧ Q (.int (i ^ j.toNat)) := ⟨fun h => h, fun h => h⟩
@[simp] theorem w_neg {i : Int} {Q : DK} : oNeg (.int i) Q ↔ Q (.int (-i)) := ⟨fun h => h, fun h => h⟩
@[simp] theorem w_eq {x y : D} {Q : DK} : oEq x y Q ↔ okD 60 x = true ∧ okD 60 y = true ∧ Q (.bl (eqD x y)) := ⟨fun h => h, fun h => h⟩
@[simp] theorem w_ne {x y : D} {Q : DK} : oNe x y Q ↔ okD 60 x = true ∧ okD 60 y = true ∧ Q (.bl (!eqD x y)) := ⟨fun h => h, fun h => h⟩
@[simp] theorem w_lt {i j : Int} {Q : DK} : oLt (.int i) (.int j) Q ↔ Q (.bl (decide (i < j))) := ⟨fun h => h, fun h => h⟩
@[simp] theorem w_le {i j : Int} {Q : DK} : oLe (.int i) (.int j) Q ↔ Q (.bl (decide (i ≤ j))) := ⟨fun h => h, fun h => h⟩
@[simp] theorem w_gt {i j : Int} {Q : DK} : oGt (.int i) (.int j) Q ↔ Q (.bl (decide (j < i))) := ⟨fun h => h, fun h => h⟩
@[simp] theorem w_ge {i j : Int} {Q : DK} : oGe (.int i) (.int j) Q ↔ Q (.bl (decide (j ≤ i))) := ⟨fun h => h, fun h => h⟩
@[simp] theorem w_is {x y : D} {Q : DK} : oIs x y Q ↔ isNon y = true ∧ Q (.bl (isNon x)) := ⟨fun h => h, fun h => h⟩
@[simp] theorem w_isnot {x y : D} {Q : DK} : oIsNot x y Q ↔ isNon y = true ∧ Q (.bl (!isNon x)) := ⟨fun h => h, fun h => h⟩
@[simp] theorem w_addAI {i j : Int} {Q : DK} : oAddI (.int i) (.int j) Q ↔ Q (.int (i + j)) := ⟨fun h => h, fun h => h⟩
@[simp] theorem w_inL {x : D} {xs : List D} {Q : DK} : oIn x (.lst xs) Q ↔ okD 60 x = true ∧ okDs 59 xs = true ∧ Q (.bl (inD x xs)) := ⟨fun h => h, fun h => h⟩
@[simp] theorem w_inT {x : D} {xs : List D} {Q : DK} : oIn x (.tup xs) Q ↔ ((isFlat x = true ∧ xs.all isFlat = true) ∨ (okD 60 x = true ∧ okDs 59 xs = true)) ∧ Q (.bl (inD x xs)) := ⟨fun h => h, fun h => h⟩
@[simp] theorem w_notIn {x y : D} {Q : DK} : oNotIn x y Q ↔ oIn x y fun d => gB d fun b => Q (.bl (!b)) := ⟨fun h => h, fun h => h⟩
@[simp] theorem w_get {d : D} {Q : DK} : oGet (some d) Q ↔ Q d := ⟨fun h => h, fun h => h⟩
@[simp] theorem w_ixL {xs : List D} {i : Int} {Q : DK} : oIx (.lst xs) (.int i) Q ↔ oGet (atI xs i) Q := ⟨fun h => h, fun h => h⟩
@[simp] theorem w_ixT {xs : List D} {i : Int} {Q : DK} : oIx (.tup xs) (.int i) Q ↔ oGet (atI xs i) Q := ⟨fun h => h, fun h => h⟩
@[simp] theorem w_cutL {xs : List D} {lo hi : Option Int} {Q : DK} : oCut (.lst xs) lo hi Q ↔ Q (.lst (cutL xs lo hi)) := ⟨fun h => h, fun h => h⟩
@[simp] theorem w_cutT {xs : List D} {lo hi : Option Int} {Q : DK} : oCut (.tup xs) lo hi Q ↔ Q (.tup (cutL xs lo hi)) := ⟨fun h => h, fun h => h⟩
@[simp] theorem w_lenL {xs : List D} {Q : DK} : fLen [.lst xs] Q ↔ Q (.int xs.length) := ⟨fun h => h, fun h => h⟩
@[simp] theorem w_lenT {xs : List D} {Q : DK} : fLen [.tup xs] Q ↔ Q (.int xs.length) := ⟨fun h => h, fun h => h⟩
@[simp] theorem w_lenS {xs : List Int} {Q : DK} : fLen [.scr xs] Q ↔ Q (.int xs.length) := ⟨fun h => h, fun h => h⟩
@[simp] theorem w_lenK {xs : List (Key × D)} {Q : DK} : fLen [.dk xs] Q ↔ Q (.int xs.length) := ⟨fun h => h, fun h => h⟩
@[simp] theorem w_abs {i : Int} {Q : DK} : fAbs [.int i] Q ↔ Q (.int (if i < 0 then -i else i)) := ⟨fun h => h, fun h => h⟩
@[simp] theorem w_gcd {i j : Int} {Q : DK} : fGcd [.int i, .int j] Q ↔ Q (.int ((Nat.gcd i.natAbs j.natAbs : Nat) : Int)) := ⟨fun h => h, fun h => h⟩
@[simp] theorem w_min2 {i j : Int} {Q : DK} : fMin [.int i, .int j] Q ↔ Q (.int (if j < i then j else i)) := ⟨fun h => h, fun h => h⟩
@[simp] theorem w_max2 {i j : Int} {Q : DK} : fMax [.int i, .int j] Q ↔ Q (.int (if j > i then j else i)) := ⟨fun h => h, fun h => h⟩
@[simp] theorem w_listL {l : List D} {Q : DK} : fList [.lst l] Q ↔ Q (.lst l) := ⟨fun h => h, fun h => h⟩
@[simp] theorem w_listT {l : List D} {Q : DK} : fList [.tup l] Q ↔ Q (.lst l) := ⟨fun h => h, fun h => h⟩
@[simp] theorem w_tupleL {l : List D} {Q : DK} : fTuple [.lst l] Q ↔ Q (.tup l) := ⟨fun h => h, fun h => h⟩
@[simp] theorem w_tupleT {l : List D} {Q : DK} : fTuple [.tup l] Q ↔ Q (.tup l) := ⟨fun h => h, fun h => h⟩
@[simp] theorem w_int {i : Int} {Q : DK} : fInt [.int i] Q ↔ Q (.int i) := ⟨fun h => h, fun h => h⟩
@[simp] theorem w_intB {b : Bool} {Q : DK} : fInt [.bl b] Q ↔ Q (.int (if b then 1 else 0)) := ⟨fun h => h, fun h => h⟩
@[simp] theorem w_str {i : Int} {Q : DK} : fStr [.int i] Q ↔ i.natAbs.log2 < 1920 ∧ Q (.str (Str.ofString (toString i))) := ⟨fun h => h, fun h => h⟩
@[simp] theorem w_divmod {i j : Int} {Q : DK} : fDivmod [.int i, .int j] Q ↔ (0 < j ∧ j < 1073741824) ∧ Q (.tup [.int (i / j), .int (i % j)]) := ⟨fun h => h, fun h => h⟩
@[simp] theorem tr_b {b : Bool} {Q : Bool → Prop} : truthD (.bl b) Q ↔ Q b := ⟨fun h => h, fun h => h⟩
@[simp] theorem tr_n {Q : Bool → Prop} : truthD .non Q ↔ Q false := ⟨fun h => h, fun h => h⟩
@[simp] theorem tr_i {i : Int} {Q : Bool → Prop} : truthD (.int i) Q ↔ Q (i != 0) := ⟨fun h => h, fun h => h⟩
@[simp] theorem tr_l {xs : List D} {Q : Bool → Prop} : truthD (.lst xs) Q ↔ Q (!xs.isEmpty) := ⟨fun h => h, fun h => h⟩
@[simp] theorem tr_t {xs : List D} {Q : Bool → Prop} : truthD (.tup xs) Q ↔ Q (!xs.isEmpty) := ⟨fun h => h, fun h => h⟩
@[simp] theorem ok_int {n : Nat} {i : Int} : okD n (.int i) = true := by cases n <;> simp [okD]
@[simp] theorem ok_bl {n : Nat} {i : Bool} : okD n (.bl i) = true := by cases n <;> simp [okD]
@[simp] theorem ok_non {n : Nat} : okD n .non = true := by cases n <;> simp [okD]
@[simp] theorem ok_tup {n : Nat} {xs : List D} : okD (n + 1) (.tup xs) = okDs n xs := by simp [okD]
@[simp] theorem ok_lst {n : Nat} {xs : List D} : okD (n + 1) (.lst xs) = okDs n xs := by simp [okD]
@[simp] theorem oks_nil {n : Nat} : okDs n [] = true := by simp [okDs]
@[simp] theorem oks_cons {n : Nat} {x : D} {xs : List D} : okDs n (x :: xs) = (okD n x && okDs n xs) := by simp [okDs]
@[simp] theorem eq_int {i j : Int} : eqD (.int i) (.int j) = decide (i = j) := by simp [eqD]; rfl
@[simp] theorem eq_bl {i j : Bool} : eqD (.bl i) (.bl j) = (i == j) := by simp [eqD]
@[simp] theorem eq_non : eqD .non .non = true := by simp [eqD]
@[simp] theorem eq_tup {xs ys : List D} : eqD (.tup xs) (.tup ys) = eqDs xs ys := by simp [eqD]
@[simp] theorem eq_lst {xs ys : List D} : eqD (.lst xs) (.lst ys) = eqDs xs ys := by simp [eqD]
@[simp] theorem eq_tn {xs : List D} : eqD (.tup xs) .non = false := by simp [eqD]
@[simp] theorem eq_nt {xs : List D} : eqD .non (.tup xs) = false := by simp [eqD]
@[simp] theorem eqs_nil : eqDs [] [] = true := by simp [eqDs]
@[simp] theorem eqs_cons {x y : D} {xs ys : List D} : eqDs (x :: xs) (y :: ys) = (eqD x y && eqDs xs ys) := by simp [eqDs]
@[simp] theorem fl_int {i : Int} : isFlat (.int i) = true := rfl
@[simp] theorem fl_bl {i : Bool} : isFlat (.bl i) = true := rfl
@[simp] theorem fl_non : isFlat .non = true := rfl
@[simp] theorem fl_str {x : Str} : isFlat (.str x) = true := rfl
@[simp] theorem non_non : isNon .non = true := rfl
@[simp] theorem non_int {i : Int} : isNon (.int i) = false := rfl
@[simp] theorem non_tup {i : List D} : isNon (.tup i) = false := rfl
@[simp] theorem non_lst {i : List D} : isNon (.lst i) = false := rfl
mutual
/-- == of data with itself, where it is known -/
theorem eqD_self : ∀ (n : Nat) (d : D), okD n d = true → eqD d d = true
  | _, .non, _ => by simp [eqD]
  | _, .bl _, _ => by simp [eqD]
  | _, .int _, _ => by simp [eqD]
  | _, .str _, _ => by simp [eqD]
  | 0, .tup _, h => by simp [okD] at h
  | n + 1, .tup xs, h => by
    simp only [okD] at h
    simpa [eqD] using eqDs_self n xs h
  | 0, .lst _, h => by simp [okD] at h
  | n + 1, .lst xs, h => by
    simp only [okD] at h
    simpa [eqD] using eqDs_self n xs h
  | n, .dk _, h => by cases n <;> simp [okD] at h
  | n, .dt _, h => by cases n <;> simp [okD] at h
  | n, .ins _ _, h => by cases n <;> simp [okD] at h
  | n, .st, h => by cases n <;> simp [okD] at h
  | n, .scr _, h => by cases n <;> simp [okD] at h
  | n, .fn _, h => by cases n <;> simp [okD] at h
theorem eqDs_self : ∀ (n : Nat) (d : List D), okDs n d = true → eqDs d d = true
  | _, [], _ => by simp [eqDs]
  | n, x :: xs, h => by
    simp only [okDs, Bool.and_eq_true] at h
    simp only [eqDs, Bool.and_eq_true]
    exact ⟨eqD_self n x h.1, eqDs_self n xs h.2⟩
end
@[simp] theorem log_lit {b : Int} (h0 : 0 ≤ b) (h : b < 1000000000000000000) : b.natAbs.log2 < 9000 := by
  have h1 : b.natAbs < 2 ^ 64 := by omega
  have h2 : b.natAbs.log2 < 64 ∨ b.natAbs = 0 := by
    by_cases z : b.natAbs = 0
    · exact .inr z
    · exact .inl ((Nat.log2_lt z).mpr h1)
  rcases h2 with z | z
  · omega
  · rw [z]
    decide
@[simp] theorem log_nat {n : Nat} (h : n < 1000000000000000000) : n.log2 < 9000 := by
  by_cases z : n = 0
  · rw [z]
    decide
  · have : n.log2 < 64 := (Nat.log2_lt z).mpr (by omega)
    omega
theorem two_le_line {n : Nat} (h : n ≤ 1000000) : n ≤ lineMax := Nat.le_trans h (by decide)
theorem lit_line : lineMax = 16777216 := rfl
@[simp] theorem le_line {n : Nat} : n ≤ lineMax ↔ n ≤ 16777216 := Iff.rfl
@[simp] theorem lt_line {n : Nat} : n < lineMax ↔ n < 16777216 := Iff.rfl
@[simp] theorem inD_nil {x : D} : inD x [] = false := rfl
@[simp] theorem inD_cons {x y : D} {ys : List D} : inD x (y :: ys) = (eqD y x || inD x ys) := rfl
theorem ixN_pos {n : Nat} {i : Int} (h0 : 0 ≤ i) (h : i < n) : ixN n i = some i.toNat := by
  unfold ixN
  rw [if_pos h0, if_pos h]
theorem ixN_neg {n : Nat} {i : Int} (h0 : i < 0) (h : -(n : Int) ≤ i) : ixN n i = some (i + n).toNat := by
  unfold ixN
  rw [if_neg (by omega), if_pos h]
theorem atI_pos {α : Type} {xs : List α} {i : Int} (h0 : 0 ≤ i) (h : i < xs.length) : atI xs i = some (xs[i.toNat]'(by omega)) := by
  unfold atI
  rw [ixN_pos h0 h]
  show xs[i.toNat]? = _
  exact List.getElem?_eq_getElem (by omega)
theorem atI_nat {α : Type} {xs : List α} {i : Nat} (h : i < xs.length) : atI xs (i : Int) = some xs[i] := by
  rw [atI_pos (by omega) (by omega)]
  simp
/-- xs[-1] -/
theorem atI_last {α : Type} {xs : List α} {x : α} : atI (xs ++ [x]) (-1) = some x := by
  unfold atI
  rw [ixN_neg (by omega) (by simp; omega)]
  have : (-1 + ((xs ++ [x]).length : Int)).toNat = xs.length := by
    simp only [List.length_append, List.length_singleton]
    omega
  rw [this]
  simp
@[simp] theorem atI_lit0 {α : Type} {x : α} {xs : List α} : atI (x :: xs) 0 = some x := by
  rw [atI_pos (by omega) (by simp)]
  simp
@[simp] theorem atI_lit1 {α : Type} {x y : α} {xs : List α} : atI (x :: y :: xs) 1 = some y := by
  rw [atI_pos (by omega) (by simp; omega)]
  simp
@[simp] theorem atI_lit2 {α : Type} {x y z : α} {xs : List α} : atI (x :: y :: z :: xs) 2 = some z := by
  rw [atI_pos (by omega) (by simp; omega)]
  simp
@[simp] theorem atI_lit3 {α : Type} {x y z u : α} {xs : List α} : atI (x :: y :: z :: u :: xs) 3 = some u := by
  rw [atI_pos (by omega) (by simp; omega)]
  simp
theorem get_any {xs : List D} {i : Int} {Q : DK} (h0 : 0 ≤ i) (h1 : i < xs.length) (q : ∀ x ∈ xs, Q x) : oGet (atI xs i) Q := by
  rw [atI_pos h0 h1]
  exact q _ (List.getElem_mem _)
theorem intsOf_map (ns : List Int) : intsOf (ns.map D.int) = some ns := by
  induction ns with
  | nil => rfl
  | cons n r ih => simp [intsOf, ih]
theorem fMax_ints {ns : List Int} {Q : DK} (h : ns ≠ []) (q : ∀ m ∈ ns, (∀ y ∈ ns, y ≤ m) → Q (.int m)) : fMax [.lst (ns.map D.int)] Q := by
  show match intsOf (ns.map D.int) with
    | some ns => ns ≠ [] ∧ ∀ m, m ∈ ns → (∀ y ∈ ns, y ≤ m) → Q (.int m)
    | none => False
  rw [intsOf_map]
  exact ⟨h, q⟩
theorem fMin_ints {ns : List Int} {Q : DK} (h : ns ≠ []) (q : ∀ m ∈ ns, (∀ y ∈ ns, m ≤ y) → Q (.int m)) : fMin [.lst (ns.map D.int)] Q := by
  show match intsOf (ns.map D.int) with
    | some ns => ns ≠ [] ∧ ∀ m, m ∈ ns → (∀ y ∈ ns, m ≤ y) → Q (.int m)
    | none => False
  rw [intsOf_map]
  exact ⟨h, q⟩
theorem fSum_ints {ns : List Int} {Q : DK} (q : Q (.int ns.sum)) : fSum [.lst (ns.map D.int)] Q := by
  show match intsOf (ns.map D.int) with
    | some ns => Q (.int ns.sum)
    | none => False
  rw [intsOf_map]
  exact q
theorem fSumT_ints {ns : List Int} {Q : DK} (q : Q (.int ns.sum)) : fSum [.tup (ns.map D.int)] Q := by
  simp only [fSum, intsOf_map]
  exact q
theorem fSum_map {α : Type} {xs : List α} {f : α → Int} {Q : DK} (q : Q (.int (xs.map f).sum)) : fSum [.lst (xs.map fun x => D.int (f x))] Q := by
  have := fSum_ints (ns := xs.map f) (Q := Q) q
  rw [List.map_map] at this
  exact this
theorem blsOf_map (ns : List Bool) : blsOf (ns.map D.bl) = some ns := by
  induction ns with
  | nil => rfl
  | cons n r ih => simp [blsOf, ih]
theorem fAll_bls {ns : List Bool} {Q : DK} (q : Q (.bl (ns.all id))) : fAll [.lst (ns.map D.bl)] Q := by
  show match blsOf (ns.map D.bl) with
    | some ns => Q (.bl (ns.all id))
    | none => False
  rw [blsOf_map]
  exact q
theorem fAny_bls {ns : List Bool} {Q : DK} (q : Q (.bl (ns.any id))) : fAny [.lst (ns.map D.bl)] Q := by
  show match blsOf (ns.map D.bl) with
    | some ns => Q (.bl (ns.any id))
    | none => False
  rw [blsOf_map]
  exact q
theorem fAll_map {α : Type} {xs : List α} {f : α → Bool} {Q : DK} (q : Q (.bl (xs.all f))) : fAll [.lst (xs.map fun x => D.bl (f x))] Q := by
  have := fAll_bls (ns := xs.map f) (Q := Q) (by simpa using q)
  rw [List.map_map] at this
  exact this
theorem fAny_map {α : Type} {xs : List α} {f : α → Bool} {Q : DK} (q : Q (.bl (xs.any f))) : fAny [.lst (xs.map fun x => D.bl (f x))] Q := by
  have := fAny_bls (ns := xs.map f) (Q := Q) (by simpa using q)
  rw [List.map_map] at this
  exact this
/-- cuts by small places -/
theorem sIx_nat (n d k : Nat) : sIx n d (some (k : Int)) = min k n := by
  show (if (k : Int) < 0 then ((k : Int) + n).toNat else min (k : Int).toNat n) = _
  rw [if_neg (by omega), Int.toNat_natCast]
theorem cutL_to {α : Type} (xs : List α) (n : Nat) : cutL xs none (some (n : Int)) = xs.take n := by
  unfold cutL
  rw [sIx_nat]
  show (xs.drop 0).take (min n xs.length - 0) = _
  rw [List.drop_zero, Nat.sub_zero]
  by_cases h : n ≤ xs.length
  · rw [Nat.min_eq_left h]
  · rw [Nat.min_eq_right (by omega), List.take_of_length_le (Nat.le_refl _), List.take_of_length_le (by omega)]
theorem cutL_from {α : Type} (xs : List α) (n : Nat) : cutL xs (some (n : Int)) none = xs.drop n := by
  unfold cutL
  rw [sIx_nat]
  show (xs.drop (min n xs.length)).take (xs.length - min n xs.length) = _
  rw [List.take_of_length_le (by rw [List.length_drop]; omega)]
  by_cases h : n ≤ xs.length
  · rw [Nat.min_eq_left h]
  · rw [Nat.min_eq_right (by omega), List.drop_of_length_le (Nat.le_refl _), List.drop_of_length_le (by omega)]
theorem cutL_to1 {α : Type} (xs : List α) : cutL xs none (some 1) = xs.take 1 := cutL_to xs 1
theorem cutL_from1 {α : Type} (xs : List α) : cutL xs (some 1) none = xs.drop 1 := cutL_from xs 1
theorem rngx_get {lo : Int} {n i : Nat} {x : D} (h : (rng lo n)[i]? = some x) : i < n ∧ x = .int (lo + i) := by
  unfold rng at h
  rw [List.getElem?_map] at h
  obtain ⟨j, hj, rfl⟩ := Option.map_eq_some_iff.mp h
  obtain ⟨h1, rfl⟩ := List.getElem?_eq_some_iff.mp hj
  simp at h1
  exact ⟨h1, by simp⟩
@[simp] theorem rngx_len {lo : Int} {n : Nat} : (rng lo n).length = n := by simp [rng]
theorem ite2' {c A B : Prop} [Decidable c] (h1 : c → A) (h2 : ¬ c → B) : if c then A else B := by
  split
  · exact h1 (by assumption)
  · exact h2 (by assumption)
/-! ### calls -/
theorem up_use {W : DF} {ds : List D} {R : DK} {F : Err → Prop} {Q : DK} {E : Err → Prop} (h : W ds R F) (hq : ∀ d, R d → Q d) (he : ∀ e, F e → E e) : up W ds Q E := ⟨R, F, h, hq, he⟩
/-- a def that lets nothing out -/
theorem up_use0 {W : DF} {ds : List D} {R : DK} {Q : DK} {E : Err → Prop} (h : W ds R fun _ => False) (hq : ∀ d, R d → Q d) : up W ds Q E := ⟨R, _, h, hq, fun _ z => z.elim⟩
@[simp] theorem up_start {ns : List Int} {Q : DK} {E : Err → Prop} : up wStart [.scr ns] Q E ↔ ns.length ≤ 63 ∧ Q .st :=
  ⟨fun ⟨_, _, h, a, _⟩ => ⟨h.1, a _ h.2⟩, fun h => ⟨Q, E, h, fun _ z => z, fun _ z => z⟩⟩
@[simp] theorem up_draw {b : Int} {Q : DK} {E : Err → Prop} : up wDraw [.st, .int b] Q E ↔ 0 < b ∧ b.natAbs.log2 < 9000 ∧ ∀ r, 0 ≤ r → r < b → Q (.int r) :=
  ⟨fun ⟨_, _, h, a, _⟩ => ⟨h.1, h.2.1, fun r h0 h1 => a _ (h.2.2 r h0 h1)⟩, fun h => ⟨Q, E, h, fun _ z => z, fun _ z => z⟩⟩
/-! ### loops -/
theorem forL_inv {g : DG} {b : DS} {E : EK} {K : DE} (I : Nat → Env → Prop) {xs : List D} {ρ : Env} (h0 : I 0 ρ)
    (step : ∀ i x ρ (nx : Env → Prop), xs[i]? = some x → I i ρ → (∀ ρ', I (i + 1) ρ' → nx ρ') → g x ρ fun ρ' => b E { nx := nx, ct := nx, bk := K.nx, rt := K.rt, ro := K.ro } ρ')
    (fin : ∀ ρ, I xs.length ρ → K.nx ρ) : forL g b E K xs ρ := by
  have go : ∀ (r : List D) (i : Nat) (ρ : Env), xs.drop i = r → i ≤ xs.length → I i ρ → forL g b E K r ρ := by
    intro r
    induction r with
    | nil =>
      intro i ρ e hi h
      have : i = xs.length := by
        have := congrArg List.length e
        simp at this
        omega
      subst this
      exact fin ρ h
    | cons x r ih =>
      intro i ρ e hi h
      have hx : xs[i]? = some x := by
        have := congrArg (·[0]?) e
        simpa using this
      have e' : xs.drop (i + 1) = r := by
        have := congrArg List.tail e
        simpa [List.tail_drop] using this
      have hi' : i < xs.length := (List.getElem?_eq_some_iff.mp hx).1
      exact step i x ρ (forL g b E K r) hx h fun ρ' q => ih (i + 1) ρ' e' hi' q
  exact go xs 0 ρ rfl (Nat.zero_le _) h0
/-- a comprehension, turn by turn -/
theorem lcL_inv {g : DG} {t : DB} {e : DT} {ρ : Env} (I : Nat → List D → Prop) {xs : List D} {Q : List D → Prop} (h0 : I 0 [])
    (h : ∀ i x acc (A : DK) (R : Prop), xs[i]? = some x → I i acc → (∀ y, I (i + 1) (acc ++ [y]) → A y) → (I (i + 1) acc → R) → g x ρ fun ρ' => t noE ρ' fun k => if k = true then e noE ρ' A else R)
    (hl : xs.length ≤ lineMax) (q : ∀ r, I xs.length r → Q r) : lcL g t e ρ xs [] Q := by
  have go : ∀ (r acc : List D) (i : Nat), xs.drop i = r → i ≤ xs.length → acc.length ≤ i → I i acc → lcL g t e ρ r acc Q := by
    intro r
    induction r with
    | nil =>
      intro acc i e1 hi _ z
      have : i = xs.length := by
        have := congrArg List.length e1
        simp at this
        omega
      subst this
      exact q acc z
    | cons x r ih =>
      intro acc i e1 hi ha z
      have hx : xs[i]? = some x := by
        have := congrArg (·[0]?) e1
        simpa using this
      have e' : xs.drop (i + 1) = r := by
        have := congrArg List.tail e1
        simpa [List.tail_drop] using this
      have hi' : i < xs.length := (List.getElem?_eq_some_iff.mp hx).1
      exact h i x acc (fun y => acc.length < lineMax ∧ lcL g t e ρ r (acc ++ [y]) Q) (lcL g t e ρ r acc Q) hx z (fun y z => ⟨Nat.lt_of_lt_of_le (Nat.lt_of_le_of_lt ha hi') hl, ih _ (i + 1) e' hi' (by simp; omega) z⟩) fun z => ih _ (i + 1) e' hi' (by omega) z
  exact go xs [] 0 rfl (Nat.zero_le _) (Nat.le_refl _) h0
/-- one that maps -/
theorem lcL_map {g : DG} {t : DB} {e : DT} {ρ : Env} (f : D → D) {xs : List D} {Q : List D → Prop} (h : ∀ x ∈ xs, ∀ (A : DK) (R : Prop), A (f x) → g x ρ fun ρ' => t noE ρ' fun k => if k = true then e noE ρ' A else R)
    (hl : xs.length ≤ lineMax) (q : Q (xs.map f)) : lcL g t e ρ xs [] Q := by
  refine lcL_inv (fun i acc => acc = (xs.take i).map f) rfl (fun i x acc A R hx ha y n => ?_) hl fun r hr => ?_
  · refine h x (List.mem_of_getElem? hx) A R (y _ ?_)
    rw [ha, List.take_add_one, hx]
    simp
  · rw [hr, List.take_length]
    exact q
/-- one that keeps some and maps -/
theorem lcL_fm {g : DG} {t : DB} {e : DT} {ρ : Env} (f : D → Option D) {xs : List D} {Q : List D → Prop} (h : ∀ x ∈ xs, ∀ (A : DK) (R : Prop), (∀ y, f x = some y → A y) → (f x = none → R) → g x ρ fun ρ' => t noE ρ' fun k => if k = true then e noE ρ' A else R)
    (hl : xs.length ≤ lineMax) (q : Q (xs.filterMap f)) : lcL g t e ρ xs [] Q := by
  refine lcL_inv (fun i acc => acc = (xs.take i).filterMap f) rfl (fun i x acc A R hx ha y n => ?_) hl fun r hr => ?_
  · refine h x (List.mem_of_getElem? hx) A R (fun z hz => y z ?_) fun hz => n ?_
    · rw [ha, List.take_add_one, hx]
      simp [hz]
    · rw [ha, List.take_add_one, hx]
      simp [hz]
  · rw [hr, List.take_length]
    exact q
/-! ### string literals -/
theorem ofS_eq {a b : String} : (Str.ofString a = Str.ofString b) ↔ a = b := by
  refine ⟨fun h => ?_, fun h => by rw [h]⟩
  rw [Str.ofString_eq_toList, Str.ofString_eq_toList] at h
  have h1 : a.toList.map Char.toNat = b.toList.map Char.toNat := by simpa using h
  have h2 : a.toList = b.toList := by
    have inj : ∀ (x y : List Char), x.map Char.toNat = y.map Char.toNat → x = y := by
      intro x
      induction x with
      | nil => intro y h; cases y with
        | nil => rfl
        | cons _ _ => simp at h
      | cons c x ih => intro y h; cases y with
        | nil => simp at h
        | cons d y =>
          simp only [List.map_cons, List.cons.injEq] at h
          rw [ih y h.2, Char.toNat_inj.mp h.1]
    exact inj _ _ h1
  exact String.toList_inj.mp h2
@[simp] theorem ofS_eq_lit {a b : String} : (Str.ofString a = Str.ofString b) ↔ a = b := ofS_eq
@[simp] theorem ofS_beq {a b : String} : (Str.ofString a == Str.ofString b) = (a == b) := by
  rw [Bool.eq_iff_iff, beq_iff_eq, beq_iff_eq]
  exact ofS_eq
theorem ok_str {n : Nat} {x : Str} : okD n (.str x) = x.cps.all (· < 0x110000) := by cases n <;> simp [okD]
@[simp] theorem ok_lit {n : Nat} {a : String} : okD n (.str (Str.ofString a)) = true := by
  rw [ok_str, Str.ofString_eq_toList]
  simp
  intro c _
  have := c.valid
  simp only [UInt32.isValidChar, Nat.isValidChar] at this
  show c.val.toNat < 1114112
  omega
@[simp] theorem eq_str {a b : Str} : eqD (.str a) (.str b) = (a == b) := by simp [eqD]
/-! fields -/
@[simp] theorem put_nil {f : Str} {v : D} : putFD f v [] = [(f, v)] := rfl
@[simp] theorem put_cons {f g : Str} {v x : D} {r : List (Str × D)} : putFD f v ((g, x) :: r) = if g = f then (g, v) :: r else (g, x) :: putFD f v r := rfl
@[simp] theorem look_nil {f : Str} : List.lookup f ([] : List (Str × D)) = none := rfl
@[simp] theorem look_cons {f g : Str} {x : D} {r : List (Str × D)} : List.lookup f ((g, x) :: r) = if f = g then some x else List.lookup f r := by
  rw [List.lookup_cons]
  by_cases h : f = g
  · simp [h]
  · have : (f == g) = false := by simpa using h
    simp [h, this]
def noFld (m : Str) (fs : List (Str × D)) : Prop := fs.lookup m = none
@[simp] theorem noFld_nil {m : Str} : noFld m [] := rfl
@[simp] theorem noFld_cons {m g : Str} {x : D} {r : List (Str × D)} : noFld m ((g, x) :: r) ↔ ¬ m = g ∧ noFld m r := by
  unfold noFld
  rw [look_cons]
  by_cases h : m = g <;> simp [h]
@[simp] theorem w_meth {c : String} {m : Str} {W : DF} {a : DT} {r : DA} {E : EK} {ρ : DL.Env} {Q : DK} : dMeth c m W a r E ρ Q ↔ a E ρ fun x => gIns c x fun fs => noFld m fs ∧ r E ρ fun xs => up W (.ins c fs :: xs) Q fun _ => False := by
  unfold dMeth gIns noFld
  exact Iff.of_eq (congrArg _ (funext fun x => by
    cases x <;> first | rfl | skip
    rename_i c' l
    by_cases h : c' = c
    · subst h; simp [and_assoc]
    · simp [h]))
@[simp] theorem lcD_nil {g : DG} {t : DB} {e : DT} {ρ : DL.Env} {acc : List D} {Q : List D → Prop} : lcL g t e ρ [] acc Q ↔ Q acc := ⟨fun h => h, fun h => h⟩
theorem lcD_cons {g : DG} {t : DB} {e : DT} {ρ : DL.Env} {x : D} {r acc : List D} {Q : List D → Prop} : lcL g t e ρ (x :: r) acc Q ↔ g x ρ fun ρ' => t noE ρ' fun k => if k = true then e noE ρ' fun y => acc.length < lineMax ∧ lcL g t e ρ r (acc ++ [y]) Q else lcL g t e ρ r acc Q := ⟨fun h => h, fun h => h⟩
@[simp] theorem cut1 {α : Type} {x : α} {xs : List α} : cutL (x :: xs) (some 1) none = xs := by rw [cutL_from1]; rfl
/-- a comprehension over encoded things -/
theorem lcD_list {α : Type} {g : DG} {t : DB} {e : DT} {ρ : DL.Env} (en : α → D) (f : α → D) {Q : List D → Prop} : ∀ (xs : List α) (acc : List D), (∀ x ∈ xs, ∀ (A : DK) (R : Prop), A (f x) → g (en x) ρ fun ρ' => t noE ρ' fun k => if k = true then e noE ρ' A else R) →
    acc.length + xs.length ≤ lineMax → Q (acc ++ xs.map f) → lcL g t e ρ (xs.map en) acc Q
  | [], acc, _, _, q => by simpa using q
  | x :: r, acc, h, hl, q => by
    simp only [List.map_cons, List.length_cons] at *
    rw [lcD_cons]
    have hh : lineMax = 16777216 := rfl
    refine h x (by simp) _ _ ⟨by omega, lcD_list en f r (acc ++ [f x]) (fun y hy => h y (by simp [hy])) (by simp; omega) (by simpa using q)⟩
/-- one that leaves some out -/
theorem lcD_fm {α : Type} {g : DG} {t : DB} {e : DT} {ρ : DL.Env} (en : α → D) (f : α → Option D) {Q : List D → Prop} : ∀ (xs : List α) (acc : List D), (∀ x ∈ xs, ∀ (A : DK) (R : Prop), (∀ y, f x = some y → A y) → (f x = none → R) → g (en x) ρ fun ρ' => t noE ρ' fun k => if k = true then e noE ρ' A else R) →
    acc.length + xs.length ≤ lineMax → Q (acc ++ xs.filterMap f) → lcL g t e ρ (xs.map en) acc Q
  | [], acc, _, _, q => by simpa using q
  | x :: r, acc, h, hl, q => by
    simp only [List.map_cons, List.length_cons] at *
    rw [lcD_cons]
    have hh : lineMax = 16777216 := rfl
    refine h x (by simp) _ _ (fun y hy => ⟨by omega, lcD_fm en f r (acc ++ [y]) (fun z hz => h z (by simp [hz])) (by simp; omega) ?_⟩) (fun hy => lcD_fm en f r acc (fun z hz => h z (by simp [hz])) (by omega) ?_)
    · rw [List.filterMap_cons_some hy] at q
      simpa using q
    · rw [List.filterMap_cons_none hy] at q
      exact q
theorem imp_use {W : DF} {ds : List D} {R R' : DK} (h : W ds R fun _ => False) (hq : ∀ d, R d → R' d) : up W ds R' fun _ => False := ⟨R, _, h, hq, fun _ z => z⟩
theorem up_gen {G : Nat → DF} {N n : Nat} {ds : List D} {R Q : DK} {E : Err → Prop} (hn : n ≤ N) (h : G n ds R fun _ => False) (hq : ∀ d, R d → Q d) : up (upN G N) ds Q E := ⟨R, _, ⟨n, hn, h⟩, hq, fun _ z => z.elim⟩
/-- a while loop: what holds at its head, and what shrinks -/
theorem while_inv {c : DB} {b : DS} {E : EK} {K : DE} (I : Nat → DL.Env → Prop) {ρ : DL.Env} {m : Nat} (h0 : I m ρ)
    (step : ∀ m ρ (nx : DL.Env → Prop), I m ρ → (∀ m' ρ', m' < m → I m' ρ' → nx ρ') → c E ρ fun k => if k = true then b E { nx := nx, ct := nx, bk := K.nx, rt := K.rt, ro := K.ro } ρ else K.nx ρ) : ∃ n, whileN c b E K n ρ := by
  have go : ∀ n m ρ, m < n → I m ρ → whileN c b E K n ρ := by
    intro n
    induction n with
    | zero => intro m ρ h; omega
    | succ n ih => intro m ρ h hi; exact step m ρ _ hi fun m' ρ' hm h' => ih m' ρ' (by omega) h'
  exact ⟨m + 1, go _ m ρ (by omega) h0⟩
@[simp] theorem eq_tl {a : List D} {b : List D} : eqD (.tup a) (.lst b) = false := by simp [eqD]
@[simp] theorem eq_ts {a : List D} {b : Str} : eqD (.tup a) (.str b) = false := by simp [eqD]
@[simp] theorem eq_ti {a : List D} {b : Int} : eqD (.tup a) (.int b) = false := by simp [eqD]
@[simp] theorem eq_lt {a : List D} {b : List D} : eqD (.lst a) (.tup b) = false := by simp [eqD]
@[simp] theorem eq_ls {a : List D} {b : Str} : eqD (.lst a) (.str b) = false := by simp [eqD]
@[simp] theorem eq_li {a : List D} {b : Int} : eqD (.lst a) (.int b) = false := by simp [eqD]
@[simp] theorem eq_ln {a : List D} : eqD (.lst a) .non = false := by simp [eqD]
@[simp] theorem eq_st {a : Str} {b : List D} : eqD (.str a) (.tup b) = false := by simp [eqD]
@[simp] theorem eq_sl {a : Str} {b : List D} : eqD (.str a) (.lst b) = false := by simp [eqD]
@[simp] theorem eq_si {a : Str} {b : Int} : eqD (.str a) (.int b) = false := by simp [eqD]
@[simp] theorem eq_sn {a : Str} : eqD (.str a) .non = false := by simp [eqD]
@[simp] theorem eq_it {a : Int} {b : List D} : eqD (.int a) (.tup b) = false := by simp [eqD]
@[simp] theorem eq_il {a : Int} {b : List D} : eqD (.int a) (.lst b) = false := by simp [eqD]
@[simp] theorem eq_is {a : Int} {b : Str} : eqD (.int a) (.str b) = false := by simp [eqD]
@[simp] theorem eq_in {a : Int} : eqD (.int a) .non = false := by simp [eqD]
@[simp] theorem eq_nl {b : List D} : eqD .non (.lst b) = false := by simp [eqD]
@[simp] theorem eq_ns {b : Str} : eqD .non (.str b) = false := by simp [eqD]
@[simp] theorem eq_ni {b : Int} : eqD .non (.int b) = false := by simp [eqD]
@[simp] theorem w_listS {ns : List Int} {Q : DK} : fList [.scr ns] Q ↔ Q (.lst (ns.map .int)) := ⟨fun h => h, fun h => h⟩
@[simp] theorem w_listK {l : List (Key × D)} {Q : DK} : fList [.dk l] Q ↔ Q (.lst (l.map fun kv => keyD kv.1)) := ⟨fun h => h, fun h => h⟩
@[simp] theorem w_keyO {i : Nat} {E : EK} {ρ : DL.Env} {Q : List D → Prop} : iKeyO i E ρ Q ↔ gOD ρ[i]? fun kvs => Q (kvs.map fun kv => keyD kv.1) := ⟨fun h => h, fun h => h⟩
@[simp] theorem keyD_l {i : Int} : keyD (.inl i) = .int i := rfl
@[simp] theorem keyD_r {i : Str} : keyD (.inr i) = .str i := rfl
theorem fSorted_keys {kvs : List (Key × D)} {ns : List Int} {Q : DK} (h : ikeys kvs = some ns) (hl : ns.length < 64) (q : ∀ ns' : List Int, ns'.Perm ns → ns'.Pairwise (· ≤ ·) → Q (.lst (ns'.map D.int))) : fSorted [.dk kvs] Q := by
  simp only [fSorted, h]
  exact ⟨hl, q⟩
theorem oks_map {n : Nat} {α : Type} {f : α → D} {xs : List α} (h : ∀ x ∈ xs, okD n (f x) = true) : okDs n (xs.map f) = true := by
  induction xs with
  | nil => simp
  | cons x r ih => simp [h x (by simp), ih fun y hy => h y (by simp [hy])]
@[simp] theorem oks_ints {n : Nat} {xs : List Int} : okDs n (xs.map D.int) = true := oks_map fun _ _ => by simp
/-! ### errors -/
@[simp] theorem w_raise {c : String} {fs : List Str} {a : DA} {E : EK} {K : DE} {ρ : DL.Env} : sRaise c fs a E K ρ ↔ a E ρ fun xs => xs.length = fs.length ∧ (∀ x ∈ xs, okE x) ∧ E ⟨c, (fs.zip xs).reverse⟩ ρ := ⟨fun h => h, fun h => h⟩
@[simp] theorem w_tryR {m : String} {os : List String} {i : Nat} {f : Str} {b : DS} {E : EK} {K : DE} {ρ : DL.Env} : sTryR m os i f b E K ρ ↔ b (fun e ρ' => if e.cls = m then i < ρ'.length ∧ oGet (e.fs.lookup f) K.rt else e.cls ∈ os ∧ E e ρ') K ρ := ⟨fun h => h, fun h => h⟩
@[simp] theorem w_try {ms os : List String} {b s : DS} {E : EK} {K : DE} {ρ : DL.Env} : sTry ms os b s E K ρ ↔ b (fun e ρ' => if e.cls ∈ ms then s noE K ρ' else e.cls ∈ os ∧ E e ρ') K ρ := ⟨fun h => h, fun h => h⟩
theorem okE_lit {a : String} (h : a.length ≤ 1000) : okE (.str (Str.ofString a)) := by
  refine ⟨by rw [Str.ofString_eq_toList]; simp only [Str.length, List.size_toArray, List.length_map]; rw [String.length_toList]; exact h, fun c hc => ?_⟩
  have := ok_lit (n := 0) (a := a)
  rw [ok_str] at this
  have := Array.all_eq_true_iff_forall_mem.mp this c (by simpa using hc)
  simp at this
  omega
@[simp] theorem okE_int {i : Int} : okE (.int i) ↔ i.natAbs.log2 < 1920 := ⟨fun h => h, fun h => h⟩
/-! ### loops over encoded things -/
theorem forL_list {α : Type} (en : α → D) {g : DG} {b : DS} {E : EK} {K : DE} (I : Nat → Env → Prop) {xs : List α} {ρ : Env} (h0 : I 0 ρ)
    (step : ∀ i x ρ (nx : Env → Prop), xs[i]? = some x → I i ρ → (∀ ρ', I (i + 1) ρ' → nx ρ') → g (en x) ρ fun ρ' => b E { nx := nx, ct := nx, bk := K.nx, rt := K.rt, ro := K.ro } ρ')
    (fin : ∀ ρ, I xs.length ρ → K.nx ρ) : forL g b E K (xs.map en) ρ := by
  refine forL_inv I h0 (fun i x ρ nx hx hi hn => ?_) (fun ρ h => fin ρ (by simpa using h))
  rw [List.getElem?_map] at hx
  obtain ⟨y, hy, rfl⟩ := Option.map_eq_some_iff.mp hx
  exact step i y ρ nx hy hi hn
theorem forL_rng {lo : Int} {n : Nat} {g : DG} {b : DS} {E : EK} {K : DE} (I : Nat → Env → Prop) {ρ : Env} (h0 : I 0 ρ)
    (step : ∀ i ρ (nx : Env → Prop), i < n → I i ρ → (∀ ρ', I (i + 1) ρ' → nx ρ') → g (.int (lo + i)) ρ fun ρ' => b E { nx := nx, ct := nx, bk := K.nx, rt := K.rt, ro := K.ro } ρ')
    (fin : ∀ ρ, I n ρ → K.nx ρ) : forL g b E K (rng lo n) ρ := by
  refine forL_inv I h0 (fun i x ρ nx hx hi hn => ?_) (fun ρ h => fin ρ (by simpa using h))
  obtain ⟨hl, rfl⟩ := rngx_get hx
  exact step i ρ nx hl hi hn
/-- what has been walked, and what is next -/
theorem forL_hist {α : Type} (en : α → D) {g : DG} {b : DS} {E : EK} {K : DE} (I : List α → Env → Prop) {xs : List α} {ρ : Env} (h0 : I [] ρ)
    (step : ∀ hs x ts ρ (nx : Env → Prop), xs = hs ++ x :: ts → I hs ρ → (∀ ρ', I (hs ++ [x]) ρ' → nx ρ') → g (en x) ρ fun ρ' => b E { nx := nx, ct := nx, bk := K.nx, rt := K.rt, ro := K.ro } ρ')
    (fin : ∀ ρ, I xs ρ → K.nx ρ) : forL g b E K (xs.map en) ρ := by
  refine forL_list en (fun i ρ => I (xs.take i) ρ) h0 (fun i x ρ nx hx hi hn => ?_) (fun ρ h => fin ρ (by simpa using h))
  obtain ⟨hl, rfl⟩ := List.getElem?_eq_some_iff.mp hx
  refine step (xs.take i) xs[i] (xs.drop (i + 1)) ρ nx (by rw [List.getElem_cons_drop, List.take_append_drop]) hi fun ρ' h => hn ρ' ?_
  rw [List.take_add_one, hx]
  exact h
theorem lcD_rng {lo : Int} {n : Nat} {g : DG} {t : DB} {e : DT} {ρ : DL.Env} (f : Nat → D) {Q : List D → Prop} (h : ∀ i, i < n → ∀ (A : DK) (R : Prop), A (f i) → g (.int (lo + i)) ρ fun ρ' => t noE ρ' fun k => if k = true then e noE ρ' A else R)
    (hl : n ≤ lineMax) (q : Q ((List.range n).map f)) : lcL g t e ρ (rng lo n) [] Q :=
  lcD_list (fun k : Nat => D.int (lo + k)) f (List.range n) [] (fun k hk A R hA => h k (List.mem_range.mp hk) A R hA) (by simpa using hl) (by simpa using q)
theorem lcD_rngF {lo : Int} {n : Nat} {g : DG} {t : DB} {e : DT} {ρ : DL.Env} (f : Nat → Option D) {Q : List D → Prop} (h : ∀ i, i < n → ∀ (A : DK) (R : Prop), (∀ y, f i = some y → A y) → (f i = none → R) → g (.int (lo + i)) ρ fun ρ' => t noE ρ' fun k => if k = true then e noE ρ' A else R)
    (hl : n ≤ lineMax) (q : Q ((List.range n).filterMap f)) : lcL g t e ρ (rng lo n) [] Q :=
  lcD_fm (fun k : Nat => D.int (lo + k)) f (List.range n) [] (fun k hk A R hA hR => h k (List.mem_range.mp hk) A R hA hR) (by simpa using hl) (by simpa using q)
/-- one that keeps some and maps: by a test and a map -/
theorem lcD_ft {α : Type} {g : DG} {t : DB} {e : DT} {ρ : DL.Env} (en : α → D) (p : α → Bool) (f : α → D) {Q : List D → Prop} (xs : List α) (h : ∀ x ∈ xs, ∀ (A : DK) (R : Prop), (p x = true → A (f x)) → (p x = false → R) → g (en x) ρ fun ρ' => t noE ρ' fun k => if k = true then e noE ρ' A else R)
    (hl : xs.length ≤ lineMax) (q : Q ((xs.filter p).map f)) : lcL g t e ρ (xs.map en) [] Q := by
  refine lcD_fm en (fun x => if p x = true then some (f x) else none) xs [] (fun x hx A R hA hR => h x hx A R (fun z => hA _ (by rw [if_pos z])) (fun z => hR (by rw [if_neg (by simp [z])]))) (by simpa using hl) ?_
  have : xs.filterMap (fun x => if p x = true then some (f x) else none) = (xs.filter p).map f := by
    clear q hl h
    induction xs with
    | nil => rfl
    | cons x r ih => cases h : p x <;> simp [List.filterMap_cons, h, ih]
  rw [this]
  simpa using q
theorem inD_map {α : Type} {x : D} {en : α → D} {xs : List α} : inD x (xs.map en) = xs.any fun y => eqD (en y) x := by
  unfold inD
  rw [List.any_map]
  rfl
theorem oks_any {n : Nat} {xs : List D} (h : ∀ x ∈ xs, okD n x = true) : okDs n xs = true := by
  induction xs with
  | nil => simp
  | cons x r ih => simp [h x (by simp), ih fun y hy => h y (by simp [hy])]
theorem fSetSorted_ints {ns : List Int} {Q : DK} (hl : ns.length ≤ 4000) (q : ∀ ys : List Int, ys.Pairwise (· < ·) → (∀ j, j ∈ ys ↔ j ∈ ns) → Q (.lst (ys.map D.int))) : fSetSorted [.lst (ns.map D.int)] Q := by
  simp only [fSetSorted, intsOf_map]
  exact ⟨hl, q⟩
@[simp] theorem w_listO {i : Nat} {E : EK} {ρ : DL.Env} {Q : DK} : dListO i E ρ Q ↔ gOL ρ[i]? fun xs => Q (.lst xs) := ⟨fun h => h, fun h => h⟩
@[simp] theorem w_tupleO {i : Nat} {E : EK} {ρ : DL.Env} {Q : DK} : dTupleO i E ρ Q ↔ gOL ρ[i]? fun xs => Q (.tup xs) := ⟨fun h => h, fun h => h⟩
/-! ### defs that change what stands at a parameter -/
@[simp] theorem gPair_p {x y : D} {Q : D → D → Prop} : gPair (dPair x y) Q ↔ Q x y := ⟨fun h => h, fun h => h⟩
@[simp] theorem w_retX {a : DT} {E : EK} {K : DE} {ρ : DL.Env} : sRetX a E K ρ ↔ a E ρ fun d => K.ro d ρ := ⟨fun h => h, fun h => h⟩
@[simp] theorem w_retNX {E : EK} {K : DE} {ρ : DL.Env} : sRetNX E K ρ ↔ K.ro .non ρ := ⟨fun h => h, fun h => h⟩
@[simp] theorem w_aOwn {i : Nat} {r : DA} {E : EK} {ρ : DL.Env} {Q : List D → Prop} : aOwn i r E ρ Q ↔ gO ρ[i]? fun d => r E ρ fun xs => Q (d :: xs) := ⟨fun h => h, fun h => h⟩
@[simp] theorem w_callX {i : Nat} {W : DF} {a : DA} {E : EK} {K : DE} {ρ : DL.Env} : sCallX i W a E K ρ ↔ a E ρ fun xs => up W xs (fun r => gPair r fun _ o => K.nx (ρ.set i (.o o))) fun e => E e (ρ.set i .no) := ⟨fun h => h, fun h => h⟩
@[simp] theorem w_callXTo {i k : Nat} {W : DF} {a : DA} {E : EK} {K : DE} {ρ : DL.Env} : sCallXTo i k W a E K ρ ↔ a E ρ fun xs => up W xs (fun r => gPair r fun d o => K.nx ((ρ.set i (.o o)).set k (.v d))) fun e => E e (ρ.set i .no) := ⟨fun h => h, fun h => h⟩
end DL

/-! DCoreM: methods of built-in values, read as plain Lean. -/
namespace DL
open PySem L2
def tyD (T : String) : D → Prop
  | .str _ => T = "str"
  | .lst _ => T = "list"
  | _ => False
/-- x.m(..): f is asked of x and the arguments -/
def dMt (T : String) (f : List D → DK → Prop) (p : DT) (q : DA) : DT := fun E ρ Q => p E ρ fun x => tyD T x ∧ q E ρ fun xs => f (x :: xs) Q
/-- xs.index(x) of ints -/
def fIndex (xs : List D) (Q : DK) : Prop := match xs with
  | [.lst l, x] => isFlat x = true ∧ l.all isFlat = true ∧ ∃ j, (∃ z, l[j]? = some z ∧ eqD z x = true) ∧ (∀ m z, m < j → l[m]? = some z → eqD z x = false) ∧ Q (.int (j : Nat))
  | _ => False
def strsOf : List D → Option (List Str)
  | [] => some []
  | .str x :: r => (strsOf r).map (x :: ·)
  | _ :: _ => none
/-- a test of two texts -/
def fS2 (g : Str → Str → D) (xs : List D) (Q : DK) : Prop := match xs with
  | [.str a, .str b] => Q (g a b)
  | _ => False
def fS1 (C : Str → Prop) (g : Str → D) (xs : List D) (Q : DK) : Prop := match xs with
  | [.str a] => C a ∧ Q (g a)
  | _ => False
def fSplit (xs : List D) (Q : DK) : Prop := match xs with
  | [.str a, .str b] => (b.length == 0) = false ∧ a.length + 2 ≤ lineMax ∧ Q (.lst ((Txt.split a b).map D.str))
  | _ => False
def fJoin (xs : List D) (Q : DK) : Prop := match xs with
  | [.str a, .lst l] => match strsOf l with
    | some ys => (ys.map (·.length)).sum + ys.length * a.length ≤ 16777216 ∧ Q (.str (Txt.join a ys))
    | none => False
  | _ => False
/-- min(xs, default=d) -/
def fMinD (xs zs : List D) (Q : DK) : Prop := match xs, zs with
  | [.lst l], [d] => match intsOf l with
    | some ns => (ns = [] → Q d) ∧ (ns ≠ [] → ∀ m, m ∈ ns → (∀ y, y ∈ ns → m ≤ y) → Q (.int m))
    | none => False
  | _, _ => False
def dMinD (p q : DA) : DT := fun E ρ Q => p E ρ fun xs => q E ρ fun zs => fMinD xs zs Q
/-- xs[::-1] -/
def gRevX (x : D) (Q : DK) : Prop := match x with
  | .lst l => Q (.lst l.reverse)
  | .tup l => Q (.tup l.reverse)
  | _ => False
def dRev (t : DT) : DT := fun E ρ Q => t E ρ fun x => gRevX x Q
/-- a dict comprehension -/
def dcL (g : DG) (t : DB) (k e : DT) (ρ : Env) : List D → List (Key × D) → (List (Key × D) → Prop) → Prop
  | [], acc, Q => Q acc
  | x :: r, acc, Q => g x ρ fun ρ' => t noE ρ' fun b => if b = true then k noE ρ' fun y => e noE ρ' fun z => gK y fun j => acc.length < 1000000 ∧ dcL g t k e ρ r (putD acc j z) Q else dcL g t k e ρ r acc Q
def dDc (it : DI) (g : DG) (t : DB) (k e : DT) (vs : List Nat) : DT := fun E ρ Q => it E ρ fun xs => dcL g t k e (noOwn (wipeE ρ vs)) xs [] fun r => Q (.dk r)
/-- a list of draws, kept as one thing -/
def wDraws : DF := fun ds Q _ => match ds with
  | [.scr ns, .int c] => (ns.length ≤ 63 ∧ 0 ≤ c ∧ c ≤ 1000) ∧ Q .st
  | _ => False
/-- a text k times -/
def repS (a : Str) (k : Int) : Str := ⟨(List.replicate k.toNat a.cps.toList).flatten.toArray⟩
def oMulS (x y : D) (Q : DK) : Prop := match x, y with
  | .str a, .int k => (-1000 ≤ k ∧ k ≤ 10000 ∧ a.length ≤ 1000) ∧ Q (.str (repS a k))
  | _, _ => False
/-- // by a divisor of any sign -/
def oDivN (x y : D) (Q : DK) : Prop := match x, y with
  | .int i, .int j => (j ≠ 0 ∧ j.natAbs.log2 < 9000) ∧ Q (.int (i.fdiv j))
  | _, _ => False
/-- two digits -/
def two (i : Int) : Str := ⟨#[48 + i.toNat / 10, 48 + i.toNat % 10]⟩
/-- {x} -/
def gFmt (x : D) (Q : DK) : Prop := match x with
  | .str y => y.length ≤ lineMax ∧ Q (.str y)
  | .int i => i.natAbs.log2 < 1920 ∧ Q (.str (toString i))
  | _ => False
def dFmt (p : DT) : DT := fun E ρ Q => p E ρ fun x => gFmt x Q
/-- {x:02d} of a number of two digits -/
def gFmt2 (x : D) (Q : DK) : Prop := match x with
  | .int i => (0 ≤ i ∧ i < 100) ∧ Q (.str (two i))
  | _ => False
def dFmt2 (p : DT) : DT := fun E ρ Q => p E ρ fun x => gFmt2 x Q
def gStr (x : D) (Q : Str → Prop) : Prop := match x with
  | .str y => Q y
  | _ => False
/-- the parts of an f-string, one behind the other -/
def dJs : List DT → Str → EK → Env → (Str → Prop) → Prop
  | [], acc, _, _, Q => Q acc
  | t :: ts, acc, E, ρ, Q => t E ρ fun x => gStr x fun y => (acc ++ y).length ≤ lineMax ∧ dJs ts (acc ++ y) E ρ Q
def dJoin (ts : List DT) : DT := fun E ρ Q => dJs ts Str.empty E ρ fun y => Q (.str y)
/-- for x in xs: if c: return r, xs a list of the def's own that stays so -/
def forQ (g : DG) (c : DB) (r : DT) (K : DE) (ρ : Env) (N : Prop) : List D → Prop
  | [] => N
  | x :: xs => g x ρ fun ρ' => c noE ρ' fun k => if k = true then r noE ρ' (fun d => isFlat d = true ∧ K.rt d) else forQ g c r K ρ N xs
def sForQ (i : Nat) (js : List Nat) (g : DG) (c : DB) (r : DT) : DS := fun _ K ρ => gOL ρ[i]? fun xs => i ∉ js ∧ forQ g c r K (bor (fgt js ρ)) (K.nx (fgt js ρ)) xs
/-- sorted of triples: a number, a truth, a number -/
def triD (t : Int × Bool × Int) : D := .tup [.int t.1, .bl t.2.1, .int t.2.2]
def tb (b : Bool) : Int := if b then 1 else 0
def triLt (p q : Int × Bool × Int) : Prop := p.1 < q.1 ∨ (p.1 = q.1 ∧ (tb p.2.1 < tb q.2.1 ∨ (tb p.2.1 = tb q.2.1 ∧ p.2.2 < q.2.2)))
def fSorted3 (xs : List D) (Q : DK) : Prop := ∃ ts : List (Int × Bool × Int), xs = [.lst (ts.map triD)] ∧ ∀ us : List (Int × Bool × Int), us.Perm ts → (us.Pairwise fun p q => ¬ triLt q p) → Q (.lst (us.map triD))
/-- .get(k, z) of a written dict of the module: texts to texts -/
def kgetD (kvs : List (Str × Str)) (x z : D) (Q : DK) : Prop := match x with
  | .str k => Q (match kvs.lookup k with
    | some v => .str v
    | none => z)
  | _ => False
def dKGet2 (kvs : List (Str × Str)) (k z : DT) : DT := fun E ρ Q => k E ρ fun x => z E ρ fun y => kgetD kvs x y Q
/-- a text's place in another one -/
def gInS (x y : D) (Q : DK) : Prop := match x, y with
  | .str a, .str b => Q (.bl (!(Builtin.Str.occurrences b a 0 b.length 1).isEmpty))
  | _, _ => False
/-- zip of a tuple and a plain text -/
def gZipT (xs : List D) (Q : List D → Prop) : Prop := match xs with
  | [.tup l, .str z] => z.cps.all (· < 128) = true ∧ Q (zipD l (z.cps.toList.map fun c => .str ⟨#[c]⟩))
  | _ => False
def iZipT (a : DA) : DI := fun E ρ Q => a E ρ fun xs => gZipT xs Q
/-- [.., *x, ..] -/
def gStar (x : D) (Q : List D → Prop) : Prop := match x with
  | .lst xs => Q xs
  | .tup xs => Q xs
  | _ => False
def aStar (a : DT) (r : DA) : DA := fun E ρ Q => a E ρ fun x => gStar x fun xs => r E ρ fun ys => Q (xs ++ ys)
/-- except C as e: return what is said of e -/
def sTryE (m : String) (os : List String) (i : Nat) (R : Err → DK → Prop) (b : DS) : DS := fun E B ρ => b (fun e ρ' => if e.cls = m then i < ρ'.length ∧ R e B.rt else e.cls ∈ os ∧ E e ρ') B ρ
/-- what is said of e: its fields, what is written, tuples of both, operations -/
def xFld (f : Str) : Err → DK → Prop := fun e Q => match e.fs.lookup f with
  | some d => Q d
  | none => False
def xC (d : D) : Err → DK → Prop := fun _ Q => Q d
def xNil : Err → (List D → Prop) → Prop := fun _ Q => Q []
def xCons (a : Err → DK → Prop) (r : Err → (List D → Prop) → Prop) : Err → (List D → Prop) → Prop := fun e Q => a e fun x => r e fun xs => Q (x :: xs)
def xTup (a : Err → (List D → Prop) → Prop) : Err → DK → Prop := fun e Q => a e fun xs => xs.length ≤ lineMax ∧ Q (.tup xs)
def xOp (f : D → D → DK → Prop) (a b : Err → DK → Prop) : Err → DK → Prop := fun e Q => a e fun x => b e fun y => f x y Q
/-- sorted of a dict whose keys are texts -/
def skeys : List (Key × D) → Option (List Str)
  | [] => some []
  | (.inr x, _) :: r => (skeys r).map (x :: ·)
  | (.inl _, _) :: _ => none
def fSortedT (xs : List D) (Q : DK) : Prop := match xs with
  | [.dk kvs] => match skeys kvs with
    | some ks => ks.length < 64 ∧ ∀ ys : List Str, ys.Perm ks → Q (.lst (ys.map .str))
    | none => False
  | _ => False
end DL

/-! DReprD: the text that repr gives of data. -/
namespace DL
open PySem
def keyR : Key → PyData
  | .inl i => .int i
  | .inr x => .str x
mutual
def toR : D → PyData
  | .non => .none
  | .bl b => .bool b
  | .int i => .int i
  | .str x => .str x
  | .tup l => .tuple (toRs l)
  | .lst l => .list (toRs l)
  | .dk l => .dict (toRk l)
  | _ => .none
def toRs : List D → List PyData
  | [] => []
  | d :: r => toR d :: toRs r
def toRk : List (Key × D) → List (PyData × PyData)
  | [] => []
  | (k, d) :: r => (keyR k, toR d) :: toRk r
end
def okKey : Key → Bool
  | .inl i => decide (i.natAbs.log2 < 1920)
  | .inr _ => true
mutual
def okR : Nat → D → Bool
  | _, .non => true
  | _, .bl _ => true
  | _, .int i => decide (i.natAbs.log2 < 1920)
  | _, .str _ => true
  | n + 1, .tup l => okRs n l
  | n + 1, .lst l => okRs n l
  | n + 1, .dk l => okRk n l
  | _, _ => false
def okRs : Nat → List D → Bool
  | _, [] => true
  | n, d :: r => okR n d && okRs n r
def okRk : Nat → List (Key × D) → Bool
  | _, [] => true
  | n, (k, d) :: r => okKey k && okR n d && okRk n r
end
def reprD (d : D) : Str := (toR d).shown
def isRef : D → Bool
  | .tup _ => true
  | .lst _ => true
  | .dk _ => true
  | _ => false
def fRepr (xs : List D) (Q : DK) : Prop := match xs with
  | [d] => (isRef d = true ∧ okR 20 d = true ∧ (reprD d).length ≤ lineMax) ∧ Q (.str (reprD d))
  | _ => False
mutual
theorem depthR : ∀ (n : Nat) (d : D), okR n d = true → (toR d).depth ≤ n
  | _, .non, _ => by simp only [toR, PyData.depth]; omega
  | _, .bl _, _ => by simp only [toR, PyData.depth]; omega
  | _, .int _, _ => by simp only [toR, PyData.depth]; omega
  | _, .str _, _ => by simp only [toR, PyData.depth]; omega
  | n + 1, .tup l, h => by
    have := depthRs n l (by simpa [okR] using h)
    simp only [toR, PyData.depth]; omega
  | n + 1, .lst l, h => by
    have := depthRs n l (by simpa [okR] using h)
    simp only [toR, PyData.depth]; omega
  | n + 1, .dk l, h => by
    have := depthRk n l (by simpa [okR] using h)
    simp only [toR, PyData.depth]; omega
  | 0, .tup _, h => by simp [okR] at h
  | 0, .lst _, h => by simp [okR] at h
  | 0, .dk _, h => by simp [okR] at h
  | _, .dt _, h => by simp [okR] at h
  | _, .ins _ _, h => by simp [okR] at h
  | _, .st, h => by simp [okR] at h
  | _, .scr _, h => by simp [okR] at h
  | _, .fn _, h => by simp [okR] at h
theorem depthRs : ∀ (n : Nat) (l : List D), okRs n l = true → PyData.depthAll (toRs l) ≤ n
  | _, [], _ => by simp only [toRs, PyData.depthAll]; omega
  | n, d :: r, h => by
    have h' : okR n d = true ∧ okRs n r = true := by simpa [okRs] using h
    have := depthR n d h'.1
    have := depthRs n r h'.2
    simp only [toRs, PyData.depthAll]; omega
theorem depthRk : ∀ (n : Nat) (l : List (Key × D)), okRk n l = true → PyData.depthKv (toRk l) ≤ n
  | _, [], _ => by simp only [toRk, PyData.depthKv]; omega
  | n, (k, d) :: r, h => by
    have h' : okR n d = true ∧ okRk n r = true := by
      simp only [okRk, Bool.and_eq_true] at h
      exact ⟨h.1.2, h.2⟩
    have := depthR n d h'.1
    have := depthRk n r h'.2
    have : (keyR k).depth = 0 := by cases k <;> simp only [keyR, PyData.depth]
    simp only [toRk, PyData.depthKv]; omega
end
end DL

/-! The text of the law, read as plain Lean. -/
namespace K14
open PySem DL
@[reducible] def T_arch : DS := (sRet (dOp oDiv (dOp oMul (dOp oMul (dC (.int (1000000))) (dVar 0)) (dOp oSub (dOp oMul (dOp oMul (dC (.int 3)) (dC (.int (324000)))) (dC (.int (324000)))) (dOp oMul (dVar 0) (dVar 0)))) (dOp oMul (dOp oMul (dOp oMul (dC (.int 2)) (dC (.int (324000)))) (dC (.int (324000)))) (dC (.int (324000))))))
def W_arch : DF := defT 1 1 T_arch
theorem W_arch_w {ds : List D} {Q : DK} {E : Err → Prop} : W_arch ds Q E ↔ ds.length = 1 ∧ (sRet (dOp oDiv (dOp oMul (dOp oMul (dC (.int (1000000))) (dVar 0)) (dOp oSub (dOp oMul (dOp oMul (dC (.int 3)) (dC (.int (324000)))) (dC (.int (324000)))) (dOp oMul (dVar 0) (dVar 0)))) (dOp oMul (dOp oMul (dOp oMul (dC (.int 2)) (dC (.int (324000)))) (dC (.int (324000)))) (dC (.int (324000)))))) (fun e _ => E e) { nx := fun _ => Q .non, rt := Q } (envOf 1 ds) := id Iff.rfl
@[reducible] def T_wave_4 : DS :=
    (sRet (dUn oNeg (dCall W_arch (aCons (dOp oSub (dC (.int (324000))) (dVar 2)) aNil))))
def V_wave_4 : DS := T_wave_4
theorem V_wave_4_w {E : EK} {K : DE} {ρ : DL.Env} : V_wave_4 E K ρ ↔ (sRet (dUn oNeg (dCall W_arch (aCons (dOp oSub (dC (.int (324000))) (dVar 2)) aNil)))) E K ρ := id Iff.rfl
@[reducible] def T_wave_3 : DS :=
    (sSeq (sIf (bT (dOp oEq (dVar 1) (dC (.int 2)))) (sRet (dUn oNeg (dCall W_arch (aCons (dVar 2) aNil)))) sNext)
    T_wave_4)
def V_wave_3 : DS := T_wave_3
theorem V_wave_3_w {E : EK} {K : DE} {ρ : DL.Env} : V_wave_3 E K ρ ↔ (sIf (bT (dOp oEq (dVar 1) (dC (.int 2)))) (sRet (dUn oNeg (dCall W_arch (aCons (dVar 2) aNil)))) sNext) E { K with nx := V_wave_4 E K } ρ := id Iff.rfl
@[reducible] def T_wave_2 : DS :=
    (sSeq (sIf (bT (dOp oEq (dVar 1) (dC (.int 1)))) (sRet (dCall W_arch (aCons (dOp oSub (dC (.int (324000))) (dVar 2)) aNil))) sNext)
    T_wave_3)
def V_wave_2 : DS := T_wave_2
theorem V_wave_2_w {E : EK} {K : DE} {ρ : DL.Env} : V_wave_2 E K ρ ↔ (sIf (bT (dOp oEq (dVar 1) (dC (.int 1)))) (sRet (dCall W_arch (aCons (dOp oSub (dC (.int (324000))) (dVar 2)) aNil))) sNext) E { K with nx := V_wave_3 E K } ρ := id Iff.rfl
@[reducible] def T_wave_1 : DS :=
    (sSeq (sIf (bT (dOp oEq (dVar 1) (dC (.int 0)))) (sRet (dCall W_arch (aCons (dVar 2) aNil))) sNext)
    T_wave_2)
def V_wave_1 : DS := T_wave_1
theorem V_wave_1_w {E : EK} {K : DE} {ρ : DL.Env} : V_wave_1 E K ρ ↔ (sIf (bT (dOp oEq (dVar 1) (dC (.int 0)))) (sRet (dCall W_arch (aCons (dVar 2) aNil))) sNext) E { K with nx := V_wave_2 E K } ρ := id Iff.rfl
@[reducible] def T_wave_0 : DS :=
    (sSeq (sAsg (dBlt fDivmod (aCons (dOp oMod (dVar 0) (dC (.int (1296000)))) (aCons (dC (.int (324000))) aNil))) (gTup (gCons (gName 1) (gCons (gName 2) gNil))))
    T_wave_1)
def V_wave_0 : DS := T_wave_0
theorem V_wave_0_w {E : EK} {K : DE} {ρ : DL.Env} : V_wave_0 E K ρ ↔ (sAsg (dBlt fDivmod (aCons (dOp oMod (dVar 0) (dC (.int (1296000)))) (aCons (dC (.int (324000))) aNil))) (gTup (gCons (gName 1) (gCons (gName 2) gNil)))) E { K with nx := V_wave_1 E K } ρ := id Iff.rfl
@[reducible] def T_wave : DS := T_wave_0
def W_wave : DF := defT 1 3 T_wave
theorem W_wave_w {ds : List D} {Q : DK} {E : Err → Prop} : W_wave ds Q E ↔ ds.length = 1 ∧ V_wave_0 (fun e _ => E e) { nx := fun _ => Q .non, rt := Q } (envOf 3 ds) := id Iff.rfl
@[reducible] def T_cosine : DS := (sRet (dTup (aCons (dC (.str "wave")) (aCons (dTup (aCons (dC (.str "moved")) (aCons (dVar 0) (aCons (dTup (aCons (dC (.str "number")) (aCons (dC (.int (324000))) aNil))) aNil)))) aNil))))
def W_cosine : DF := defT 1 1 T_cosine
theorem W_cosine_w {ds : List D} {Q : DK} {E : Err → Prop} : W_cosine ds Q E ↔ ds.length = 1 ∧ (sRet (dTup (aCons (dC (.str "wave")) (aCons (dTup (aCons (dC (.str "moved")) (aCons (dVar 0) (aCons (dTup (aCons (dC (.str "number")) (aCons (dC (.int (324000))) aNil))) aNil)))) aNil)))) (fun e _ => E e) { nx := fun _ => Q .non, rt := Q } (envOf 1 ds) := id Iff.rfl
@[reducible] def T_is_number : DS := (sRet (dAndV (dIsi "int" (dVar 0)) (dAndV (dNotV (dIsi "bool" (dVar 0))) (dChain oLe oLe (dVar 1) (dVar 0) (dC (.int (1000000000000)))))))
def W_is_number : DF := defT 2 2 T_is_number
theorem W_is_number_w {ds : List D} {Q : DK} {E : Err → Prop} : W_is_number ds Q E ↔ ds.length = 2 ∧ (sRet (dAndV (dIsi "int" (dVar 0)) (dAndV (dNotV (dIsi "bool" (dVar 0))) (dChain oLe oLe (dVar 1) (dVar 0) (dC (.int (1000000000000))))))) (fun e _ => E e) { nx := fun _ => Q .non, rt := Q } (envOf 2 ds) := id Iff.rfl
@[reducible] def T_letters_of_5 : DS :=
    (sFgt [1, 2] (sRet (dIf (bT (dOp oEq (dBlt fLen (aCons (dVar 3) aNil)) (dOp oSub (dBlt fLen (aCons (dVar 0) aNil)) (dC (.int 1))))) (dVar 3) (dC (.str "")))))
def V_letters_of_5 : DS := T_letters_of_5
theorem V_letters_of_5_w {E : EK} {K : DE} {ρ : DL.Env} : V_letters_of_5 E K ρ ↔ (sFgt [1, 2] (sRet (dIf (bT (dOp oEq (dBlt fLen (aCons (dVar 3) aNil)) (dOp oSub (dBlt fLen (aCons (dVar 0) aNil)) (dC (.int 1))))) (dVar 3) (dC (.str ""))))) E K ρ := id Iff.rfl
@[reducible] def T_letters_of_4 : DS :=
    (sSeq (sIf (bT (dOp oEq (dOp oIx (dVar 0) (dC (.int 0))) (dC (.str "sum")))) (sSet 3 (dOp oMulS (dC (.str "q")) (dOp oSub (dBlt fLen (aCons (dVar 0) aNil)) (dC (.int 1))))) sNext)
    T_letters_of_5)
def V_letters_of_4 : DS := T_letters_of_4
theorem V_letters_of_4_w {E : EK} {K : DE} {ρ : DL.Env} : V_letters_of_4 E K ρ ↔ (sIf (bT (dOp oEq (dOp oIx (dVar 0) (dC (.int 0))) (dC (.str "sum")))) (sSet 3 (dOp oMulS (dC (.str "q")) (dOp oSub (dBlt fLen (aCons (dVar 0) aNil)) (dC (.int 1))))) sNext) E { K with nx := V_letters_of_5 E K } ρ := id Iff.rfl
@[reducible] def T_letters_of_3 : DS :=
    (sSeq (sSet 3 (dSlice (dVar 2) (oS (dC (.int 1))) oN))
    T_letters_of_4)
def V_letters_of_3 : DS := T_letters_of_3
theorem V_letters_of_3_w {E : EK} {K : DE} {ρ : DL.Env} : V_letters_of_3 E K ρ ↔ (sSet 3 (dSlice (dVar 2) (oS (dC (.int 1))) oN)) E { K with nx := V_letters_of_4 E K } ρ := id Iff.rfl
@[reducible] def T_letters_of_2 : DS :=
    (sSeq (sIf (bOr (bT (dOp oEq (dVar 2) (dC (.str "")))) (bT (dOp oNe (dOp oIx (dVar 2) (dC (.int 0))) (dVar 1)))) (sRet (dC (.str ""))) sNext)
    T_letters_of_3)
def V_letters_of_2 : DS := T_letters_of_2
theorem V_letters_of_2_w {E : EK} {K : DE} {ρ : DL.Env} : V_letters_of_2 E K ρ ↔ (sIf (bOr (bT (dOp oEq (dVar 2) (dC (.str "")))) (bT (dOp oNe (dOp oIx (dVar 2) (dC (.int 0))) (dVar 1)))) (sRet (dC (.str ""))) sNext) E { K with nx := V_letters_of_3 E K } ρ := id Iff.rfl
@[reducible] def T_letters_of_1 : DS :=
    (sSeq (sSet 2 (dKGet2 [("number", "qn"), ("wave", "qa"), ("sum", "q"), ("share", "qqnd"), ("product", "qqqd"), ("later", "qqn"), ("turning", "annd"), ("moved", "aaq"), ("minus", "aaa")] (dOp oIx (dVar 0) (dC (.int 0))) (dC (.str ""))))
    T_letters_of_2)
def V_letters_of_1 : DS := T_letters_of_1
theorem V_letters_of_1_w {E : EK} {K : DE} {ρ : DL.Env} : V_letters_of_1 E K ρ ↔ (sSet 2 (dKGet2 [("number", "qn"), ("wave", "qa"), ("sum", "q"), ("share", "qqnd"), ("product", "qqqd"), ("later", "qqn"), ("turning", "annd"), ("moved", "aaq"), ("minus", "aaa")] (dOp oIx (dVar 0) (dC (.int 0))) (dC (.str "")))) E { K with nx := V_letters_of_2 E K } ρ := id Iff.rfl
@[reducible] def T_letters_of_0 : DS :=
    (sSeq (sIf (bOr (bNot (bT (dIsi "tuple" (dVar 0)))) (bOr (bT (dOp oLt (dBlt fLen (aCons (dVar 0) aNil)) (dC (.int 2)))) (bNot (bT (dIsi "str" (dOp oIx (dVar 0) (dC (.int 0)))))))) (sRet (dC (.str ""))) sNext)
    T_letters_of_1)
def V_letters_of_0 : DS := T_letters_of_0
theorem V_letters_of_0_w {E : EK} {K : DE} {ρ : DL.Env} : V_letters_of_0 E K ρ ↔ (sIf (bOr (bNot (bT (dIsi "tuple" (dVar 0)))) (bOr (bT (dOp oLt (dBlt fLen (aCons (dVar 0) aNil)) (dC (.int 2)))) (bNot (bT (dIsi "str" (dOp oIx (dVar 0) (dC (.int 0)))))))) (sRet (dC (.str ""))) sNext) E { K with nx := V_letters_of_1 E K } ρ := id Iff.rfl
@[reducible] def T_letters_of : DS := T_letters_of_0
def W_letters_of : DF := defT 2 4 T_letters_of
theorem W_letters_of_w {ds : List D} {Q : DK} {E : Err → Prop} : W_letters_of ds Q E ↔ ds.length = 2 ∧ V_letters_of_0 (fun e _ => E e) { nx := fun _ => Q .non, rt := Q } (envOf 4 ds) := id Iff.rfl
@[reducible] def T_fits_2 (R_fits R_is_expression : DF) : DS :=
    (sRet (dCall R_is_expression (aCons (dVar 0) (aCons (dVar 1) (aCons (dVar 2) aNil)))))
def V_fits_2 (R_fits R_is_expression : DF) : DS := T_fits_2 R_fits R_is_expression
theorem V_fits_2_w {R_fits R_is_expression : DF} {E : EK} {K : DE} {ρ : DL.Env} : V_fits_2 R_fits R_is_expression E K ρ ↔ (sRet (dCall R_is_expression (aCons (dVar 0) (aCons (dVar 1) (aCons (dVar 2) aNil))))) E K ρ := id Iff.rfl
@[reducible] def T_fits_1 (R_fits R_is_expression : DF) : DS :=
    (sSeq (sIf (bT (dOp oEq (dVar 1) (dC (.str "d")))) (sRet (dCall W_is_number (aCons (dVar 0) (aCons (dC (.int 1)) aNil)))) sNext)
    (T_fits_2 R_fits R_is_expression))
def V_fits_1 (R_fits R_is_expression : DF) : DS := T_fits_1 R_fits R_is_expression
theorem V_fits_1_w {R_fits R_is_expression : DF} {E : EK} {K : DE} {ρ : DL.Env} : V_fits_1 R_fits R_is_expression E K ρ ↔ (sIf (bT (dOp oEq (dVar 1) (dC (.str "d")))) (sRet (dCall W_is_number (aCons (dVar 0) (aCons (dC (.int 1)) aNil)))) sNext) E { K with nx := (V_fits_2 R_fits R_is_expression) E K } ρ := id Iff.rfl
@[reducible] def T_fits_0 (R_fits R_is_expression : DF) : DS :=
    (sSeq (sIf (bT (dOp oEq (dVar 1) (dC (.str "n")))) (sRet (dCall W_is_number (aCons (dVar 0) (aCons (dUn oNeg (dC (.int (1000000000000)))) aNil)))) sNext)
    (T_fits_1 R_fits R_is_expression))
def V_fits_0 (R_fits R_is_expression : DF) : DS := T_fits_0 R_fits R_is_expression
theorem V_fits_0_w {R_fits R_is_expression : DF} {E : EK} {K : DE} {ρ : DL.Env} : V_fits_0 R_fits R_is_expression E K ρ ↔ (sIf (bT (dOp oEq (dVar 1) (dC (.str "n")))) (sRet (dCall W_is_number (aCons (dVar 0) (aCons (dUn oNeg (dC (.int (1000000000000)))) aNil)))) sNext) E { K with nx := (V_fits_1 R_fits R_is_expression) E K } ρ := id Iff.rfl
@[reducible] def T_fits (R_fits R_is_expression : DF) : DS := (T_fits_0 R_fits R_is_expression)
@[reducible] def T_is_expression_3 (R_fits R_is_expression : DF) : DS :=
    (sRet (dBlt fAll (aCons (dLc (iZipT (aCons (dSlice (dVar 0) (oS (dC (.int 1))) oN) (aCons (dVar 3) aNil))) (gTup (gCons (gName 4) (gCons (gName 5) gNil))) bYes (dCall R_fits (aCons (dVar 4) (aCons (dVar 5) (aCons (dOp oSub (dVar 2) (dC (.int 1))) aNil)))) [4, 5]) aNil)))
def V_is_expression_3 (R_fits R_is_expression : DF) : DS := T_is_expression_3 R_fits R_is_expression
theorem V_is_expression_3_w {R_fits R_is_expression : DF} {E : EK} {K : DE} {ρ : DL.Env} : V_is_expression_3 R_fits R_is_expression E K ρ ↔ (sRet (dBlt fAll (aCons (dLc (iZipT (aCons (dSlice (dVar 0) (oS (dC (.int 1))) oN) (aCons (dVar 3) aNil))) (gTup (gCons (gName 4) (gCons (gName 5) gNil))) bYes (dCall R_fits (aCons (dVar 4) (aCons (dVar 5) (aCons (dOp oSub (dVar 2) (dC (.int 1))) aNil)))) [4, 5]) aNil))) E K ρ := id Iff.rfl
@[reducible] def T_is_expression_2 (R_fits R_is_expression : DF) : DS :=
    (sSeq (sIf (bT (dOp oEq (dVar 3) (dC (.str "")))) (sRet (dC (.bl false))) sNext)
    (T_is_expression_3 R_fits R_is_expression))
def V_is_expression_2 (R_fits R_is_expression : DF) : DS := T_is_expression_2 R_fits R_is_expression
theorem V_is_expression_2_w {R_fits R_is_expression : DF} {E : EK} {K : DE} {ρ : DL.Env} : V_is_expression_2 R_fits R_is_expression E K ρ ↔ (sIf (bT (dOp oEq (dVar 3) (dC (.str "")))) (sRet (dC (.bl false))) sNext) E { K with nx := (V_is_expression_3 R_fits R_is_expression) E K } ρ := id Iff.rfl
@[reducible] def T_is_expression_1 (R_fits R_is_expression : DF) : DS :=
    (sSeq (sSet 3 (dCall W_letters_of (aCons (dVar 0) (aCons (dVar 1) aNil))))
    (T_is_expression_2 R_fits R_is_expression))
def V_is_expression_1 (R_fits R_is_expression : DF) : DS := T_is_expression_1 R_fits R_is_expression
theorem V_is_expression_1_w {R_fits R_is_expression : DF} {E : EK} {K : DE} {ρ : DL.Env} : V_is_expression_1 R_fits R_is_expression E K ρ ↔ (sSet 3 (dCall W_letters_of (aCons (dVar 0) (aCons (dVar 1) aNil)))) E { K with nx := (V_is_expression_2 R_fits R_is_expression) E K } ρ := id Iff.rfl
@[reducible] def T_is_expression_0 (R_fits R_is_expression : DF) : DS :=
    (sSeq (sIf (bT (dOp oEq (dVar 2) (dC (.int 0)))) (sRet (dC (.bl false))) sNext)
    (T_is_expression_1 R_fits R_is_expression))
def V_is_expression_0 (R_fits R_is_expression : DF) : DS := T_is_expression_0 R_fits R_is_expression
theorem V_is_expression_0_w {R_fits R_is_expression : DF} {E : EK} {K : DE} {ρ : DL.Env} : V_is_expression_0 R_fits R_is_expression E K ρ ↔ (sIf (bT (dOp oEq (dVar 2) (dC (.int 0)))) (sRet (dC (.bl false))) sNext) E { K with nx := (V_is_expression_1 R_fits R_is_expression) E K } ρ := id Iff.rfl
@[reducible] def T_is_expression (R_fits R_is_expression : DF) : DS := (T_is_expression_0 R_fits R_is_expression)
mutual
def G_fits : Nat → DF
  | 0 => fun _ _ _ => False
  | n + 1 => defT 3 3 (T_fits (G_fits n) (G_is_expression n))
def G_is_expression : Nat → DF
  | 0 => fun _ _ _ => False
  | n + 1 => defT 3 6 (T_is_expression (G_fits n) (G_is_expression n))
end
theorem G_fits_w {n : Nat} {ds : List D} {Q : DK} {E : Err → Prop} : G_fits (n + 1) ds Q E ↔ ds.length = 3 ∧ (V_fits_0 (G_fits n) (G_is_expression n)) (fun e _ => E e) { nx := fun _ => Q .non, rt := Q } (envOf 3 ds) := id Iff.rfl
def W_fits : DF := upN G_fits 60
theorem G_is_expression_w {n : Nat} {ds : List D} {Q : DK} {E : Err → Prop} : G_is_expression (n + 1) ds Q E ↔ ds.length = 3 ∧ (V_is_expression_0 (G_fits n) (G_is_expression n)) (fun e _ => E e) { nx := fun _ => Q .non, rt := Q } (envOf 6 ds) := id Iff.rfl
def W_is_expression : DF := upN G_is_expression 60
@[reducible] def T_is_quantity : DS := (sRet (dCall W_is_expression (aCons (dVar 0) (aCons (dC (.str "q")) (aCons (dC (.int (20))) aNil)))))
def W_is_quantity : DF := defT 1 1 T_is_quantity
theorem W_is_quantity_w {ds : List D} {Q : DK} {E : Err → Prop} : W_is_quantity ds Q E ↔ ds.length = 1 ∧ (sRet (dCall W_is_expression (aCons (dVar 0) (aCons (dC (.str "q")) (aCons (dC (.int (20))) aNil))))) (fun e _ => E e) { nx := fun _ => Q .non, rt := Q } (envOf 1 ds) := id Iff.rfl
@[reducible] def T_is_angle : DS := (sRet (dCall W_is_expression (aCons (dVar 0) (aCons (dC (.str "a")) (aCons (dC (.int (20))) aNil)))))
def W_is_angle : DF := defT 1 1 T_is_angle
theorem W_is_angle_w {ds : List D} {Q : DK} {E : Err → Prop} : W_is_angle ds Q E ↔ ds.length = 1 ∧ (sRet (dCall W_is_expression (aCons (dVar 0) (aCons (dC (.str "a")) (aCons (dC (.int (20))) aNil))))) (fun e _ => E e) { nx := fun _ => Q .non, rt := Q } (envOf 1 ds) := id Iff.rfl
@[reducible] def T_negative : DS := (sRet (dTup (aCons (dC (.str "share")) (aCons (dVar 0) (aCons (dUn oNeg (dC (.int 1))) (aCons (dC (.int 1)) aNil))))))
def W_negative : DF := defT 1 1 T_negative
theorem W_negative_w {ds : List D} {Q : DK} {E : Err → Prop} : W_negative ds Q E ↔ ds.length = 1 ∧ (sRet (dTup (aCons (dC (.str "share")) (aCons (dVar 0) (aCons (dUn oNeg (dC (.int 1))) (aCons (dC (.int 1)) aNil)))))) (fun e _ => E e) { nx := fun _ => Q .non, rt := Q } (envOf 1 ds) := id Iff.rfl
@[reducible] def T_term_quantity_1 : DS :=
    (sRet (dTup (aCons (dC (.str "share")) (aCons (dTup (aCons (dC (.str "wave")) (aCons (dTup (aCons (dC (.str "turning")) (aCons (dVar 2) (aCons (dVar 3) (aCons (dVar 4) aNil))))) aNil))) (aCons (dVar 1) (aCons (dC (.int (1000000))) aNil))))))
def V_term_quantity_1 : DS := T_term_quantity_1
theorem V_term_quantity_1_w {E : EK} {K : DE} {ρ : DL.Env} : V_term_quantity_1 E K ρ ↔ (sRet (dTup (aCons (dC (.str "share")) (aCons (dTup (aCons (dC (.str "wave")) (aCons (dTup (aCons (dC (.str "turning")) (aCons (dVar 2) (aCons (dVar 3) (aCons (dVar 4) aNil))))) aNil))) (aCons (dVar 1) (aCons (dC (.int (1000000))) aNil)))))) E K ρ := id Iff.rfl
@[reducible] def T_term_quantity_0 : DS :=
    (sSeq (sAsg (dVar 0) (gTup (gCons (gName 1) (gCons (gName 2) (gCons (gName 3) (gCons (gName 4) gNil))))))
    T_term_quantity_1)
def V_term_quantity_0 : DS := T_term_quantity_0
theorem V_term_quantity_0_w {E : EK} {K : DE} {ρ : DL.Env} : V_term_quantity_0 E K ρ ↔ (sAsg (dVar 0) (gTup (gCons (gName 1) (gCons (gName 2) (gCons (gName 3) (gCons (gName 4) gNil)))))) E { K with nx := V_term_quantity_1 E K } ρ := id Iff.rfl
@[reducible] def T_term_quantity : DS := T_term_quantity_0
def W_term_quantity : DF := defT 1 5 T_term_quantity
theorem W_term_quantity_w {ds : List D} {Q : DK} {E : Err → Prop} : W_term_quantity ds Q E ↔ ds.length = 1 ∧ V_term_quantity_0 (fun e _ => E e) { nx := fun _ => Q .non, rt := Q } (envOf 5 ds) := id Iff.rfl
@[reducible] def T_terms_quantity_1 : DS :=
    (sRet (dTup (aCons (dC (.str "sum")) (aStar (dLc (iSeq (dVar 0)) (gName 1) bYes (dCall W_term_quantity (aCons (dVar 1) aNil)) [1]) aNil))))
def V_terms_quantity_1 : DS := T_terms_quantity_1
theorem V_terms_quantity_1_w {E : EK} {K : DE} {ρ : DL.Env} : V_terms_quantity_1 E K ρ ↔ (sRet (dTup (aCons (dC (.str "sum")) (aStar (dLc (iSeq (dVar 0)) (gName 1) bYes (dCall W_term_quantity (aCons (dVar 1) aNil)) [1]) aNil)))) E K ρ := id Iff.rfl
@[reducible] def T_terms_quantity_0 : DS :=
    (sSeq (sIf (bNot (bTruth (dVar 0))) (sRet (dTup (aCons (dC (.str "number")) (aCons (dC (.int 0)) aNil)))) sNext)
    T_terms_quantity_1)
def V_terms_quantity_0 : DS := T_terms_quantity_0
theorem V_terms_quantity_0_w {E : EK} {K : DE} {ρ : DL.Env} : V_terms_quantity_0 E K ρ ↔ (sIf (bNot (bTruth (dVar 0))) (sRet (dTup (aCons (dC (.str "number")) (aCons (dC (.int 0)) aNil)))) sNext) E { K with nx := V_terms_quantity_1 E K } ρ := id Iff.rfl
@[reducible] def T_terms_quantity : DS := T_terms_quantity_0
def W_terms_quantity : DF := defT 1 2 T_terms_quantity
theorem W_terms_quantity_w {ds : List D} {Q : DK} {E : Err → Prop} : W_terms_quantity ds Q E ↔ ds.length = 1 ∧ V_terms_quantity_0 (fun e _ => E e) { nx := fun _ => Q .non, rt := Q } (envOf 2 ds) := id Iff.rfl
@[reducible] def T_body_of_1 : DS :=
    (sRet (dOp oIx (dOp oIx (dVar 0) (dC (.str "bodies"))) (dVar 1)))
def V_body_of_1 : DS := T_body_of_1
theorem V_body_of_1_w {E : EK} {K : DE} {ρ : DL.Env} : V_body_of_1 E K ρ ↔ (sRet (dOp oIx (dOp oIx (dVar 0) (dC (.str "bodies"))) (dVar 1))) E K ρ := id Iff.rfl
@[reducible] def T_body_of_0 : DS :=
    (sSeq (sIf (bT (dOp oNotIn (dVar 1) (dOp oIx (dVar 0) (dC (.str "bodies"))))) (sRaise "SkyError" ["code", "name"] (aCons (dC (.str "body")) (aCons (dVar 1) aNil))) sNext)
    T_body_of_1)
def V_body_of_0 : DS := T_body_of_0
theorem V_body_of_0_w {E : EK} {K : DE} {ρ : DL.Env} : V_body_of_0 E K ρ ↔ (sIf (bT (dOp oNotIn (dVar 1) (dOp oIx (dVar 0) (dC (.str "bodies"))))) (sRaise "SkyError" ["code", "name"] (aCons (dC (.str "body")) (aCons (dVar 1) aNil))) sNext) E { K with nx := V_body_of_1 E K } ρ := id Iff.rfl
@[reducible] def T_body_of : DS := T_body_of_0
def W_body_of : DF := defT 2 2 T_body_of
theorem W_body_of_w {ds : List D} {Q : DK} {E : Err → Prop} : W_body_of ds Q E ↔ ds.length = 2 ∧ V_body_of_0 (fun e _ => E e) { nx := fun _ => Q .non, rt := Q } (envOf 2 ds) := id Iff.rfl
@[reducible] def T_longitude_2 : DS :=
    (sRet (dTup (aCons (dC (.str "moved")) (aCons (dTup (aCons (dC (.str "turning")) (aCons (dVar 3) (aCons (dVar 4) (aCons (dVar 5) aNil))))) (aCons (dCall W_terms_quantity (aCons (dOp oIx (dVar 2) (dC (.str "terms"))) aNil)) aNil)))))
def V_longitude_2 : DS := T_longitude_2
theorem V_longitude_2_w {E : EK} {K : DE} {ρ : DL.Env} : V_longitude_2 E K ρ ↔ (sRet (dTup (aCons (dC (.str "moved")) (aCons (dTup (aCons (dC (.str "turning")) (aCons (dVar 3) (aCons (dVar 4) (aCons (dVar 5) aNil))))) (aCons (dCall W_terms_quantity (aCons (dOp oIx (dVar 2) (dC (.str "terms"))) aNil)) aNil))))) E K ρ := id Iff.rfl
@[reducible] def T_longitude_1 : DS :=
    (sSeq (sAsg (dOp oIx (dVar 2) (dC (.str "motion"))) (gTup (gCons (gName 3) (gCons (gName 4) (gCons (gName 5) gNil)))))
    T_longitude_2)
def V_longitude_1 : DS := T_longitude_1
theorem V_longitude_1_w {E : EK} {K : DE} {ρ : DL.Env} : V_longitude_1 E K ρ ↔ (sAsg (dOp oIx (dVar 2) (dC (.str "motion"))) (gTup (gCons (gName 3) (gCons (gName 4) (gCons (gName 5) gNil))))) E { K with nx := V_longitude_2 E K } ρ := id Iff.rfl
@[reducible] def T_longitude_0 : DS :=
    (sSeq (sSet 2 (dCall W_body_of (aCons (dVar 0) (aCons (dVar 1) aNil))))
    T_longitude_1)
def V_longitude_0 : DS := T_longitude_0
theorem V_longitude_0_w {E : EK} {K : DE} {ρ : DL.Env} : V_longitude_0 E K ρ ↔ (sSet 2 (dCall W_body_of (aCons (dVar 0) (aCons (dVar 1) aNil)))) E { K with nx := V_longitude_1 E K } ρ := id Iff.rfl
@[reducible] def T_longitude : DS := T_longitude_0
def W_longitude : DF := defT 2 6 T_longitude
theorem W_longitude_w {ds : List D} {Q : DK} {E : Err → Prop} : W_longitude ds Q E ↔ ds.length = 2 ∧ V_longitude_0 (fun e _ => E e) { nx := fun _ => Q .non, rt := Q } (envOf 6 ds) := id Iff.rfl
@[reducible] def T_latitude : DS := (sRet (dCall W_terms_quantity (aCons (dOp oIx (dCall W_body_of (aCons (dVar 0) (aCons (dVar 1) aNil))) (dC (.str "latitude"))) aNil)))
def W_latitude : DF := defT 2 2 T_latitude
theorem W_latitude_w {ds : List D} {Q : DK} {E : Err → Prop} : W_latitude ds Q E ↔ ds.length = 2 ∧ (sRet (dCall W_terms_quantity (aCons (dOp oIx (dCall W_body_of (aCons (dVar 0) (aCons (dVar 1) aNil))) (dC (.str "latitude"))) aNil))) (fun e _ => E e) { nx := fun _ => Q .non, rt := Q } (envOf 2 ds) := id Iff.rfl
@[reducible] def T_elongation : DS := (sRet (dTup (aCons (dC (.str "minus")) (aCons (dCall W_longitude (aCons (dVar 0) (aCons (dVar 1) aNil))) (aCons (dCall W_longitude (aCons (dVar 0) (aCons (dVar 2) aNil))) aNil)))))
def W_elongation : DF := defT 3 3 T_elongation
theorem W_elongation_w {ds : List D} {Q : DK} {E : Err → Prop} : W_elongation ds Q E ↔ ds.length = 3 ∧ (sRet (dTup (aCons (dC (.str "minus")) (aCons (dCall W_longitude (aCons (dVar 0) (aCons (dVar 1) aNil))) (aCons (dCall W_longitude (aCons (dVar 0) (aCons (dVar 2) aNil))) aNil))))) (fun e _ => E e) { nx := fun _ => Q .non, rt := Q } (envOf 3 ds) := id Iff.rfl
@[reducible] def T_product : DS := (sRet (dTup (aCons (dC (.str "product")) (aCons (dVar 0) (aCons (dVar 1) (aCons (dC (.int (1000000))) aNil))))))
def W_product : DF := defT 2 2 T_product
theorem W_product_w {ds : List D} {Q : DK} {E : Err → Prop} : W_product ds Q E ↔ ds.length = 2 ∧ (sRet (dTup (aCons (dC (.str "product")) (aCons (dVar 0) (aCons (dVar 1) (aCons (dC (.int (1000000))) aNil)))))) (fun e _ => E e) { nx := fun _ => Q .non, rt := Q } (envOf 2 ds) := id Iff.rfl
@[reducible] def T_share : DS := (sRet (dTup (aCons (dC (.str "share")) (aCons (dVar 0) (aCons (dVar 1) (aCons (dC (.int (1000000))) aNil))))))
def W_share : DF := defT 2 2 T_share
theorem W_share_w {ds : List D} {Q : DK} {E : Err → Prop} : W_share ds Q E ↔ ds.length = 2 ∧ (sRet (dTup (aCons (dC (.str "share")) (aCons (dVar 0) (aCons (dVar 1) (aCons (dC (.int (1000000))) aNil)))))) (fun e _ => E e) { nx := fun _ => Q .non, rt := Q } (envOf 2 ds) := id Iff.rfl
@[reducible] def T_coordinates_2 : DS :=
    (sRet (dTup (aCons (dCall W_product (aCons (dCall W_cosine (aCons (dVar 3) aNil)) (aCons (dCall W_cosine (aCons (dVar 2) aNil)) aNil))) (aCons (dCall W_product (aCons (dCall W_cosine (aCons (dVar 3) aNil)) (aCons (dTup (aCons (dC (.str "wave")) (aCons (dVar 2) aNil))) aNil))) (aCons (dTup (aCons (dC (.str "wave")) (aCons (dVar 3) aNil))) aNil)))))
def V_coordinates_2 : DS := T_coordinates_2
theorem V_coordinates_2_w {E : EK} {K : DE} {ρ : DL.Env} : V_coordinates_2 E K ρ ↔ (sRet (dTup (aCons (dCall W_product (aCons (dCall W_cosine (aCons (dVar 3) aNil)) (aCons (dCall W_cosine (aCons (dVar 2) aNil)) aNil))) (aCons (dCall W_product (aCons (dCall W_cosine (aCons (dVar 3) aNil)) (aCons (dTup (aCons (dC (.str "wave")) (aCons (dVar 2) aNil))) aNil))) (aCons (dTup (aCons (dC (.str "wave")) (aCons (dVar 3) aNil))) aNil))))) E K ρ := id Iff.rfl
@[reducible] def T_coordinates_1 : DS :=
    (sSeq (sSet 3 (dTup (aCons (dC (.str "moved")) (aCons (dTup (aCons (dC (.str "turning")) (aCons (dC (.int 0)) (aCons (dC (.int 0)) (aCons (dC (.int 1)) aNil))))) (aCons (dCall W_latitude (aCons (dVar 0) (aCons (dVar 1) aNil))) aNil)))))
    T_coordinates_2)
def V_coordinates_1 : DS := T_coordinates_1
theorem V_coordinates_1_w {E : EK} {K : DE} {ρ : DL.Env} : V_coordinates_1 E K ρ ↔ (sSet 3 (dTup (aCons (dC (.str "moved")) (aCons (dTup (aCons (dC (.str "turning")) (aCons (dC (.int 0)) (aCons (dC (.int 0)) (aCons (dC (.int 1)) aNil))))) (aCons (dCall W_latitude (aCons (dVar 0) (aCons (dVar 1) aNil))) aNil))))) E { K with nx := V_coordinates_2 E K } ρ := id Iff.rfl
@[reducible] def T_coordinates_0 : DS :=
    (sSeq (sSet 2 (dCall W_longitude (aCons (dVar 0) (aCons (dVar 1) aNil))))
    T_coordinates_1)
def V_coordinates_0 : DS := T_coordinates_0
theorem V_coordinates_0_w {E : EK} {K : DE} {ρ : DL.Env} : V_coordinates_0 E K ρ ↔ (sSet 2 (dCall W_longitude (aCons (dVar 0) (aCons (dVar 1) aNil)))) E { K with nx := V_coordinates_1 E K } ρ := id Iff.rfl
@[reducible] def T_coordinates : DS := T_coordinates_0
def W_coordinates : DF := defT 2 4 T_coordinates
theorem W_coordinates_w {ds : List D} {Q : DK} {E : Err → Prop} : W_coordinates ds Q E ↔ ds.length = 2 ∧ V_coordinates_0 (fun e _ => E e) { nx := fun _ => Q .non, rt := Q } (envOf 4 ds) := id Iff.rfl
@[reducible] def T_equatorial_5 : DS :=
    (sRet (dTup (aCons (dVar 2) (aCons (dVar 7) (aCons (dVar 8) aNil)))))
def V_equatorial_5 : DS := T_equatorial_5
theorem V_equatorial_5_w {E : EK} {K : DE} {ρ : DL.Env} : V_equatorial_5 E K ρ ↔ (sRet (dTup (aCons (dVar 2) (aCons (dVar 7) (aCons (dVar 8) aNil))))) E K ρ := id Iff.rfl
@[reducible] def T_equatorial_4 : DS :=
    (sSeq (sSet 8 (dTup (aCons (dC (.str "sum")) (aCons (dCall W_share (aCons (dVar 3) (aCons (dVar 5) aNil))) (aCons (dCall W_share (aCons (dVar 4) (aCons (dVar 6) aNil))) aNil)))))
    T_equatorial_5)
def V_equatorial_4 : DS := T_equatorial_4
theorem V_equatorial_4_w {E : EK} {K : DE} {ρ : DL.Env} : V_equatorial_4 E K ρ ↔ (sSet 8 (dTup (aCons (dC (.str "sum")) (aCons (dCall W_share (aCons (dVar 3) (aCons (dVar 5) aNil))) (aCons (dCall W_share (aCons (dVar 4) (aCons (dVar 6) aNil))) aNil))))) E { K with nx := V_equatorial_5 E K } ρ := id Iff.rfl
@[reducible] def T_equatorial_3 : DS :=
    (sSeq (sSet 7 (dTup (aCons (dC (.str "sum")) (aCons (dCall W_share (aCons (dVar 3) (aCons (dVar 6) aNil))) (aCons (dCall W_share (aCons (dVar 4) (aCons (dUn oNeg (dVar 5)) aNil))) aNil)))))
    T_equatorial_4)
def V_equatorial_3 : DS := T_equatorial_3
theorem V_equatorial_3_w {E : EK} {K : DE} {ρ : DL.Env} : V_equatorial_3 E K ρ ↔ (sSet 7 (dTup (aCons (dC (.str "sum")) (aCons (dCall W_share (aCons (dVar 3) (aCons (dVar 6) aNil))) (aCons (dCall W_share (aCons (dVar 4) (aCons (dUn oNeg (dVar 5)) aNil))) aNil))))) E { K with nx := V_equatorial_4 E K } ρ := id Iff.rfl
@[reducible] def T_equatorial_2 : DS :=
    (sSeq (sSet 6 (dCall W_wave (aCons (dOp oAdd (dOp oIx (dVar 0) (dC (.str "tilt"))) (dC (.int (324000)))) aNil)))
    T_equatorial_3)
def V_equatorial_2 : DS := T_equatorial_2
theorem V_equatorial_2_w {E : EK} {K : DE} {ρ : DL.Env} : V_equatorial_2 E K ρ ↔ (sSet 6 (dCall W_wave (aCons (dOp oAdd (dOp oIx (dVar 0) (dC (.str "tilt"))) (dC (.int (324000)))) aNil))) E { K with nx := V_equatorial_3 E K } ρ := id Iff.rfl
@[reducible] def T_equatorial_1 : DS :=
    (sSeq (sSet 5 (dCall W_wave (aCons (dOp oIx (dVar 0) (dC (.str "tilt"))) aNil)))
    T_equatorial_2)
def V_equatorial_1 : DS := T_equatorial_1
theorem V_equatorial_1_w {E : EK} {K : DE} {ρ : DL.Env} : V_equatorial_1 E K ρ ↔ (sSet 5 (dCall W_wave (aCons (dOp oIx (dVar 0) (dC (.str "tilt"))) aNil))) E { K with nx := V_equatorial_2 E K } ρ := id Iff.rfl
@[reducible] def T_equatorial_0 : DS :=
    (sSeq (sAsg (dCall W_coordinates (aCons (dVar 0) (aCons (dVar 1) aNil))) (gTup (gCons (gName 2) (gCons (gName 3) (gCons (gName 4) gNil)))))
    T_equatorial_1)
def V_equatorial_0 : DS := T_equatorial_0
theorem V_equatorial_0_w {E : EK} {K : DE} {ρ : DL.Env} : V_equatorial_0 E K ρ ↔ (sAsg (dCall W_coordinates (aCons (dVar 0) (aCons (dVar 1) aNil))) (gTup (gCons (gName 2) (gCons (gName 3) (gCons (gName 4) gNil))))) E { K with nx := V_equatorial_1 E K } ρ := id Iff.rfl
@[reducible] def T_equatorial : DS := T_equatorial_0
def W_equatorial : DF := defT 2 9 T_equatorial
theorem W_equatorial_w {ds : List D} {Q : DK} {E : Err → Prop} : W_equatorial ds Q E ↔ ds.length = 2 ∧ V_equatorial_0 (fun e _ => E e) { nx := fun _ => Q .non, rt := Q } (envOf 9 ds) := id Iff.rfl
@[reducible] def T_turned_1 : DS :=
    (sRet (dTup (aCons (dC (.str "turning")) (aCons (dOp oAdd (dVar 2) (dOp oIx (dVar 1) (dC (.int 1)))) (aCons (dVar 3) (aCons (dVar 4) aNil))))))
def V_turned_1 : DS := T_turned_1
theorem V_turned_1_w {E : EK} {K : DE} {ρ : DL.Env} : V_turned_1 E K ρ ↔ (sRet (dTup (aCons (dC (.str "turning")) (aCons (dOp oAdd (dVar 2) (dOp oIx (dVar 1) (dC (.int 1)))) (aCons (dVar 3) (aCons (dVar 4) aNil)))))) E K ρ := id Iff.rfl
@[reducible] def T_turned_0 : DS :=
    (sSeq (sAsg (dOp oIx (dVar 0) (dC (.str "turning"))) (gTup (gCons (gName 2) (gCons (gName 3) (gCons (gName 4) gNil)))))
    T_turned_1)
def V_turned_0 : DS := T_turned_0
theorem V_turned_0_w {E : EK} {K : DE} {ρ : DL.Env} : V_turned_0 E K ρ ↔ (sAsg (dOp oIx (dVar 0) (dC (.str "turning"))) (gTup (gCons (gName 2) (gCons (gName 3) (gCons (gName 4) gNil))))) E { K with nx := V_turned_1 E K } ρ := id Iff.rfl
@[reducible] def T_turned : DS := T_turned_0
def W_turned : DF := defT 2 5 T_turned
theorem W_turned_w {ds : List D} {Q : DK} {E : Err → Prop} : W_turned ds Q E ↔ ds.length = 2 ∧ V_turned_0 (fun e _ => E e) { nx := fun _ => Q .non, rt := Q } (envOf 5 ds) := id Iff.rfl
@[reducible] def T_altitude_4 : DS :=
    (sRet (dTup (aCons (dC (.str "sum")) (aCons (dCall W_share (aCons (dCall W_product (aCons (dVar 3) (aCons (dCall W_cosine (aCons (dVar 6) aNil)) aNil))) (aCons (dVar 8) aNil))) (aCons (dCall W_share (aCons (dCall W_product (aCons (dVar 4) (aCons (dTup (aCons (dC (.str "wave")) (aCons (dVar 6) aNil))) aNil))) (aCons (dVar 8) aNil))) (aCons (dCall W_share (aCons (dVar 5) (aCons (dVar 7) aNil))) aNil))))))
def V_altitude_4 : DS := T_altitude_4
theorem V_altitude_4_w {E : EK} {K : DE} {ρ : DL.Env} : V_altitude_4 E K ρ ↔ (sRet (dTup (aCons (dC (.str "sum")) (aCons (dCall W_share (aCons (dCall W_product (aCons (dVar 3) (aCons (dCall W_cosine (aCons (dVar 6) aNil)) aNil))) (aCons (dVar 8) aNil))) (aCons (dCall W_share (aCons (dCall W_product (aCons (dVar 4) (aCons (dTup (aCons (dC (.str "wave")) (aCons (dVar 6) aNil))) aNil))) (aCons (dVar 8) aNil))) (aCons (dCall W_share (aCons (dVar 5) (aCons (dVar 7) aNil))) aNil)))))) E K ρ := id Iff.rfl
@[reducible] def T_altitude_3 : DS :=
    (sSeq (sSet 8 (dCall W_wave (aCons (dOp oAdd (dOp oIx (dVar 1) (dC (.int 0))) (dC (.int (324000)))) aNil)))
    T_altitude_4)
def V_altitude_3 : DS := T_altitude_3
theorem V_altitude_3_w {E : EK} {K : DE} {ρ : DL.Env} : V_altitude_3 E K ρ ↔ (sSet 8 (dCall W_wave (aCons (dOp oAdd (dOp oIx (dVar 1) (dC (.int 0))) (dC (.int (324000)))) aNil))) E { K with nx := V_altitude_4 E K } ρ := id Iff.rfl
@[reducible] def T_altitude_2 : DS :=
    (sSeq (sSet 7 (dCall W_wave (aCons (dOp oIx (dVar 1) (dC (.int 0))) aNil)))
    T_altitude_3)
def V_altitude_2 : DS := T_altitude_2
theorem V_altitude_2_w {E : EK} {K : DE} {ρ : DL.Env} : V_altitude_2 E K ρ ↔ (sSet 7 (dCall W_wave (aCons (dOp oIx (dVar 1) (dC (.int 0))) aNil))) E { K with nx := V_altitude_3 E K } ρ := id Iff.rfl
@[reducible] def T_altitude_1 : DS :=
    (sSeq (sSet 6 (dCall W_turned (aCons (dVar 0) (aCons (dVar 1) aNil))))
    T_altitude_2)
def V_altitude_1 : DS := T_altitude_1
theorem V_altitude_1_w {E : EK} {K : DE} {ρ : DL.Env} : V_altitude_1 E K ρ ↔ (sSet 6 (dCall W_turned (aCons (dVar 0) (aCons (dVar 1) aNil)))) E { K with nx := V_altitude_2 E K } ρ := id Iff.rfl
@[reducible] def T_altitude_0 : DS :=
    (sSeq (sAsg (dCall W_equatorial (aCons (dVar 0) (aCons (dVar 2) aNil))) (gTup (gCons (gName 3) (gCons (gName 4) (gCons (gName 5) gNil)))))
    T_altitude_1)
def V_altitude_0 : DS := T_altitude_0
theorem V_altitude_0_w {E : EK} {K : DE} {ρ : DL.Env} : V_altitude_0 E K ρ ↔ (sAsg (dCall W_equatorial (aCons (dVar 0) (aCons (dVar 2) aNil))) (gTup (gCons (gName 3) (gCons (gName 4) (gCons (gName 5) gNil))))) E { K with nx := V_altitude_1 E K } ρ := id Iff.rfl
@[reducible] def T_altitude : DS := T_altitude_0
def W_altitude : DF := defT 3 9 T_altitude
theorem W_altitude_w {ds : List D} {Q : DK} {E : Err → Prop} : W_altitude ds Q E ↔ ds.length = 3 ∧ V_altitude_0 (fun e _ => E e) { nx := fun _ => Q .non, rt := Q } (envOf 9 ds) := id Iff.rfl
@[reducible] def T_need_bodies_L1_1 : DS :=
    (sFgt [1, 2] sNext)
def V_need_bodies_L1_1 : DS := T_need_bodies_L1_1
theorem V_need_bodies_L1_1_w {E : EK} {K : DE} {ρ : DL.Env} : V_need_bodies_L1_1 E K ρ ↔ (sFgt [1, 2] sNext) E K ρ := id Iff.rfl
@[reducible] def T_need_bodies_L1_0 : DS :=
    (sSeq (sIf (bT (dOp oNotIn (dVar 2) (dOp oIx (dVar 0) (dC (.str "bodies"))))) (sRaise "SkyError" ["code", "name"] (aCons (dC (.str "body")) (aCons (dVar 2) aNil))) sNext)
    T_need_bodies_L1_1)
def V_need_bodies_L1_0 : DS := T_need_bodies_L1_0
theorem V_need_bodies_L1_0_w {E : EK} {K : DE} {ρ : DL.Env} : V_need_bodies_L1_0 E K ρ ↔ (sIf (bT (dOp oNotIn (dVar 2) (dOp oIx (dVar 0) (dC (.str "bodies"))))) (sRaise "SkyError" ["code", "name"] (aCons (dC (.str "body")) (aCons (dVar 2) aNil))) sNext) E { K with nx := V_need_bodies_L1_1 E K } ρ := id Iff.rfl
@[reducible] def T_need_bodies : DS := (sFgt [2] (sFor (iSeq (dVar 1)) (gName 2) T_need_bodies_L1_0))
def W_need_bodies : DF := defT 2 3 T_need_bodies
theorem W_need_bodies_w {ds : List D} {Q : DK} {E : Err → Prop} : W_need_bodies ds Q E ↔ ds.length = 2 ∧ (sFgt [2] (sFor (iSeq (dVar 1)) (gName 2) V_need_bodies_L1_0)) (fun e _ => E e) { nx := fun _ => Q .non, rt := Q } (envOf 3 ds) := id Iff.rfl
@[reducible] def T_nearness_L1_2 : DS :=
    (sFgt [0, 1, 2, 5, 6, 7] sNext)
def V_nearness_L1_2 : DS := T_nearness_L1_2
theorem V_nearness_L1_2_w {E : EK} {K : DE} {ρ : DL.Env} : V_nearness_L1_2 E K ρ ↔ (sFgt [0, 1, 2, 5, 6, 7] sNext) E K ρ := id Iff.rfl
@[reducible] def T_nearness_L1_1 : DS :=
    (sSeq (sApp 4 (dCall W_product (aCons (dVar 7) (aCons (dVar 7) aNil))))
    T_nearness_L1_2)
def V_nearness_L1_1 : DS := T_nearness_L1_1
theorem V_nearness_L1_1_w {E : EK} {K : DE} {ρ : DL.Env} : V_nearness_L1_1 E K ρ ↔ (sApp 4 (dCall W_product (aCons (dVar 7) (aCons (dVar 7) aNil)))) E { K with nx := V_nearness_L1_2 E K } ρ := id Iff.rfl
@[reducible] def T_nearness_L1_0 : DS :=
    (sSeq (sSet 7 (dTup (aCons (dC (.str "sum")) (aCons (dVar 5) (aCons (dCall W_negative (aCons (dVar 6) aNil)) aNil)))))
    T_nearness_L1_1)
def V_nearness_L1_0 : DS := T_nearness_L1_0
theorem V_nearness_L1_0_w {E : EK} {K : DE} {ρ : DL.Env} : V_nearness_L1_0 E K ρ ↔ (sSet 7 (dTup (aCons (dC (.str "sum")) (aCons (dVar 5) (aCons (dCall W_negative (aCons (dVar 6) aNil)) aNil))))) E { K with nx := V_nearness_L1_1 E K } ρ := id Iff.rfl
@[reducible] def T_nearness_3 : DS :=
    (sFrz 4 (sRet (dTup (aCons (dC (.str "sum")) (aCons (dTup (aCons (dC (.str "number")) (aCons (dOp oDiv (dOp oMul (dVar 3) (dVar 3)) (dC (.int (1000000)))) aNil))) (aCons (dCall W_negative (aCons (dTup (aCons (dC (.str "sum")) (aStar (dVar 4) aNil))) aNil)) aNil))))))
def V_nearness_3 : DS := T_nearness_3
theorem V_nearness_3_w {E : EK} {K : DE} {ρ : DL.Env} : V_nearness_3 E K ρ ↔ (sFrz 4 (sRet (dTup (aCons (dC (.str "sum")) (aCons (dTup (aCons (dC (.str "number")) (aCons (dOp oDiv (dOp oMul (dVar 3) (dVar 3)) (dC (.int (1000000)))) aNil))) (aCons (dCall W_negative (aCons (dTup (aCons (dC (.str "sum")) (aStar (dVar 4) aNil))) aNil)) aNil)))))) E K ρ := id Iff.rfl
@[reducible] def T_nearness_2 : DS :=
    (sSeq (sFgt [5, 6, 7] (sFor (DL.iZip (aCons (dCall W_coordinates (aCons (dVar 0) (aCons (dVar 1) aNil))) (aCons (dCall W_coordinates (aCons (dVar 0) (aCons (dVar 2) aNil))) aNil))) (gTup (gCons (gName 5) (gCons (gName 6) gNil))) T_nearness_L1_0))
    T_nearness_3)
def V_nearness_2 : DS := T_nearness_2
theorem V_nearness_2_w {E : EK} {K : DE} {ρ : DL.Env} : V_nearness_2 E K ρ ↔ (sFgt [5, 6, 7] (sFor (DL.iZip (aCons (dCall W_coordinates (aCons (dVar 0) (aCons (dVar 1) aNil))) (aCons (dCall W_coordinates (aCons (dVar 0) (aCons (dVar 2) aNil))) aNil))) (gTup (gCons (gName 5) (gCons (gName 6) gNil))) V_nearness_L1_0)) E { K with nx := V_nearness_3 E K } ρ := id Iff.rfl
@[reducible] def T_nearness_1 : DS :=
    (sSeq (sOwn 4 (dLst aNil))
    T_nearness_2)
def V_nearness_1 : DS := T_nearness_1
theorem V_nearness_1_w {E : EK} {K : DE} {ρ : DL.Env} : V_nearness_1 E K ρ ↔ (sOwn 4 (dLst aNil)) E { K with nx := V_nearness_2 E K } ρ := id Iff.rfl
@[reducible] def T_nearness_0 : DS :=
    (sSeq (sDrop (dCall W_need_bodies (aCons (dVar 0) (aCons (dTup (aCons (dVar 1) (aCons (dVar 2) aNil))) aNil))))
    T_nearness_1)
def V_nearness_0 : DS := T_nearness_0
theorem V_nearness_0_w {E : EK} {K : DE} {ρ : DL.Env} : V_nearness_0 E K ρ ↔ (sDrop (dCall W_need_bodies (aCons (dVar 0) (aCons (dTup (aCons (dVar 1) (aCons (dVar 2) aNil))) aNil)))) E { K with nx := V_nearness_1 E K } ρ := id Iff.rfl
@[reducible] def T_nearness : DS := T_nearness_0
def W_nearness : DF := defT 4 8 T_nearness
theorem W_nearness_w {ds : List D} {Q : DK} {E : Err → Prop} : W_nearness ds Q E ↔ ds.length = 4 ∧ V_nearness_0 (fun e _ => E e) { nx := fun _ => Q .non, rt := Q } (envOf 8 ds) := id Iff.rfl
@[reducible] def T_east_2 : DS :=
    (sRet (dTup (aCons (dC (.str "sum")) (aCons (dCall W_product (aCons (dVar 4) (aCons (dCall W_cosine (aCons (dVar 6) aNil)) aNil))) (aCons (dCall W_negative (aCons (dCall W_product (aCons (dVar 3) (aCons (dTup (aCons (dC (.str "wave")) (aCons (dVar 6) aNil))) aNil))) aNil)) aNil)))))
def V_east_2 : DS := T_east_2
theorem V_east_2_w {E : EK} {K : DE} {ρ : DL.Env} : V_east_2 E K ρ ↔ (sRet (dTup (aCons (dC (.str "sum")) (aCons (dCall W_product (aCons (dVar 4) (aCons (dCall W_cosine (aCons (dVar 6) aNil)) aNil))) (aCons (dCall W_negative (aCons (dCall W_product (aCons (dVar 3) (aCons (dTup (aCons (dC (.str "wave")) (aCons (dVar 6) aNil))) aNil))) aNil)) aNil))))) E K ρ := id Iff.rfl
@[reducible] def T_east_1 : DS :=
    (sSeq (sSet 6 (dCall W_turned (aCons (dVar 0) (aCons (dVar 1) aNil))))
    T_east_2)
def V_east_1 : DS := T_east_1
theorem V_east_1_w {E : EK} {K : DE} {ρ : DL.Env} : V_east_1 E K ρ ↔ (sSet 6 (dCall W_turned (aCons (dVar 0) (aCons (dVar 1) aNil)))) E { K with nx := V_east_2 E K } ρ := id Iff.rfl
@[reducible] def T_east_0 : DS :=
    (sSeq (sAsg (dCall W_equatorial (aCons (dVar 0) (aCons (dVar 2) aNil))) (gTup (gCons (gName 3) (gCons (gName 4) (gCons (gName 5) gNil)))))
    T_east_1)
def V_east_0 : DS := T_east_0
theorem V_east_0_w {E : EK} {K : DE} {ρ : DL.Env} : V_east_0 E K ρ ↔ (sAsg (dCall W_equatorial (aCons (dVar 0) (aCons (dVar 2) aNil))) (gTup (gCons (gName 3) (gCons (gName 4) (gCons (gName 5) gNil))))) E { K with nx := V_east_1 E K } ρ := id Iff.rfl
@[reducible] def T_east : DS := T_east_0
def W_east : DF := defT 3 7 T_east
theorem W_east_w {ds : List D} {Q : DK} {E : Err → Prop} : W_east ds Q E ↔ ds.length = 3 ∧ V_east_0 (fun e _ => E e) { nx := fun _ => Q .non, rt := Q } (envOf 7 ds) := id Iff.rfl
@[reducible] def T_south_2 : DS :=
    (sRet (dTup (aCons (dC (.str "sum")) (aCons (dCall W_product (aCons (dVar 3) (aCons (dCall W_cosine (aCons (dVar 6) aNil)) aNil))) (aCons (dCall W_product (aCons (dVar 4) (aCons (dTup (aCons (dC (.str "wave")) (aCons (dVar 6) aNil))) aNil))) aNil)))))
def V_south_2 : DS := T_south_2
theorem V_south_2_w {E : EK} {K : DE} {ρ : DL.Env} : V_south_2 E K ρ ↔ (sRet (dTup (aCons (dC (.str "sum")) (aCons (dCall W_product (aCons (dVar 3) (aCons (dCall W_cosine (aCons (dVar 6) aNil)) aNil))) (aCons (dCall W_product (aCons (dVar 4) (aCons (dTup (aCons (dC (.str "wave")) (aCons (dVar 6) aNil))) aNil))) aNil))))) E K ρ := id Iff.rfl
@[reducible] def T_south_1 : DS :=
    (sSeq (sSet 6 (dCall W_turned (aCons (dVar 0) (aCons (dVar 1) aNil))))
    T_south_2)
def V_south_1 : DS := T_south_1
theorem V_south_1_w {E : EK} {K : DE} {ρ : DL.Env} : V_south_1 E K ρ ↔ (sSet 6 (dCall W_turned (aCons (dVar 0) (aCons (dVar 1) aNil)))) E { K with nx := V_south_2 E K } ρ := id Iff.rfl
@[reducible] def T_south_0 : DS :=
    (sSeq (sAsg (dCall W_equatorial (aCons (dVar 0) (aCons (dVar 2) aNil))) (gTup (gCons (gName 3) (gCons (gName 4) (gCons (gName 5) gNil)))))
    T_south_1)
def V_south_0 : DS := T_south_0
theorem V_south_0_w {E : EK} {K : DE} {ρ : DL.Env} : V_south_0 E K ρ ↔ (sAsg (dCall W_equatorial (aCons (dVar 0) (aCons (dVar 2) aNil))) (gTup (gCons (gName 3) (gCons (gName 4) (gCons (gName 5) gNil))))) E { K with nx := V_south_1 E K } ρ := id Iff.rfl
@[reducible] def T_south : DS := T_south_0
def W_south : DF := defT 3 7 T_south
theorem W_south_w {ds : List D} {Q : DK} {E : Err → Prop} : W_south ds Q E ↔ ds.length = 3 ∧ V_south_0 (fun e _ => E e) { nx := fun _ => Q .non, rt := Q } (envOf 7 ds) := id Iff.rfl
abbrev W_u_law_start : DF := wStart
abbrev W_u_law_draw : DF := wDraw
@[reducible] def T_u_law_pick : DS := (sRet (dOp oIx (dVar 1) (dCall W_u_law_draw (aCons (dVar 0) (aCons (dBlt fLen (aCons (dVar 1) aNil)) aNil)))))
def W_u_law_pick : DF := defT 2 2 T_u_law_pick
theorem W_u_law_pick_w {ds : List D} {Q : DK} {E : Err → Prop} : W_u_law_pick ds Q E ↔ ds.length = 2 ∧ (sRet (dOp oIx (dVar 1) (dCall W_u_law_draw (aCons (dVar 0) (aCons (dBlt fLen (aCons (dVar 1) aNil)) aNil))))) (fun e _ => E e) { nx := fun _ => Q .non, rt := Q } (envOf 2 ds) := id Iff.rfl
@[reducible] def T_u_law_is : DS := (sRet (dAndV (dIsi "bool" (dVar 0)) (dOp oEq (dVar 0) (dVar 1))))
def W_u_law_is : DF := defT 2 2 T_u_law_is
theorem W_u_law_is_w {ds : List D} {Q : DK} {E : Err → Prop} : W_u_law_is ds Q E ↔ ds.length = 2 ∧ (sRet (dAndV (dIsi "bool" (dVar 0)) (dOp oEq (dVar 0) (dVar 1)))) (fun e _ => E e) { nx := fun _ => Q .non, rt := Q } (envOf 2 ds) := id Iff.rfl
@[reducible] def T_u_law_arch_1 : DS :=
    (sRet (dOp oDiv (dOp oMul (dOp oMul (dC (.int 1000000)) (dVar 0)) (dOp oSub (dOp oMul (dOp oMul (dC (.int 3)) (dVar 1)) (dVar 1)) (dOp oMul (dVar 0) (dVar 0)))) (dOp oMul (dOp oMul (dOp oMul (dC (.int 2)) (dVar 1)) (dVar 1)) (dVar 1))))
def V_u_law_arch_1 : DS := T_u_law_arch_1
theorem V_u_law_arch_1_w {E : EK} {K : DE} {ρ : DL.Env} : V_u_law_arch_1 E K ρ ↔ (sRet (dOp oDiv (dOp oMul (dOp oMul (dC (.int 1000000)) (dVar 0)) (dOp oSub (dOp oMul (dOp oMul (dC (.int 3)) (dVar 1)) (dVar 1)) (dOp oMul (dVar 0) (dVar 0)))) (dOp oMul (dOp oMul (dOp oMul (dC (.int 2)) (dVar 1)) (dVar 1)) (dVar 1)))) E K ρ := id Iff.rfl
@[reducible] def T_u_law_arch_0 : DS :=
    (sSeq (sSet 1 (dC (.int 324000)))
    T_u_law_arch_1)
def V_u_law_arch_0 : DS := T_u_law_arch_0
theorem V_u_law_arch_0_w {E : EK} {K : DE} {ρ : DL.Env} : V_u_law_arch_0 E K ρ ↔ (sSet 1 (dC (.int 324000))) E { K with nx := V_u_law_arch_1 E K } ρ := id Iff.rfl
@[reducible] def T_u_law_arch : DS := T_u_law_arch_0
def W_u_law_arch : DF := defT 1 2 T_u_law_arch
theorem W_u_law_arch_w {ds : List D} {Q : DK} {E : Err → Prop} : W_u_law_arch ds Q E ↔ ds.length = 1 ∧ V_u_law_arch_0 (fun e _ => E e) { nx := fun _ => Q .non, rt := Q } (envOf 2 ds) := id Iff.rfl
@[reducible] def T_u_law_wave_2 : DS :=
    (sRet (dCall W_u_law_arch (aCons (dBlt fMin (aCons (dVar 0) (aCons (dOp oSub (dC (.int 648000)) (dVar 0)) aNil))) aNil)))
def V_u_law_wave_2 : DS := T_u_law_wave_2
theorem V_u_law_wave_2_w {E : EK} {K : DE} {ρ : DL.Env} : V_u_law_wave_2 E K ρ ↔ (sRet (dCall W_u_law_arch (aCons (dBlt fMin (aCons (dVar 0) (aCons (dOp oSub (dC (.int 648000)) (dVar 0)) aNil))) aNil))) E K ρ := id Iff.rfl
@[reducible] def T_u_law_wave_1 : DS :=
    (sSeq (sIf (bT (dOp oGe (dVar 0) (dC (.int 648000)))) (sRet (dUn oNeg (dCall W_u_law_arch (aCons (dBlt fMin (aCons (dOp oSub (dVar 0) (dC (.int 648000))) (aCons (dOp oSub (dC (.int 1296000)) (dVar 0)) aNil))) aNil)))) sNext)
    T_u_law_wave_2)
def V_u_law_wave_1 : DS := T_u_law_wave_1
theorem V_u_law_wave_1_w {E : EK} {K : DE} {ρ : DL.Env} : V_u_law_wave_1 E K ρ ↔ (sIf (bT (dOp oGe (dVar 0) (dC (.int 648000)))) (sRet (dUn oNeg (dCall W_u_law_arch (aCons (dBlt fMin (aCons (dOp oSub (dVar 0) (dC (.int 648000))) (aCons (dOp oSub (dC (.int 1296000)) (dVar 0)) aNil))) aNil)))) sNext) E { K with nx := V_u_law_wave_2 E K } ρ := id Iff.rfl
@[reducible] def T_u_law_wave_0 : DS :=
    (sSeq (sSet 0 (dOp oMod (dBlt fInt (aCons (dVar 0) aNil)) (dC (.int 1296000))))
    T_u_law_wave_1)
def V_u_law_wave_0 : DS := T_u_law_wave_0
theorem V_u_law_wave_0_w {E : EK} {K : DE} {ρ : DL.Env} : V_u_law_wave_0 E K ρ ↔ (sSet 0 (dOp oMod (dBlt fInt (aCons (dVar 0) aNil)) (dC (.int 1296000)))) E { K with nx := V_u_law_wave_1 E K } ρ := id Iff.rfl
@[reducible] def T_u_law_wave : DS := T_u_law_wave_0
def W_u_law_wave : DF := defT 1 1 T_u_law_wave
theorem W_u_law_wave_w {ds : List D} {Q : DK} {E : Err → Prop} : W_u_law_wave ds Q E ↔ ds.length = 1 ∧ V_u_law_wave_0 (fun e _ => E e) { nx := fun _ => Q .non, rt := Q } (envOf 1 ds) := id Iff.rfl
@[reducible] def T_u_law_motion_1 : DS :=
    (sRet (dTup (aCons (dCall W_u_law_draw (aCons (dVar 0) (aCons (dC (.int 1296000)) aNil))) (aCons (dVar 1) (aCons (dCall W_u_law_pick (aCons (dVar 0) (aCons (dLst (aCons (dC (.int 1)) (aCons (dC (.int 1)) (aCons (dC (.int 7)) aNil)))) aNil))) aNil)))))
def V_u_law_motion_1 : DS := T_u_law_motion_1
theorem V_u_law_motion_1_w {E : EK} {K : DE} {ρ : DL.Env} : V_u_law_motion_1 E K ρ ↔ (sRet (dTup (aCons (dCall W_u_law_draw (aCons (dVar 0) (aCons (dC (.int 1296000)) aNil))) (aCons (dVar 1) (aCons (dCall W_u_law_pick (aCons (dVar 0) (aCons (dLst (aCons (dC (.int 1)) (aCons (dC (.int 1)) (aCons (dC (.int 7)) aNil)))) aNil))) aNil))))) E K ρ := id Iff.rfl
@[reducible] def T_u_law_motion_0 : DS :=
    (sSeq (sSet 1 (dOp oMul (dCall W_u_law_pick (aCons (dVar 0) (aCons (dLst (aCons (dUn oNeg (dC (.int 1))) (aCons (dC (.int 1)) (aCons (dC (.int 1)) (aCons (dC (.int 1)) aNil))))) aNil))) (dOp oAdd (dC (.int 1)) (dCall W_u_law_draw (aCons (dVar 0) (aCons (dCall W_u_law_pick (aCons (dVar 0) (aCons (dLst (aCons (dC (.int 3000)) (aCons (dC (.int 20000)) (aCons (dC (.int 90000)) aNil)))) aNil))) aNil))))))
    T_u_law_motion_1)
def V_u_law_motion_0 : DS := T_u_law_motion_0
theorem V_u_law_motion_0_w {E : EK} {K : DE} {ρ : DL.Env} : V_u_law_motion_0 E K ρ ↔ (sSet 1 (dOp oMul (dCall W_u_law_pick (aCons (dVar 0) (aCons (dLst (aCons (dUn oNeg (dC (.int 1))) (aCons (dC (.int 1)) (aCons (dC (.int 1)) (aCons (dC (.int 1)) aNil))))) aNil))) (dOp oAdd (dC (.int 1)) (dCall W_u_law_draw (aCons (dVar 0) (aCons (dCall W_u_law_pick (aCons (dVar 0) (aCons (dLst (aCons (dC (.int 3000)) (aCons (dC (.int 20000)) (aCons (dC (.int 90000)) aNil)))) aNil))) aNil)))))) E { K with nx := V_u_law_motion_1 E K } ρ := id Iff.rfl
@[reducible] def T_u_law_motion : DS := T_u_law_motion_0
def W_u_law_motion : DF := defT 1 2 T_u_law_motion
theorem W_u_law_motion_w {ds : List D} {Q : DK} {E : Err → Prop} : W_u_law_motion ds Q E ↔ ds.length = 1 ∧ V_u_law_motion_0 (fun e _ => E e) { nx := fun _ => Q .non, rt := Q } (envOf 2 ds) := id Iff.rfl
@[reducible] def T_u_law_terms_L1_1 : DS :=
    (sFgt [1, 4] sNext)
def V_u_law_terms_L1_1 : DS := T_u_law_terms_L1_1
theorem V_u_law_terms_L1_1_w {E : EK} {K : DE} {ρ : DL.Env} : V_u_law_terms_L1_1 E K ρ ↔ (sFgt [1, 4] sNext) E K ρ := id Iff.rfl
@[reducible] def T_u_law_terms_L1_0 : DS :=
    (sSeq (sApp 3 (dOp oAdd (dTup (aCons (dOp oSub (dCall W_u_law_draw (aCons (dVar 0) (aCons (dOp oAdd (dOp oMul (dC (.int 2)) (dVar 2)) (dC (.int 1))) aNil))) (dVar 2)) aNil)) (dCall W_u_law_motion (aCons (dVar 0) aNil))))
    T_u_law_terms_L1_1)
def V_u_law_terms_L1_0 : DS := T_u_law_terms_L1_0
theorem V_u_law_terms_L1_0_w {E : EK} {K : DE} {ρ : DL.Env} : V_u_law_terms_L1_0 E K ρ ↔ (sApp 3 (dOp oAdd (dTup (aCons (dOp oSub (dCall W_u_law_draw (aCons (dVar 0) (aCons (dOp oAdd (dOp oMul (dC (.int 2)) (dVar 2)) (dC (.int 1))) aNil))) (dVar 2)) aNil)) (dCall W_u_law_motion (aCons (dVar 0) aNil)))) E { K with nx := V_u_law_terms_L1_1 E K } ρ := id Iff.rfl
@[reducible] def T_u_law_terms_2 : DS :=
    (sFrz 3 (sRet (dVar 3)))
def V_u_law_terms_2 : DS := T_u_law_terms_2
theorem V_u_law_terms_2_w {E : EK} {K : DE} {ρ : DL.Env} : V_u_law_terms_2 E K ρ ↔ (sFrz 3 (sRet (dVar 3))) E K ρ := id Iff.rfl
@[reducible] def T_u_law_terms_1 : DS :=
    (sSeq (sFgt [4] (sFor (iRng1 (aCons (dCall W_u_law_draw (aCons (dVar 0) (aCons (dOp oAdd (dVar 1) (dC (.int 1))) aNil))) aNil)) (gName 4) T_u_law_terms_L1_0))
    T_u_law_terms_2)
def V_u_law_terms_1 : DS := T_u_law_terms_1
theorem V_u_law_terms_1_w {E : EK} {K : DE} {ρ : DL.Env} : V_u_law_terms_1 E K ρ ↔ (sFgt [4] (sFor (iRng1 (aCons (dCall W_u_law_draw (aCons (dVar 0) (aCons (dOp oAdd (dVar 1) (dC (.int 1))) aNil))) aNil)) (gName 4) V_u_law_terms_L1_0)) E { K with nx := V_u_law_terms_2 E K } ρ := id Iff.rfl
@[reducible] def T_u_law_terms_0 : DS :=
    (sSeq (sOwn 3 (dLst aNil))
    T_u_law_terms_1)
def V_u_law_terms_0 : DS := T_u_law_terms_0
theorem V_u_law_terms_0_w {E : EK} {K : DE} {ρ : DL.Env} : V_u_law_terms_0 E K ρ ↔ (sOwn 3 (dLst aNil)) E { K with nx := V_u_law_terms_1 E K } ρ := id Iff.rfl
@[reducible] def T_u_law_terms : DS := T_u_law_terms_0
def W_u_law_terms : DF := defT 3 5 T_u_law_terms
theorem W_u_law_terms_w {ds : List D} {Q : DK} {E : Err → Prop} : W_u_law_terms ds Q E ↔ ds.length = 3 ∧ V_u_law_terms_0 (fun e _ => E e) { nx := fun _ => Q .non, rt := Q } (envOf 5 ds) := id Iff.rfl
@[reducible] def T_u_law_body : DS := (sRet (dDisp (pCons (dC (.str "motion")) (dCall W_u_law_motion (aCons (dVar 0) aNil)) (pCons (dC (.str "terms")) (dCall W_u_law_terms (aCons (dVar 0) (aCons (dC (.int 2)) (aCons (dC (.int 40000)) aNil)))) (pCons (dC (.str "latitude")) (dCall W_u_law_terms (aCons (dVar 0) (aCons (dC (.int 2)) (aCons (dC (.int 60000)) aNil)))) pNil)))))
def W_u_law_body : DF := defT 1 1 T_u_law_body
theorem W_u_law_body_w {ds : List D} {Q : DK} {E : Err → Prop} : W_u_law_body ds Q E ↔ ds.length = 1 ∧ (sRet (dDisp (pCons (dC (.str "motion")) (dCall W_u_law_motion (aCons (dVar 0) aNil)) (pCons (dC (.str "terms")) (dCall W_u_law_terms (aCons (dVar 0) (aCons (dC (.int 2)) (aCons (dC (.int 40000)) aNil)))) (pCons (dC (.str "latitude")) (dCall W_u_law_terms (aCons (dVar 0) (aCons (dC (.int 2)) (aCons (dC (.int 60000)) aNil)))) pNil))))) (fun e _ => E e) { nx := fun _ => Q .non, rt := Q } (envOf 1 ds) := id Iff.rfl
@[reducible] def T_u_law_sky_L1_1 : DS :=
    (sFgt [1, 4, 5] sNext)
def V_u_law_sky_L1_1 : DS := T_u_law_sky_L1_1
theorem V_u_law_sky_L1_1_w {E : EK} {K : DE} {ρ : DL.Env} : V_u_law_sky_L1_1 E K ρ ↔ (sFgt [1, 4, 5] sNext) E K ρ := id Iff.rfl
@[reducible] def T_u_law_sky_L1_0 : DS :=
    (sSeq (sPutK 3 (dOp oIx (dVar 2) (dVar 4)) (dCall W_u_law_body (aCons (dVar 0) aNil)))
    T_u_law_sky_L1_1)
def V_u_law_sky_L1_0 : DS := T_u_law_sky_L1_0
theorem V_u_law_sky_L1_0_w {E : EK} {K : DE} {ρ : DL.Env} : V_u_law_sky_L1_0 E K ρ ↔ (sPutK 3 (dOp oIx (dVar 2) (dVar 4)) (dCall W_u_law_body (aCons (dVar 0) aNil))) E { K with nx := V_u_law_sky_L1_1 E K } ρ := id Iff.rfl
@[reducible] def T_u_law_sky_5 : DS :=
    (sFrz 5 (sRet (dVar 5)))
def V_u_law_sky_5 : DS := T_u_law_sky_5
theorem V_u_law_sky_5_w {E : EK} {K : DE} {ρ : DL.Env} : V_u_law_sky_5 E K ρ ↔ (sFrz 5 (sRet (dVar 5))) E K ρ := id Iff.rfl
@[reducible] def T_u_law_sky_4 : DS :=
    (sSeq (sPutK 5 (dC (.str "turning")) (dCall W_u_law_motion (aCons (dVar 0) aNil)))
    T_u_law_sky_5)
def V_u_law_sky_4 : DS := T_u_law_sky_4
theorem V_u_law_sky_4_w {E : EK} {K : DE} {ρ : DL.Env} : V_u_law_sky_4 E K ρ ↔ (sPutK 5 (dC (.str "turning")) (dCall W_u_law_motion (aCons (dVar 0) aNil))) E { K with nx := V_u_law_sky_5 E K } ρ := id Iff.rfl
@[reducible] def T_u_law_sky_3 : DS :=
    (sSeq (sFrz 3 (sOwn 5 (dDisp (pCons (dC (.str "bodies")) (dVar 3) (pCons (dC (.str "tilt")) (dCall W_u_law_pick (aCons (dVar 0) (aCons (dLst (aCons (dC (.int 0)) (aCons (dC (.int 84381)) (aCons (dC (.int 324000)) (aCons (dCall W_u_law_draw (aCons (dVar 0) (aCons (dC (.int 324001)) aNil))) aNil))))) aNil))) pNil)))))
    T_u_law_sky_4)
def V_u_law_sky_3 : DS := T_u_law_sky_3
theorem V_u_law_sky_3_w {E : EK} {K : DE} {ρ : DL.Env} : V_u_law_sky_3 E K ρ ↔ (sFrz 3 (sOwn 5 (dDisp (pCons (dC (.str "bodies")) (dVar 3) (pCons (dC (.str "tilt")) (dCall W_u_law_pick (aCons (dVar 0) (aCons (dLst (aCons (dC (.int 0)) (aCons (dC (.int 84381)) (aCons (dC (.int 324000)) (aCons (dCall W_u_law_draw (aCons (dVar 0) (aCons (dC (.int 324001)) aNil))) aNil))))) aNil))) pNil))))) E { K with nx := V_u_law_sky_4 E K } ρ := id Iff.rfl
@[reducible] def T_u_law_sky_2 : DS :=
    (sSeq (sFgt [4, 5] (sFor (iRng1 (aCons (dVar 1) aNil)) (gName 4) T_u_law_sky_L1_0))
    T_u_law_sky_3)
def V_u_law_sky_2 : DS := T_u_law_sky_2
theorem V_u_law_sky_2_w {E : EK} {K : DE} {ρ : DL.Env} : V_u_law_sky_2 E K ρ ↔ (sFgt [4, 5] (sFor (iRng1 (aCons (dVar 1) aNil)) (gName 4) V_u_law_sky_L1_0)) E { K with nx := V_u_law_sky_3 E K } ρ := id Iff.rfl
@[reducible] def T_u_law_sky_1 : DS :=
    (sSeq (sOwn 3 dNewK)
    T_u_law_sky_2)
def V_u_law_sky_1 : DS := T_u_law_sky_1
theorem V_u_law_sky_1_w {E : EK} {K : DE} {ρ : DL.Env} : V_u_law_sky_1 E K ρ ↔ (sOwn 3 dNewK) E { K with nx := V_u_law_sky_2 E K } ρ := id Iff.rfl
@[reducible] def T_u_law_sky_0 : DS :=
    (sSeq (sSet 2 (dLst (aCons (dC (.str "sun")) (aCons (dC (.str "moon")) (aCons (dC (.str "mars")) (aCons (dC (.str "a")) (aCons (dC (.str "longname")) aNil)))))))
    T_u_law_sky_1)
def V_u_law_sky_0 : DS := T_u_law_sky_0
theorem V_u_law_sky_0_w {E : EK} {K : DE} {ρ : DL.Env} : V_u_law_sky_0 E K ρ ↔ (sSet 2 (dLst (aCons (dC (.str "sun")) (aCons (dC (.str "moon")) (aCons (dC (.str "mars")) (aCons (dC (.str "a")) (aCons (dC (.str "longname")) aNil))))))) E { K with nx := V_u_law_sky_1 E K } ρ := id Iff.rfl
@[reducible] def T_u_law_sky : DS := T_u_law_sky_0
def W_u_law_sky : DF := defT 2 6 T_u_law_sky
theorem W_u_law_sky_w {ds : List D} {Q : DK} {E : Err → Prop} : W_u_law_sky ds Q E ↔ ds.length = 2 ∧ V_u_law_sky_0 (fun e _ => E e) { nx := fun _ => Q .non, rt := Q } (envOf 6 ds) := id Iff.rfl
@[reducible] def T_u_law_place_1 : DS :=
    (sRet (dTup (aCons (dVar 1) (aCons (dOp oSub (dCall W_u_law_draw (aCons (dVar 0) (aCons (dC (.int 1296001)) aNil))) (dC (.int 648000))) aNil))))
def V_u_law_place_1 : DS := T_u_law_place_1
theorem V_u_law_place_1_w {E : EK} {K : DE} {ρ : DL.Env} : V_u_law_place_1 E K ρ ↔ (sRet (dTup (aCons (dVar 1) (aCons (dOp oSub (dCall W_u_law_draw (aCons (dVar 0) (aCons (dC (.int 1296001)) aNil))) (dC (.int 648000))) aNil)))) E K ρ := id Iff.rfl
@[reducible] def T_u_law_place_0 : DS :=
    (sSeq (sSet 1 (dCall W_u_law_pick (aCons (dVar 0) (aCons (dLst (aCons (dC (.int 0)) (aCons (dC (.int 324000)) (aCons (dUn oNeg (dC (.int 324000))) (aCons (dOp oSub (dCall W_u_law_draw (aCons (dVar 0) (aCons (dC (.int 648001)) aNil))) (dC (.int 324000))) aNil))))) aNil))))
    T_u_law_place_1)
def V_u_law_place_0 : DS := T_u_law_place_0
theorem V_u_law_place_0_w {E : EK} {K : DE} {ρ : DL.Env} : V_u_law_place_0 E K ρ ↔ (sSet 1 (dCall W_u_law_pick (aCons (dVar 0) (aCons (dLst (aCons (dC (.int 0)) (aCons (dC (.int 324000)) (aCons (dUn oNeg (dC (.int 324000))) (aCons (dOp oSub (dCall W_u_law_draw (aCons (dVar 0) (aCons (dC (.int 648001)) aNil))) (dC (.int 324000))) aNil))))) aNil)))) E { K with nx := V_u_law_place_1 E K } ρ := id Iff.rfl
@[reducible] def T_u_law_place : DS := T_u_law_place_0
def W_u_law_place : DF := defT 1 2 T_u_law_place
theorem W_u_law_place_w {ds : List D} {Q : DK} {E : Err → Prop} : W_u_law_place ds Q E ↔ ds.length = 1 ∧ V_u_law_place_0 (fun e _ => E e) { nx := fun _ => Q .non, rt := Q } (envOf 2 ds) := id Iff.rfl
@[reducible] def T_u_law_terms_q_1 : DS :=
    (sRet (dOp oAdd (dTup (aCons (dC (.str "sum")) aNil)) (dBlt fTuple (aCons (dLc (iSeq (dVar 0)) (gName 1) bYes (dTup (aCons (dC (.str "share")) (aCons (dTup (aCons (dC (.str "wave")) (aCons (dOp oAdd (dTup (aCons (dC (.str "turning")) aNil)) (dSlice (dVar 1) (oS (dC (.int 1))) oN)) aNil))) (aCons (dOp oIx (dVar 1) (dC (.int 0))) (aCons (dC (.int 1000000)) aNil))))) [1]) aNil))))
def V_u_law_terms_q_1 : DS := T_u_law_terms_q_1
theorem V_u_law_terms_q_1_w {E : EK} {K : DE} {ρ : DL.Env} : V_u_law_terms_q_1 E K ρ ↔ (sRet (dOp oAdd (dTup (aCons (dC (.str "sum")) aNil)) (dBlt fTuple (aCons (dLc (iSeq (dVar 0)) (gName 1) bYes (dTup (aCons (dC (.str "share")) (aCons (dTup (aCons (dC (.str "wave")) (aCons (dOp oAdd (dTup (aCons (dC (.str "turning")) aNil)) (dSlice (dVar 1) (oS (dC (.int 1))) oN)) aNil))) (aCons (dOp oIx (dVar 1) (dC (.int 0))) (aCons (dC (.int 1000000)) aNil))))) [1]) aNil)))) E K ρ := id Iff.rfl
@[reducible] def T_u_law_terms_q_0 : DS :=
    (sSeq (sIf (bT (dOp oEq (dBlt fLen (aCons (dVar 0) aNil)) (dC (.int 0)))) (sRet (dTup (aCons (dC (.str "number")) (aCons (dC (.int 0)) aNil)))) sNext)
    T_u_law_terms_q_1)
def V_u_law_terms_q_0 : DS := T_u_law_terms_q_0
theorem V_u_law_terms_q_0_w {E : EK} {K : DE} {ρ : DL.Env} : V_u_law_terms_q_0 E K ρ ↔ (sIf (bT (dOp oEq (dBlt fLen (aCons (dVar 0) aNil)) (dC (.int 0)))) (sRet (dTup (aCons (dC (.str "number")) (aCons (dC (.int 0)) aNil)))) sNext) E { K with nx := V_u_law_terms_q_1 E K } ρ := id Iff.rfl
@[reducible] def T_u_law_terms_q : DS := T_u_law_terms_q_0
def W_u_law_terms_q : DF := defT 1 2 T_u_law_terms_q
theorem W_u_law_terms_q_w {ds : List D} {Q : DK} {E : Err → Prop} : W_u_law_terms_q ds Q E ↔ ds.length = 1 ∧ V_u_law_terms_q_0 (fun e _ => E e) { nx := fun _ => Q .non, rt := Q } (envOf 2 ds) := id Iff.rfl
@[reducible] def T_u_law_longitude_1 : DS :=
    (sRet (dTup (aCons (dC (.str "moved")) (aCons (dOp oAdd (dTup (aCons (dC (.str "turning")) aNil)) (dOp oIx (dVar 2) (dC (.str "motion")))) (aCons (dCall W_u_law_terms_q (aCons (dOp oIx (dVar 2) (dC (.str "terms"))) aNil)) aNil)))))
def V_u_law_longitude_1 : DS := T_u_law_longitude_1
theorem V_u_law_longitude_1_w {E : EK} {K : DE} {ρ : DL.Env} : V_u_law_longitude_1 E K ρ ↔ (sRet (dTup (aCons (dC (.str "moved")) (aCons (dOp oAdd (dTup (aCons (dC (.str "turning")) aNil)) (dOp oIx (dVar 2) (dC (.str "motion")))) (aCons (dCall W_u_law_terms_q (aCons (dOp oIx (dVar 2) (dC (.str "terms"))) aNil)) aNil))))) E K ρ := id Iff.rfl
@[reducible] def T_u_law_longitude_0 : DS :=
    (sSeq (sSet 2 (dOp oIx (dOp oIx (dVar 0) (dC (.str "bodies"))) (dVar 1)))
    T_u_law_longitude_1)
def V_u_law_longitude_0 : DS := T_u_law_longitude_0
theorem V_u_law_longitude_0_w {E : EK} {K : DE} {ρ : DL.Env} : V_u_law_longitude_0 E K ρ ↔ (sSet 2 (dOp oIx (dOp oIx (dVar 0) (dC (.str "bodies"))) (dVar 1))) E { K with nx := V_u_law_longitude_1 E K } ρ := id Iff.rfl
@[reducible] def T_u_law_longitude : DS := T_u_law_longitude_0
def W_u_law_longitude : DF := defT 2 3 T_u_law_longitude
theorem W_u_law_longitude_w {ds : List D} {Q : DK} {E : Err → Prop} : W_u_law_longitude ds Q E ↔ ds.length = 2 ∧ V_u_law_longitude_0 (fun e _ => E e) { nx := fun _ => Q .non, rt := Q } (envOf 3 ds) := id Iff.rfl
@[reducible] def T_u_law_latitude : DS := (sRet (dCall W_u_law_terms_q (aCons (dOp oIx (dOp oIx (dOp oIx (dVar 0) (dC (.str "bodies"))) (dVar 1)) (dC (.str "latitude"))) aNil)))
def W_u_law_latitude : DF := defT 2 2 T_u_law_latitude
theorem W_u_law_latitude_w {ds : List D} {Q : DK} {E : Err → Prop} : W_u_law_latitude ds Q E ↔ ds.length = 2 ∧ (sRet (dCall W_u_law_terms_q (aCons (dOp oIx (dOp oIx (dOp oIx (dVar 0) (dC (.str "bodies"))) (dVar 1)) (dC (.str "latitude"))) aNil))) (fun e _ => E e) { nx := fun _ => Q .non, rt := Q } (envOf 2 ds) := id Iff.rfl
@[reducible] def T_u_law_ahead : DS := (sRet (dTup (aCons (dC (.str "wave")) (aCons (dTup (aCons (dC (.str "moved")) (aCons (dVar 0) (aCons (dTup (aCons (dC (.str "number")) (aCons (dC (.int 324000)) aNil))) aNil)))) aNil))))
def W_u_law_ahead : DF := defT 1 1 T_u_law_ahead
theorem W_u_law_ahead_w {ds : List D} {Q : DK} {E : Err → Prop} : W_u_law_ahead ds Q E ↔ ds.length = 1 ∧ (sRet (dTup (aCons (dC (.str "wave")) (aCons (dTup (aCons (dC (.str "moved")) (aCons (dVar 0) (aCons (dTup (aCons (dC (.str "number")) (aCons (dC (.int 324000)) aNil))) aNil)))) aNil)))) (fun e _ => E e) { nx := fun _ => Q .non, rt := Q } (envOf 1 ds) := id Iff.rfl
@[reducible] def T_u_law_times : DS := (sRet (dTup (aCons (dC (.str "product")) (aCons (dVar 0) (aCons (dVar 1) (aCons (dC (.int 1000000)) aNil))))))
def W_u_law_times : DF := defT 2 2 T_u_law_times
theorem W_u_law_times_w {ds : List D} {Q : DK} {E : Err → Prop} : W_u_law_times ds Q E ↔ ds.length = 2 ∧ (sRet (dTup (aCons (dC (.str "product")) (aCons (dVar 0) (aCons (dVar 1) (aCons (dC (.int 1000000)) aNil)))))) (fun e _ => E e) { nx := fun _ => Q .non, rt := Q } (envOf 2 ds) := id Iff.rfl
@[reducible] def T_u_law_part : DS := (sRet (dTup (aCons (dC (.str "share")) (aCons (dVar 0) (aCons (dVar 1) (aCons (dC (.int 1000000)) aNil))))))
def W_u_law_part : DF := defT 2 2 T_u_law_part
theorem W_u_law_part_w {ds : List D} {Q : DK} {E : Err → Prop} : W_u_law_part ds Q E ↔ ds.length = 2 ∧ (sRet (dTup (aCons (dC (.str "share")) (aCons (dVar 0) (aCons (dVar 1) (aCons (dC (.int 1000000)) aNil)))))) (fun e _ => E e) { nx := fun _ => Q .non, rt := Q } (envOf 2 ds) := id Iff.rfl
@[reducible] def T_u_law_coordinates_3 : DS :=
    (sRet (dLst (aCons (dVar 4) (aCons (dCall W_u_law_times (aCons (dCall W_u_law_ahead (aCons (dVar 3) aNil)) (aCons (dTup (aCons (dC (.str "wave")) (aCons (dVar 2) aNil))) aNil))) (aCons (dTup (aCons (dC (.str "wave")) (aCons (dVar 3) aNil))) aNil)))))
def V_u_law_coordinates_3 : DS := T_u_law_coordinates_3
theorem V_u_law_coordinates_3_w {E : EK} {K : DE} {ρ : DL.Env} : V_u_law_coordinates_3 E K ρ ↔ (sRet (dLst (aCons (dVar 4) (aCons (dCall W_u_law_times (aCons (dCall W_u_law_ahead (aCons (dVar 3) aNil)) (aCons (dTup (aCons (dC (.str "wave")) (aCons (dVar 2) aNil))) aNil))) (aCons (dTup (aCons (dC (.str "wave")) (aCons (dVar 3) aNil))) aNil))))) E K ρ := id Iff.rfl
@[reducible] def T_u_law_coordinates_2 : DS :=
    (sSeq (sSet 4 (dCall W_u_law_times (aCons (dCall W_u_law_ahead (aCons (dVar 3) aNil)) (aCons (dCall W_u_law_ahead (aCons (dVar 2) aNil)) aNil))))
    T_u_law_coordinates_3)
def V_u_law_coordinates_2 : DS := T_u_law_coordinates_2
theorem V_u_law_coordinates_2_w {E : EK} {K : DE} {ρ : DL.Env} : V_u_law_coordinates_2 E K ρ ↔ (sSet 4 (dCall W_u_law_times (aCons (dCall W_u_law_ahead (aCons (dVar 3) aNil)) (aCons (dCall W_u_law_ahead (aCons (dVar 2) aNil)) aNil)))) E { K with nx := V_u_law_coordinates_3 E K } ρ := id Iff.rfl
@[reducible] def T_u_law_coordinates_1 : DS :=
    (sSeq (sSet 3 (dTup (aCons (dC (.str "moved")) (aCons (dTup (aCons (dC (.str "turning")) (aCons (dC (.int 0)) (aCons (dC (.int 0)) (aCons (dC (.int 1)) aNil))))) (aCons (dCall W_u_law_latitude (aCons (dVar 0) (aCons (dVar 1) aNil))) aNil)))))
    T_u_law_coordinates_2)
def V_u_law_coordinates_1 : DS := T_u_law_coordinates_1
theorem V_u_law_coordinates_1_w {E : EK} {K : DE} {ρ : DL.Env} : V_u_law_coordinates_1 E K ρ ↔ (sSet 3 (dTup (aCons (dC (.str "moved")) (aCons (dTup (aCons (dC (.str "turning")) (aCons (dC (.int 0)) (aCons (dC (.int 0)) (aCons (dC (.int 1)) aNil))))) (aCons (dCall W_u_law_latitude (aCons (dVar 0) (aCons (dVar 1) aNil))) aNil))))) E { K with nx := V_u_law_coordinates_2 E K } ρ := id Iff.rfl
@[reducible] def T_u_law_coordinates_0 : DS :=
    (sSeq (sSet 2 (dCall W_u_law_longitude (aCons (dVar 0) (aCons (dVar 1) aNil))))
    T_u_law_coordinates_1)
def V_u_law_coordinates_0 : DS := T_u_law_coordinates_0
theorem V_u_law_coordinates_0_w {E : EK} {K : DE} {ρ : DL.Env} : V_u_law_coordinates_0 E K ρ ↔ (sSet 2 (dCall W_u_law_longitude (aCons (dVar 0) (aCons (dVar 1) aNil)))) E { K with nx := V_u_law_coordinates_1 E K } ρ := id Iff.rfl
@[reducible] def T_u_law_coordinates : DS := T_u_law_coordinates_0
def W_u_law_coordinates : DF := defT 2 5 T_u_law_coordinates
theorem W_u_law_coordinates_w {ds : List D} {Q : DK} {E : Err → Prop} : W_u_law_coordinates ds Q E ↔ ds.length = 2 ∧ V_u_law_coordinates_0 (fun e _ => E e) { nx := fun _ => Q .non, rt := Q } (envOf 5 ds) := id Iff.rfl
@[reducible] def T_u_law_equator_3 : DS :=
    (sRet (dLst (aCons (dVar 2) (aCons (dTup (aCons (dC (.str "sum")) (aCons (dCall W_u_law_part (aCons (dVar 3) (aCons (dVar 6) aNil))) (aCons (dCall W_u_law_part (aCons (dVar 4) (aCons (dUn oNeg (dVar 5)) aNil))) aNil)))) (aCons (dTup (aCons (dC (.str "sum")) (aCons (dCall W_u_law_part (aCons (dVar 3) (aCons (dVar 5) aNil))) (aCons (dCall W_u_law_part (aCons (dVar 4) (aCons (dVar 6) aNil))) aNil)))) aNil)))))
def V_u_law_equator_3 : DS := T_u_law_equator_3
theorem V_u_law_equator_3_w {E : EK} {K : DE} {ρ : DL.Env} : V_u_law_equator_3 E K ρ ↔ (sRet (dLst (aCons (dVar 2) (aCons (dTup (aCons (dC (.str "sum")) (aCons (dCall W_u_law_part (aCons (dVar 3) (aCons (dVar 6) aNil))) (aCons (dCall W_u_law_part (aCons (dVar 4) (aCons (dUn oNeg (dVar 5)) aNil))) aNil)))) (aCons (dTup (aCons (dC (.str "sum")) (aCons (dCall W_u_law_part (aCons (dVar 3) (aCons (dVar 5) aNil))) (aCons (dCall W_u_law_part (aCons (dVar 4) (aCons (dVar 6) aNil))) aNil)))) aNil))))) E K ρ := id Iff.rfl
@[reducible] def T_u_law_equator_2 : DS :=
    (sSeq (sSet 6 (dCall W_u_law_wave (aCons (dOp oAdd (dOp oIx (dVar 0) (dC (.str "tilt"))) (dC (.int 324000))) aNil)))
    T_u_law_equator_3)
def V_u_law_equator_2 : DS := T_u_law_equator_2
theorem V_u_law_equator_2_w {E : EK} {K : DE} {ρ : DL.Env} : V_u_law_equator_2 E K ρ ↔ (sSet 6 (dCall W_u_law_wave (aCons (dOp oAdd (dOp oIx (dVar 0) (dC (.str "tilt"))) (dC (.int 324000))) aNil))) E { K with nx := V_u_law_equator_3 E K } ρ := id Iff.rfl
@[reducible] def T_u_law_equator_1 : DS :=
    (sSeq (sSet 5 (dCall W_u_law_wave (aCons (dOp oIx (dVar 0) (dC (.str "tilt"))) aNil)))
    T_u_law_equator_2)
def V_u_law_equator_1 : DS := T_u_law_equator_1
theorem V_u_law_equator_1_w {E : EK} {K : DE} {ρ : DL.Env} : V_u_law_equator_1 E K ρ ↔ (sSet 5 (dCall W_u_law_wave (aCons (dOp oIx (dVar 0) (dC (.str "tilt"))) aNil))) E { K with nx := V_u_law_equator_2 E K } ρ := id Iff.rfl
@[reducible] def T_u_law_equator_0 : DS :=
    (sSeq (sAsg (dCall W_u_law_coordinates (aCons (dVar 0) (aCons (dVar 1) aNil))) (gTup (gCons (gName 2) (gCons (gName 3) (gCons (gName 4) gNil)))))
    T_u_law_equator_1)
def V_u_law_equator_0 : DS := T_u_law_equator_0
theorem V_u_law_equator_0_w {E : EK} {K : DE} {ρ : DL.Env} : V_u_law_equator_0 E K ρ ↔ (sAsg (dCall W_u_law_coordinates (aCons (dVar 0) (aCons (dVar 1) aNil))) (gTup (gCons (gName 2) (gCons (gName 3) (gCons (gName 4) gNil))))) E { K with nx := V_u_law_equator_1 E K } ρ := id Iff.rfl
@[reducible] def T_u_law_equator : DS := T_u_law_equator_0
def W_u_law_equator : DF := defT 2 7 T_u_law_equator
theorem W_u_law_equator_w {ds : List D} {Q : DK} {E : Err → Prop} : W_u_law_equator ds Q E ↔ ds.length = 2 ∧ V_u_law_equator_0 (fun e _ => E e) { nx := fun _ => Q .non, rt := Q } (envOf 7 ds) := id Iff.rfl
@[reducible] def T_u_law_turned_1 : DS :=
    (sRet (dTup (aCons (dC (.str "turning")) (aCons (dOp oAdd (dVar 2) (dOp oIx (dVar 1) (dC (.int 1)))) (aCons (dVar 3) (aCons (dVar 4) aNil))))))
def V_u_law_turned_1 : DS := T_u_law_turned_1
theorem V_u_law_turned_1_w {E : EK} {K : DE} {ρ : DL.Env} : V_u_law_turned_1 E K ρ ↔ (sRet (dTup (aCons (dC (.str "turning")) (aCons (dOp oAdd (dVar 2) (dOp oIx (dVar 1) (dC (.int 1)))) (aCons (dVar 3) (aCons (dVar 4) aNil)))))) E K ρ := id Iff.rfl
@[reducible] def T_u_law_turned_0 : DS :=
    (sSeq (sAsg (dOp oIx (dVar 0) (dC (.str "turning"))) (gTup (gCons (gName 2) (gCons (gName 3) (gCons (gName 4) gNil)))))
    T_u_law_turned_1)
def V_u_law_turned_0 : DS := T_u_law_turned_0
theorem V_u_law_turned_0_w {E : EK} {K : DE} {ρ : DL.Env} : V_u_law_turned_0 E K ρ ↔ (sAsg (dOp oIx (dVar 0) (dC (.str "turning"))) (gTup (gCons (gName 2) (gCons (gName 3) (gCons (gName 4) gNil))))) E { K with nx := V_u_law_turned_1 E K } ρ := id Iff.rfl
@[reducible] def T_u_law_turned : DS := T_u_law_turned_0
def W_u_law_turned : DF := defT 2 5 T_u_law_turned
theorem W_u_law_turned_w {ds : List D} {Q : DK} {E : Err → Prop} : W_u_law_turned ds Q E ↔ ds.length = 2 ∧ V_u_law_turned_0 (fun e _ => E e) { nx := fun _ => Q .non, rt := Q } (envOf 5 ds) := id Iff.rfl
@[reducible] def T_u_law_altitude_4 : DS :=
    (sRet (dTup (aCons (dC (.str "sum")) (aCons (dCall W_u_law_part (aCons (dCall W_u_law_times (aCons (dVar 3) (aCons (dCall W_u_law_ahead (aCons (dVar 6) aNil)) aNil))) (aCons (dVar 8) aNil))) (aCons (dCall W_u_law_part (aCons (dCall W_u_law_times (aCons (dVar 4) (aCons (dTup (aCons (dC (.str "wave")) (aCons (dVar 6) aNil))) aNil))) (aCons (dVar 8) aNil))) (aCons (dCall W_u_law_part (aCons (dVar 5) (aCons (dVar 7) aNil))) aNil))))))
def V_u_law_altitude_4 : DS := T_u_law_altitude_4
theorem V_u_law_altitude_4_w {E : EK} {K : DE} {ρ : DL.Env} : V_u_law_altitude_4 E K ρ ↔ (sRet (dTup (aCons (dC (.str "sum")) (aCons (dCall W_u_law_part (aCons (dCall W_u_law_times (aCons (dVar 3) (aCons (dCall W_u_law_ahead (aCons (dVar 6) aNil)) aNil))) (aCons (dVar 8) aNil))) (aCons (dCall W_u_law_part (aCons (dCall W_u_law_times (aCons (dVar 4) (aCons (dTup (aCons (dC (.str "wave")) (aCons (dVar 6) aNil))) aNil))) (aCons (dVar 8) aNil))) (aCons (dCall W_u_law_part (aCons (dVar 5) (aCons (dVar 7) aNil))) aNil)))))) E K ρ := id Iff.rfl
@[reducible] def T_u_law_altitude_3 : DS :=
    (sSeq (sSet 8 (dCall W_u_law_wave (aCons (dOp oAdd (dOp oIx (dVar 1) (dC (.int 0))) (dC (.int 324000))) aNil)))
    T_u_law_altitude_4)
def V_u_law_altitude_3 : DS := T_u_law_altitude_3
theorem V_u_law_altitude_3_w {E : EK} {K : DE} {ρ : DL.Env} : V_u_law_altitude_3 E K ρ ↔ (sSet 8 (dCall W_u_law_wave (aCons (dOp oAdd (dOp oIx (dVar 1) (dC (.int 0))) (dC (.int 324000))) aNil))) E { K with nx := V_u_law_altitude_4 E K } ρ := id Iff.rfl
@[reducible] def T_u_law_altitude_2 : DS :=
    (sSeq (sSet 7 (dCall W_u_law_wave (aCons (dOp oIx (dVar 1) (dC (.int 0))) aNil)))
    T_u_law_altitude_3)
def V_u_law_altitude_2 : DS := T_u_law_altitude_2
theorem V_u_law_altitude_2_w {E : EK} {K : DE} {ρ : DL.Env} : V_u_law_altitude_2 E K ρ ↔ (sSet 7 (dCall W_u_law_wave (aCons (dOp oIx (dVar 1) (dC (.int 0))) aNil))) E { K with nx := V_u_law_altitude_3 E K } ρ := id Iff.rfl
@[reducible] def T_u_law_altitude_1 : DS :=
    (sSeq (sSet 6 (dCall W_u_law_turned (aCons (dVar 0) (aCons (dVar 1) aNil))))
    T_u_law_altitude_2)
def V_u_law_altitude_1 : DS := T_u_law_altitude_1
theorem V_u_law_altitude_1_w {E : EK} {K : DE} {ρ : DL.Env} : V_u_law_altitude_1 E K ρ ↔ (sSet 6 (dCall W_u_law_turned (aCons (dVar 0) (aCons (dVar 1) aNil)))) E { K with nx := V_u_law_altitude_2 E K } ρ := id Iff.rfl
@[reducible] def T_u_law_altitude_0 : DS :=
    (sSeq (sAsg (dCall W_u_law_equator (aCons (dVar 0) (aCons (dVar 2) aNil))) (gTup (gCons (gName 3) (gCons (gName 4) (gCons (gName 5) gNil)))))
    T_u_law_altitude_1)
def V_u_law_altitude_0 : DS := T_u_law_altitude_0
theorem V_u_law_altitude_0_w {E : EK} {K : DE} {ρ : DL.Env} : V_u_law_altitude_0 E K ρ ↔ (sAsg (dCall W_u_law_equator (aCons (dVar 0) (aCons (dVar 2) aNil))) (gTup (gCons (gName 3) (gCons (gName 4) (gCons (gName 5) gNil))))) E { K with nx := V_u_law_altitude_1 E K } ρ := id Iff.rfl
@[reducible] def T_u_law_altitude : DS := T_u_law_altitude_0
def W_u_law_altitude : DF := defT 3 9 T_u_law_altitude
theorem W_u_law_altitude_w {ds : List D} {Q : DK} {E : Err → Prop} : W_u_law_altitude ds Q E ↔ ds.length = 3 ∧ V_u_law_altitude_0 (fun e _ => E e) { nx := fun _ => Q .non, rt := Q } (envOf 9 ds) := id Iff.rfl
@[reducible] def T_u_law_near_L1_2 : DS :=
    (sFgt [0, 1, 2, 7, 8] sNext)
def V_u_law_near_L1_2 : DS := T_u_law_near_L1_2
theorem V_u_law_near_L1_2_w {E : EK} {K : DE} {ρ : DL.Env} : V_u_law_near_L1_2 E K ρ ↔ (sFgt [0, 1, 2, 7, 8] sNext) E K ρ := id Iff.rfl
@[reducible] def T_u_law_near_L1_1 : DS :=
    (sSeq (sApp 4 (dCall W_u_law_times (aCons (dVar 8) (aCons (dVar 8) aNil))))
    T_u_law_near_L1_2)
def V_u_law_near_L1_1 : DS := T_u_law_near_L1_1
theorem V_u_law_near_L1_1_w {E : EK} {K : DE} {ρ : DL.Env} : V_u_law_near_L1_1 E K ρ ↔ (sApp 4 (dCall W_u_law_times (aCons (dVar 8) (aCons (dVar 8) aNil)))) E { K with nx := V_u_law_near_L1_2 E K } ρ := id Iff.rfl
@[reducible] def T_u_law_near_L1_0 : DS :=
    (sSeq (sSet 8 (dTup (aCons (dC (.str "sum")) (aCons (dOp oIx (dVar 6) (dVar 7)) (aCons (dTup (aCons (dC (.str "share")) (aCons (dOp oIx (dVar 5) (dVar 7)) (aCons (dUn oNeg (dC (.int 1))) (aCons (dC (.int 1)) aNil))))) aNil)))))
    T_u_law_near_L1_1)
def V_u_law_near_L1_0 : DS := T_u_law_near_L1_0
theorem V_u_law_near_L1_0_w {E : EK} {K : DE} {ρ : DL.Env} : V_u_law_near_L1_0 E K ρ ↔ (sSet 8 (dTup (aCons (dC (.str "sum")) (aCons (dOp oIx (dVar 6) (dVar 7)) (aCons (dTup (aCons (dC (.str "share")) (aCons (dOp oIx (dVar 5) (dVar 7)) (aCons (dUn oNeg (dC (.int 1))) (aCons (dC (.int 1)) aNil))))) aNil))))) E { K with nx := V_u_law_near_L1_1 E K } ρ := id Iff.rfl
@[reducible] def T_u_law_near_4 : DS :=
    (sFrz 4 (sRet (dTup (aCons (dC (.str "sum")) (aCons (dTup (aCons (dC (.str "number")) (aCons (dOp oDiv (dOp oMul (dVar 3) (dVar 3)) (dC (.int 1000000))) aNil))) (aCons (dTup (aCons (dC (.str "share")) (aCons (dOp oAdd (dTup (aCons (dC (.str "sum")) aNil)) (dBlt fTuple (aCons (dVar 4) aNil))) (aCons (dUn oNeg (dC (.int 1))) (aCons (dC (.int 1)) aNil))))) aNil))))))
def V_u_law_near_4 : DS := T_u_law_near_4
theorem V_u_law_near_4_w {E : EK} {K : DE} {ρ : DL.Env} : V_u_law_near_4 E K ρ ↔ (sFrz 4 (sRet (dTup (aCons (dC (.str "sum")) (aCons (dTup (aCons (dC (.str "number")) (aCons (dOp oDiv (dOp oMul (dVar 3) (dVar 3)) (dC (.int 1000000))) aNil))) (aCons (dTup (aCons (dC (.str "share")) (aCons (dOp oAdd (dTup (aCons (dC (.str "sum")) aNil)) (dBlt fTuple (aCons (dVar 4) aNil))) (aCons (dUn oNeg (dC (.int 1))) (aCons (dC (.int 1)) aNil))))) aNil)))))) E K ρ := id Iff.rfl
@[reducible] def T_u_law_near_3 : DS :=
    (sSeq (sFgt [0, 1, 2, 7, 8] (sFor (iRng1 (aCons (dC (.int 3)) aNil)) (gName 7) T_u_law_near_L1_0))
    T_u_law_near_4)
def V_u_law_near_3 : DS := T_u_law_near_3
theorem V_u_law_near_3_w {E : EK} {K : DE} {ρ : DL.Env} : V_u_law_near_3 E K ρ ↔ (sFgt [0, 1, 2, 7, 8] (sFor (iRng1 (aCons (dC (.int 3)) aNil)) (gName 7) V_u_law_near_L1_0)) E { K with nx := V_u_law_near_4 E K } ρ := id Iff.rfl
@[reducible] def T_u_law_near_2 : DS :=
    (sSeq (sSet 6 (dCall W_u_law_coordinates (aCons (dVar 0) (aCons (dVar 1) aNil))))
    T_u_law_near_3)
def V_u_law_near_2 : DS := T_u_law_near_2
theorem V_u_law_near_2_w {E : EK} {K : DE} {ρ : DL.Env} : V_u_law_near_2 E K ρ ↔ (sSet 6 (dCall W_u_law_coordinates (aCons (dVar 0) (aCons (dVar 1) aNil)))) E { K with nx := V_u_law_near_3 E K } ρ := id Iff.rfl
@[reducible] def T_u_law_near_1 : DS :=
    (sSeq (sSet 5 (dCall W_u_law_coordinates (aCons (dVar 0) (aCons (dVar 2) aNil))))
    T_u_law_near_2)
def V_u_law_near_1 : DS := T_u_law_near_1
theorem V_u_law_near_1_w {E : EK} {K : DE} {ρ : DL.Env} : V_u_law_near_1 E K ρ ↔ (sSet 5 (dCall W_u_law_coordinates (aCons (dVar 0) (aCons (dVar 2) aNil)))) E { K with nx := V_u_law_near_2 E K } ρ := id Iff.rfl
@[reducible] def T_u_law_near_0 : DS :=
    (sSeq (sOwn 4 (dLst aNil))
    T_u_law_near_1)
def V_u_law_near_0 : DS := T_u_law_near_0
theorem V_u_law_near_0_w {E : EK} {K : DE} {ρ : DL.Env} : V_u_law_near_0 E K ρ ↔ (sOwn 4 (dLst aNil)) E { K with nx := V_u_law_near_1 E K } ρ := id Iff.rfl
@[reducible] def T_u_law_near : DS := T_u_law_near_0
def W_u_law_near : DF := defT 4 9 T_u_law_near
theorem W_u_law_near_w {ds : List D} {Q : DK} {E : Err → Prop} : W_u_law_near ds Q E ↔ ds.length = 4 ∧ V_u_law_near_0 (fun e _ => E e) { nx := fun _ => Q .non, rt := Q } (envOf 9 ds) := id Iff.rfl
@[reducible] def T_u_law_refused_1 : DS :=
    (sRet (dC .non))
def V_u_law_refused_1 : DS := T_u_law_refused_1
theorem V_u_law_refused_1_w {E : EK} {K : DE} {ρ : DL.Env} : V_u_law_refused_1 E K ρ ↔ (sRet (dC .non)) E K ρ := id Iff.rfl
@[reducible] def T_u_law_refused_0 : DS :=
    (sSeq (sTryE "SkyError" [] 5 (xTup (xCons (xFld "code") (xCons (xFld "name") xNil))) (sIf (bT (dOp oEq (dVar 0) (dC (.int 0)))) (sDrop (dCall W_longitude (aCons (dVar 1) (aCons (dVar 3) aNil)))) (sIf (bT (dOp oEq (dVar 0) (dC (.int 1)))) (sDrop (dCall W_latitude (aCons (dVar 1) (aCons (dVar 3) aNil)))) (sIf (bT (dOp oEq (dVar 0) (dC (.int 2)))) (sDrop (dCall W_elongation (aCons (dVar 1) (aCons (dVar 3) (aCons (dVar 4) aNil))))) (sIf (bT (dOp oEq (dVar 0) (dC (.int 3)))) (sDrop (dCall W_altitude (aCons (dVar 1) (aCons (dVar 2) (aCons (dVar 3) aNil))))) (sIf (bT (dOp oEq (dVar 0) (dC (.int 4)))) (sDrop (dCall W_east (aCons (dVar 1) (aCons (dVar 2) (aCons (dVar 3) aNil))))) (sDrop (dCall W_nearness (aCons (dVar 1) (aCons (dVar 3) (aCons (dVar 4) (aCons (dC (.int 5)) aNil))))))))))))
    T_u_law_refused_1)
def V_u_law_refused_0 : DS := T_u_law_refused_0
theorem V_u_law_refused_0_w {E : EK} {K : DE} {ρ : DL.Env} : V_u_law_refused_0 E K ρ ↔ (sTryE "SkyError" [] 5 (xTup (xCons (xFld "code") (xCons (xFld "name") xNil))) (sIf (bT (dOp oEq (dVar 0) (dC (.int 0)))) (sDrop (dCall W_longitude (aCons (dVar 1) (aCons (dVar 3) aNil)))) (sIf (bT (dOp oEq (dVar 0) (dC (.int 1)))) (sDrop (dCall W_latitude (aCons (dVar 1) (aCons (dVar 3) aNil)))) (sIf (bT (dOp oEq (dVar 0) (dC (.int 2)))) (sDrop (dCall W_elongation (aCons (dVar 1) (aCons (dVar 3) (aCons (dVar 4) aNil))))) (sIf (bT (dOp oEq (dVar 0) (dC (.int 3)))) (sDrop (dCall W_altitude (aCons (dVar 1) (aCons (dVar 2) (aCons (dVar 3) aNil))))) (sIf (bT (dOp oEq (dVar 0) (dC (.int 4)))) (sDrop (dCall W_east (aCons (dVar 1) (aCons (dVar 2) (aCons (dVar 3) aNil))))) (sDrop (dCall W_nearness (aCons (dVar 1) (aCons (dVar 3) (aCons (dVar 4) (aCons (dC (.int 5)) aNil)))))))))))) E { K with nx := V_u_law_refused_1 E K } ρ := id Iff.rfl
@[reducible] def T_u_law_refused : DS := T_u_law_refused_0
def W_u_law_refused : DF := defT 5 6 T_u_law_refused
theorem W_u_law_refused_w {ds : List D} {Q : DK} {E : Err → Prop} : W_u_law_refused ds Q E ↔ ds.length = 5 ∧ V_u_law_refused_0 (fun e _ => E e) { nx := fun _ => Q .non, rt := Q } (envOf 6 ds) := id Iff.rfl
@[reducible] def T_law_L1_3 : DS :=
    (sFgt [0, 1, 4, 7, 9, 10, 11, 12, 13, 14, 15, 16, 17, 18] sNext)
def V_law_L1_3 : DS := T_law_L1_3
theorem V_law_L1_3_w {E : EK} {K : DE} {ρ : DL.Env} : V_law_L1_3 E K ρ ↔ (sFgt [0, 1, 4, 7, 9, 10, 11, 12, 13, 14, 15, 16, 17, 18] sNext) E K ρ := id Iff.rfl
@[reducible] def T_law_L1_2 : DS :=
    (sSeq (sIf (bAnd (bT (dOp oIn (dVar 16) (dLst (aCons (dC (.int 2)) (aCons (dC (.int 5)) aNil))))) (bT (dOp oNe (dCall W_u_law_refused (aCons (dVar 16) (aCons (dVar 2) (aCons (dVar 3) (aCons (dC (.str "none")) (aCons (dC (.str "other")) aNil)))))) (dTup (aCons (dC (.str "body")) (aCons (dC (.str "none")) aNil)))))) (sRet (dC (.bl false))) sNext)
    T_law_L1_3)
def V_law_L1_2 : DS := T_law_L1_2
theorem V_law_L1_2_w {E : EK} {K : DE} {ρ : DL.Env} : V_law_L1_2 E K ρ ↔ (sIf (bAnd (bT (dOp oIn (dVar 16) (dLst (aCons (dC (.int 2)) (aCons (dC (.int 5)) aNil))))) (bT (dOp oNe (dCall W_u_law_refused (aCons (dVar 16) (aCons (dVar 2) (aCons (dVar 3) (aCons (dC (.str "none")) (aCons (dC (.str "other")) aNil)))))) (dTup (aCons (dC (.str "body")) (aCons (dC (.str "none")) aNil)))))) (sRet (dC (.bl false))) sNext) E { K with nx := V_law_L1_3 E K } ρ := id Iff.rfl
@[reducible] def T_law_L1_1 : DS :=
    (sSeq (sIf (bAnd (bT (dOp oIn (dVar 16) (dLst (aCons (dC (.int 2)) (aCons (dC (.int 5)) aNil))))) (bT (dOp oNe (dCall W_u_law_refused (aCons (dVar 16) (aCons (dVar 2) (aCons (dVar 3) (aCons (dVar 5) (aCons (dC (.str "other")) aNil)))))) (dTup (aCons (dC (.str "body")) (aCons (dC (.str "other")) aNil)))))) (sRet (dC (.bl false))) sNext)
    T_law_L1_2)
def V_law_L1_1 : DS := T_law_L1_1
theorem V_law_L1_1_w {E : EK} {K : DE} {ρ : DL.Env} : V_law_L1_1 E K ρ ↔ (sIf (bAnd (bT (dOp oIn (dVar 16) (dLst (aCons (dC (.int 2)) (aCons (dC (.int 5)) aNil))))) (bT (dOp oNe (dCall W_u_law_refused (aCons (dVar 16) (aCons (dVar 2) (aCons (dVar 3) (aCons (dVar 5) (aCons (dC (.str "other")) aNil)))))) (dTup (aCons (dC (.str "body")) (aCons (dC (.str "other")) aNil)))))) (sRet (dC (.bl false))) sNext) E { K with nx := V_law_L1_2 E K } ρ := id Iff.rfl
@[reducible] def T_law_L1_0 : DS :=
    (sSeq (sIf (bT (dOp oNe (dCall W_u_law_refused (aCons (dVar 16) (aCons (dVar 2) (aCons (dVar 3) (aCons (dC (.str "none")) (aCons (dVar 6) aNil)))))) (dTup (aCons (dC (.str "body")) (aCons (dC (.str "none")) aNil))))) (sRet (dC (.bl false))) sNext)
    T_law_L1_1)
def V_law_L1_0 : DS := T_law_L1_0
theorem V_law_L1_0_w {E : EK} {K : DE} {ρ : DL.Env} : V_law_L1_0 E K ρ ↔ (sIf (bT (dOp oNe (dCall W_u_law_refused (aCons (dVar 16) (aCons (dVar 2) (aCons (dVar 3) (aCons (dC (.str "none")) (aCons (dVar 6) aNil)))))) (dTup (aCons (dC (.str "body")) (aCons (dC (.str "none")) aNil))))) (sRet (dC (.bl false))) sNext) E { K with nx := V_law_L1_1 E K } ρ := id Iff.rfl
@[reducible] def T_law_21 : DS :=
    (sRet (dOp oEq (dBlt fRepr (aCons (dVar 2) aNil)) (dVar 8)))
def V_law_21 : DS := T_law_21
theorem V_law_21_w {E : EK} {K : DE} {ρ : DL.Env} : V_law_21 E K ρ ↔ (sRet (dOp oEq (dBlt fRepr (aCons (dVar 2) aNil)) (dVar 8))) E K ρ := id Iff.rfl
@[reducible] def T_law_20 : DS :=
    (sSeq (sFgt [0, 1, 4, 7, 9, 10, 11, 12, 13, 14, 15, 16, 17, 18] (sFor (iRng1 (aCons (dC (.int 6)) aNil)) (gName 16) T_law_L1_0))
    T_law_21)
def V_law_20 : DS := T_law_20
theorem V_law_20_w {E : EK} {K : DE} {ρ : DL.Env} : V_law_20 E K ρ ↔ (sFgt [0, 1, 4, 7, 9, 10, 11, 12, 13, 14, 15, 16, 17, 18] (sFor (iRng1 (aCons (dC (.int 6)) aNil)) (gName 16) V_law_L1_0)) E { K with nx := V_law_21 E K } ρ := id Iff.rfl
@[reducible] def T_law_19 : DS :=
    (sSeq (sIf (bOr (bT (dOp oNe (dCall W_elongation (aCons (dVar 2) (aCons (dVar 5) (aCons (dVar 6) aNil)))) (dVar 15))) (bOr (bT (dOp oNe (dCall W_longitude (aCons (dVar 2) (aCons (dVar 5) aNil))) (dOp oIx (dVar 15) (dC (.int 1))))) (bNot (bT (dCall W_is_angle (aCons (dVar 15) aNil)))))) (sRet (dC (.bl false))) sNext)
    T_law_20)
def V_law_19 : DS := T_law_19
theorem V_law_19_w {E : EK} {K : DE} {ρ : DL.Env} : V_law_19 E K ρ ↔ (sIf (bOr (bT (dOp oNe (dCall W_elongation (aCons (dVar 2) (aCons (dVar 5) (aCons (dVar 6) aNil)))) (dVar 15))) (bOr (bT (dOp oNe (dCall W_longitude (aCons (dVar 2) (aCons (dVar 5) aNil))) (dOp oIx (dVar 15) (dC (.int 1))))) (bNot (bT (dCall W_is_angle (aCons (dVar 15) aNil)))))) (sRet (dC (.bl false))) sNext) E { K with nx := V_law_20 E K } ρ := id Iff.rfl
@[reducible] def T_law_18 : DS :=
    (sSeq (sSet 15 (dTup (aCons (dC (.str "minus")) (aCons (dCall W_u_law_longitude (aCons (dVar 2) (aCons (dVar 5) aNil))) (aCons (dCall W_u_law_longitude (aCons (dVar 2) (aCons (dVar 6) aNil))) aNil)))))
    T_law_19)
def V_law_18 : DS := T_law_18
theorem V_law_18_w {E : EK} {K : DE} {ρ : DL.Env} : V_law_18 E K ρ ↔ (sSet 15 (dTup (aCons (dC (.str "minus")) (aCons (dCall W_u_law_longitude (aCons (dVar 2) (aCons (dVar 5) aNil))) (aCons (dCall W_u_law_longitude (aCons (dVar 2) (aCons (dVar 6) aNil))) aNil))))) E { K with nx := V_law_19 E K } ρ := id Iff.rfl
@[reducible] def T_law_17 : DS :=
    (sSeq (sIf (bOr (bBor (bT (dOp oNe (dVar 14) (dVar 13)))) (bNot (bT (dBor (dBlt fAll (aCons (dLc (iSeq (dVar 14)) (gName 18) bYes (dCall W_u_law_is (aCons (dCall W_is_quantity (aCons (dVar 18) aNil)) (aCons (dC (.bl true)) aNil))) [18]) aNil)))))) (sRet (dC (.bl false))) sNext)
    T_law_18)
def V_law_17 : DS := T_law_17
theorem V_law_17_w {E : EK} {K : DE} {ρ : DL.Env} : V_law_17 E K ρ ↔ (sIf (bOr (bBor (bT (dOp oNe (dVar 14) (dVar 13)))) (bNot (bT (dBor (dBlt fAll (aCons (dLc (iSeq (dVar 14)) (gName 18) bYes (dCall W_u_law_is (aCons (dCall W_is_quantity (aCons (dVar 18) aNil)) (aCons (dC (.bl true)) aNil))) [18]) aNil)))))) (sRet (dC (.bl false))) sNext) E { K with nx := V_law_18 E K } ρ := id Iff.rfl
@[reducible] def T_law_16 : DS :=
    (sSeq (sApp 14 (dCall W_terms_quantity (aCons (dOp oIx (dOp oIx (dOp oIx (dVar 2) (dC (.str "bodies"))) (dVar 5)) (dC (.str "terms"))) aNil)))
    T_law_17)
def V_law_16 : DS := T_law_16
theorem V_law_16_w {E : EK} {K : DE} {ρ : DL.Env} : V_law_16 E K ρ ↔ (sApp 14 (dCall W_terms_quantity (aCons (dOp oIx (dOp oIx (dOp oIx (dVar 2) (dC (.str "bodies"))) (dVar 5)) (dC (.str "terms"))) aNil))) E { K with nx := V_law_17 E K } ρ := id Iff.rfl
@[reducible] def T_law_15 : DS :=
    (sSeq (sApp 13 (dCall W_u_law_terms_q (aCons (dOp oIx (dOp oIx (dOp oIx (dVar 2) (dC (.str "bodies"))) (dVar 5)) (dC (.str "terms"))) aNil)))
    T_law_16)
def V_law_15 : DS := T_law_15
theorem V_law_15_w {E : EK} {K : DE} {ρ : DL.Env} : V_law_15 E K ρ ↔ (sApp 13 (dCall W_u_law_terms_q (aCons (dOp oIx (dOp oIx (dOp oIx (dVar 2) (dC (.str "bodies"))) (dVar 5)) (dC (.str "terms"))) aNil))) E { K with nx := V_law_16 E K } ρ := id Iff.rfl
@[reducible] def T_law_14 : DS :=
    (sSeq (sLop lExt 14 (aCons (dLst (aCons (dCall W_east (aCons (dVar 2) (aCons (dVar 3) (aCons (dVar 5) aNil)))) (aCons (dCall W_south (aCons (dVar 2) (aCons (dVar 3) (aCons (dVar 5) aNil)))) aNil))) aNil))
    T_law_15)
def V_law_14 : DS := T_law_14
theorem V_law_14_w {E : EK} {K : DE} {ρ : DL.Env} : V_law_14 E K ρ ↔ (sLop lExt 14 (aCons (dLst (aCons (dCall W_east (aCons (dVar 2) (aCons (dVar 3) (aCons (dVar 5) aNil)))) (aCons (dCall W_south (aCons (dVar 2) (aCons (dVar 3) (aCons (dVar 5) aNil)))) aNil))) aNil)) E { K with nx := V_law_15 E K } ρ := id Iff.rfl
@[reducible] def T_law_13 : DS :=
    (sSeq (sApp 13 (dTup (aCons (dC (.str "sum")) (aCons (dCall W_u_law_times (aCons (dVar 9) (aCons (dCall W_u_law_ahead (aCons (dVar 12) aNil)) aNil))) (aCons (dCall W_u_law_times (aCons (dVar 10) (aCons (dTup (aCons (dC (.str "wave")) (aCons (dVar 12) aNil))) aNil))) aNil)))))
    T_law_14)
def V_law_13 : DS := T_law_13
theorem V_law_13_w {E : EK} {K : DE} {ρ : DL.Env} : V_law_13 E K ρ ↔ (sApp 13 (dTup (aCons (dC (.str "sum")) (aCons (dCall W_u_law_times (aCons (dVar 9) (aCons (dCall W_u_law_ahead (aCons (dVar 12) aNil)) aNil))) (aCons (dCall W_u_law_times (aCons (dVar 10) (aCons (dTup (aCons (dC (.str "wave")) (aCons (dVar 12) aNil))) aNil))) aNil))))) E { K with nx := V_law_14 E K } ρ := id Iff.rfl
@[reducible] def T_law_12 : DS :=
    (sSeq (sApp 13 (dTup (aCons (dC (.str "sum")) (aCons (dCall W_u_law_times (aCons (dVar 10) (aCons (dCall W_u_law_ahead (aCons (dVar 12) aNil)) aNil))) (aCons (dTup (aCons (dC (.str "share")) (aCons (dCall W_u_law_times (aCons (dVar 9) (aCons (dTup (aCons (dC (.str "wave")) (aCons (dVar 12) aNil))) aNil))) (aCons (dUn oNeg (dC (.int 1))) (aCons (dC (.int 1)) aNil))))) aNil)))))
    T_law_13)
def V_law_12 : DS := T_law_12
theorem V_law_12_w {E : EK} {K : DE} {ρ : DL.Env} : V_law_12 E K ρ ↔ (sApp 13 (dTup (aCons (dC (.str "sum")) (aCons (dCall W_u_law_times (aCons (dVar 10) (aCons (dCall W_u_law_ahead (aCons (dVar 12) aNil)) aNil))) (aCons (dTup (aCons (dC (.str "share")) (aCons (dCall W_u_law_times (aCons (dVar 9) (aCons (dTup (aCons (dC (.str "wave")) (aCons (dVar 12) aNil))) aNil))) (aCons (dUn oNeg (dC (.int 1))) (aCons (dC (.int 1)) aNil))))) aNil))))) E { K with nx := V_law_13 E K } ρ := id Iff.rfl
@[reducible] def T_law_11 : DS :=
    (sSeq (sOwn 14 (dLst (aCons (dCall W_altitude (aCons (dVar 2) (aCons (dVar 3) (aCons (dVar 5) aNil)))) (aCons (dCall W_latitude (aCons (dVar 2) (aCons (dVar 5) aNil))) (aCons (dCall W_nearness (aCons (dVar 2) (aCons (dVar 5) (aCons (dVar 6) (aCons (dVar 7) aNil))))) aNil)))))
    T_law_12)
def V_law_11 : DS := T_law_11
theorem V_law_11_w {E : EK} {K : DE} {ρ : DL.Env} : V_law_11 E K ρ ↔ (sOwn 14 (dLst (aCons (dCall W_altitude (aCons (dVar 2) (aCons (dVar 3) (aCons (dVar 5) aNil)))) (aCons (dCall W_latitude (aCons (dVar 2) (aCons (dVar 5) aNil))) (aCons (dCall W_nearness (aCons (dVar 2) (aCons (dVar 5) (aCons (dVar 6) (aCons (dVar 7) aNil))))) aNil))))) E { K with nx := V_law_12 E K } ρ := id Iff.rfl
@[reducible] def T_law_10 : DS :=
    (sSeq (sOwn 13 (dLst (aCons (dCall W_u_law_altitude (aCons (dVar 2) (aCons (dVar 3) (aCons (dVar 5) aNil)))) (aCons (dCall W_u_law_latitude (aCons (dVar 2) (aCons (dVar 5) aNil))) (aCons (dCall W_u_law_near (aCons (dVar 2) (aCons (dVar 5) (aCons (dVar 6) (aCons (dVar 7) aNil))))) aNil)))))
    T_law_11)
def V_law_10 : DS := T_law_10
theorem V_law_10_w {E : EK} {K : DE} {ρ : DL.Env} : V_law_10 E K ρ ↔ (sOwn 13 (dLst (aCons (dCall W_u_law_altitude (aCons (dVar 2) (aCons (dVar 3) (aCons (dVar 5) aNil)))) (aCons (dCall W_u_law_latitude (aCons (dVar 2) (aCons (dVar 5) aNil))) (aCons (dCall W_u_law_near (aCons (dVar 2) (aCons (dVar 5) (aCons (dVar 6) (aCons (dVar 7) aNil))))) aNil))))) E { K with nx := V_law_11 E K } ρ := id Iff.rfl
@[reducible] def T_law_9 : DS :=
    (sSeq (sSet 12 (dCall W_u_law_turned (aCons (dVar 2) (aCons (dVar 3) aNil))))
    T_law_10)
def V_law_9 : DS := T_law_9
theorem V_law_9_w {E : EK} {K : DE} {ρ : DL.Env} : V_law_9 E K ρ ↔ (sSet 12 (dCall W_u_law_turned (aCons (dVar 2) (aCons (dVar 3) aNil)))) E { K with nx := V_law_10 E K } ρ := id Iff.rfl
@[reducible] def T_law_8 : DS :=
    (sSeq (sAsg (dCall W_u_law_equator (aCons (dVar 2) (aCons (dVar 5) aNil))) (gTup (gCons (gName 9) (gCons (gName 10) (gCons (gName 11) gNil)))))
    T_law_9)
def V_law_8 : DS := T_law_8
theorem V_law_8_w {E : EK} {K : DE} {ρ : DL.Env} : V_law_8 E K ρ ↔ (sAsg (dCall W_u_law_equator (aCons (dVar 2) (aCons (dVar 5) aNil))) (gTup (gCons (gName 9) (gCons (gName 10) (gCons (gName 11) gNil))))) E { K with nx := V_law_9 E K } ρ := id Iff.rfl
@[reducible] def T_law_7 : DS :=
    (sSeq (sSet 8 (dBlt fRepr (aCons (dVar 2) aNil)))
    T_law_8)
def V_law_7 : DS := T_law_7
theorem V_law_7_w {E : EK} {K : DE} {ρ : DL.Env} : V_law_7 E K ρ ↔ (sSet 8 (dBlt fRepr (aCons (dVar 2) aNil))) E { K with nx := V_law_8 E K } ρ := id Iff.rfl
@[reducible] def T_law_6 : DS :=
    (sSeq (sSet 7 (dOp oAdd (dC (.int 1)) (dCall W_u_law_draw (aCons (dVar 1) (aCons (dC (.int 2000000)) aNil)))))
    T_law_7)
def V_law_6 : DS := T_law_6
theorem V_law_6_w {E : EK} {K : DE} {ρ : DL.Env} : V_law_6 E K ρ ↔ (sSet 7 (dOp oAdd (dC (.int 1)) (dCall W_u_law_draw (aCons (dVar 1) (aCons (dC (.int 2000000)) aNil))))) E { K with nx := V_law_7 E K } ρ := id Iff.rfl
@[reducible] def T_law_5 : DS :=
    (sSeq (sSet 6 (dCall W_u_law_pick (aCons (dVar 1) (aCons (dLc (iSeq (dVar 4)) (gName 17) (bT (dOp oNe (dVar 17) (dVar 5))) (dVar 17) [17]) aNil))))
    T_law_6)
def V_law_5 : DS := T_law_5
theorem V_law_5_w {E : EK} {K : DE} {ρ : DL.Env} : V_law_5 E K ρ ↔ (sSet 6 (dCall W_u_law_pick (aCons (dVar 1) (aCons (dLc (iSeq (dVar 4)) (gName 17) (bT (dOp oNe (dVar 17) (dVar 5))) (dVar 17) [17]) aNil)))) E { K with nx := V_law_6 E K } ρ := id Iff.rfl
@[reducible] def T_law_4 : DS :=
    (sSeq (sSet 5 (dCall W_u_law_pick (aCons (dVar 1) (aCons (dVar 4) aNil))))
    T_law_5)
def V_law_4 : DS := T_law_4
theorem V_law_4_w {E : EK} {K : DE} {ρ : DL.Env} : V_law_4 E K ρ ↔ (sSet 5 (dCall W_u_law_pick (aCons (dVar 1) (aCons (dVar 4) aNil)))) E { K with nx := V_law_5 E K } ρ := id Iff.rfl
@[reducible] def T_law_3 : DS :=
    (sSeq (sSet 4 (dBlt fSortedT (aCons (dOp oIx (dVar 2) (dC (.str "bodies"))) aNil)))
    T_law_4)
def V_law_3 : DS := T_law_3
theorem V_law_3_w {E : EK} {K : DE} {ρ : DL.Env} : V_law_3 E K ρ ↔ (sSet 4 (dBlt fSortedT (aCons (dOp oIx (dVar 2) (dC (.str "bodies"))) aNil))) E { K with nx := V_law_4 E K } ρ := id Iff.rfl
@[reducible] def T_law_2 : DS :=
    (sSeq (sSet 3 (dCall W_u_law_place (aCons (dVar 1) aNil)))
    T_law_3)
def V_law_2 : DS := T_law_2
theorem V_law_2_w {E : EK} {K : DE} {ρ : DL.Env} : V_law_2 E K ρ ↔ (sSet 3 (dCall W_u_law_place (aCons (dVar 1) aNil))) E { K with nx := V_law_3 E K } ρ := id Iff.rfl
@[reducible] def T_law_1 : DS :=
    (sSeq (sSet 2 (dCall W_u_law_sky (aCons (dVar 1) (aCons (dOp oAdd (dC (.int 2)) (dCall W_u_law_draw (aCons (dVar 1) (aCons (dC (.int 2)) aNil)))) aNil))))
    T_law_2)
def V_law_1 : DS := T_law_1
theorem V_law_1_w {E : EK} {K : DE} {ρ : DL.Env} : V_law_1 E K ρ ↔ (sSet 2 (dCall W_u_law_sky (aCons (dVar 1) (aCons (dOp oAdd (dC (.int 2)) (dCall W_u_law_draw (aCons (dVar 1) (aCons (dC (.int 2)) aNil)))) aNil)))) E { K with nx := V_law_2 E K } ρ := id Iff.rfl
@[reducible] def T_law_0 : DS :=
    (sSeq (sSet 1 (dCall W_u_law_start (aCons (dVar 0) aNil)))
    T_law_1)
def V_law_0 : DS := T_law_0
theorem V_law_0_w {E : EK} {K : DE} {ρ : DL.Env} : V_law_0 E K ρ ↔ (sSet 1 (dCall W_u_law_start (aCons (dVar 0) aNil))) E { K with nx := V_law_1 E K } ρ := id Iff.rfl
@[reducible] def T_law : DS := T_law_0
def W_law : DF := defT 1 19 T_law
theorem W_law_w {ds : List D} {Q : DK} {E : Err → Prop} : W_law ds Q E ↔ ds.length = 1 ∧ V_law_0 (fun e _ => E e) { nx := fun _ => Q .non, rt := Q } (envOf 19 ds) := id Iff.rfl
end K14

/-! DVcM: rows of DCoreM for simp. -/
namespace DL
open PySem
@[simp] theorem w_mt {T : String} {f : List D → DK → Prop} {p : DT} {q : DA} {E : EK} {ρ : DL.Env} {Q : DK} : dMt T f p q E ρ Q ↔ p E ρ fun x => tyD T x ∧ q E ρ fun xs => f (x :: xs) Q := ⟨fun h => h, fun h => h⟩
@[simp] theorem tyD_s {T : String} {z : Str} : tyD T (.str z) ↔ T = "str" := ⟨fun h => h, fun h => h⟩
@[simp] theorem tyD_l {T : String} {z : List D} : tyD T (.lst z) ↔ T = "list" := ⟨fun h => h, fun h => h⟩
theorem strsOf_map (ys : List Str) : strsOf (ys.map D.str) = some ys := by
  induction ys with
  | nil => rfl
  | cons y ys ih =>
    show (strsOf (ys.map D.str)).map (y :: ·) = _
    rw [ih]
    rfl
theorem fIndex_ints {ns : List Int} {k : Int} {Q : DK} (j : Nat) (h : ns[j]? = some k) (h2 : ∀ m, m < j → ns[m]? ≠ some k) (q : Q (.int (j : Nat))) : fIndex [.lst (ns.map D.int), .int k] Q := by
  refine ⟨rfl, ?_, j, ⟨.int k, by rw [List.getElem?_map, h]; rfl, by simp⟩, fun m z hm hz => ?_, q⟩
  · rw [List.all_map]
    exact List.all_eq_true.mpr fun _ _ => rfl
  · rw [List.getElem?_map] at hz
    obtain ⟨y, hy, rfl⟩ := Option.map_eq_some_iff.mp hz
    have : y ≠ k := fun z => h2 m hm (z ▸ hy)
    simp [this]
@[simp] theorem w_s2 {g : Str → Str → D} {a b : Str} {Q : DK} : fS2 g [.str a, .str b] Q ↔ Q (g a b) := ⟨fun h => h, fun h => h⟩
@[simp] theorem w_s1 {C : Str → Prop} {g : Str → D} {a : Str} {Q : DK} : fS1 C g [.str a] Q ↔ C a ∧ Q (g a) := ⟨fun h => h, fun h => h⟩
@[simp] theorem w_split {a b : Str} {Q : DK} : fSplit [.str a, .str b] Q ↔ (b.length == 0) = false ∧ a.length + 2 ≤ lineMax ∧ Q (.lst ((Txt.split a b).map D.str)) := ⟨fun h => h, fun h => h⟩
@[simp] theorem w_divN {i j : Int} {Q : DK} : oDivN (.int i) (.int j) Q ↔ (j ≠ 0 ∧ j.natAbs.log2 < 9000) ∧ Q (.int (i.fdiv j)) := ⟨fun h => h, fun h => h⟩
@[simp] theorem up_draws {ns : List Int} {c : Int} {Q : DK} {E : Err → Prop} : up wDraws [.scr ns, .int c] Q E ↔ (ns.length ≤ 63 ∧ 0 ≤ c ∧ c ≤ 1000) ∧ Q .st :=
  ⟨fun ⟨_, _, h, a, _⟩ => ⟨h.1, a _ h.2⟩, fun h => ⟨Q, E, h, fun _ z => z, fun _ z => z⟩⟩
@[simp] theorem w_minD {p q : DA} {E : EK} {ρ : DL.Env} {Q : DK} : dMinD p q E ρ Q ↔ p E ρ fun xs => q E ρ fun zs => fMinD xs zs Q := ⟨fun h => h, fun h => h⟩
theorem fMinD_ints {ns : List Int} {d : D} {Q : DK} (h0 : ns = [] → Q d) (h1 : ns ≠ [] → ∀ m ∈ ns, (∀ y ∈ ns, m ≤ y) → Q (.int m)) : fMinD [.lst (ns.map D.int)] [d] Q := by
  simp only [fMinD, intsOf_map]
  exact ⟨h0, h1⟩
@[simp] theorem w_revX {t : DT} {E : EK} {ρ : DL.Env} {Q : DK} : dRev t E ρ Q ↔ t E ρ fun x => gRevX x Q := ⟨fun h => h, fun h => h⟩
@[simp] theorem w_revXL {l : List D} {Q : DK} : gRevX (.lst l) Q ↔ Q (.lst l.reverse) := ⟨fun h => h, fun h => h⟩
@[simp] theorem w_revXT {l : List D} {Q : DK} : gRevX (.tup l) Q ↔ Q (.tup l.reverse) := ⟨fun h => h, fun h => h⟩
@[simp] theorem w_dc {it : DI} {g : DG} {t : DB} {k e : DT} {vs : List Nat} {E : EK} {ρ : DL.Env} {Q : DK} : dDc it g t k e vs E ρ Q ↔ it E ρ fun xs => dcL g t k e (noOwn (wipeE ρ vs)) xs [] fun r => Q (.dk r) := ⟨fun h => h, fun h => h⟩
@[simp] theorem w_mulS {a : Str} {k : Int} {Q : DK} : oMulS (.str a) (.int k) Q ↔ (-1000 ≤ k ∧ k ≤ 10000 ∧ a.length ≤ 1000) ∧ Q (.str (repS a k)) := ⟨fun h => h, fun h => h⟩
@[simp] theorem w_fmt {p : DT} {E : EK} {ρ : DL.Env} {Q : DK} : dFmt p E ρ Q ↔ p E ρ fun x => gFmt x Q := ⟨fun h => h, fun h => h⟩
@[simp] theorem w_fmtS {y : Str} {Q : DK} : gFmt (.str y) Q ↔ y.length ≤ lineMax ∧ Q (.str y) := ⟨fun h => h, fun h => h⟩
@[simp] theorem w_fmtI {i : Int} {Q : DK} : gFmt (.int i) Q ↔ i.natAbs.log2 < 1920 ∧ Q (.str (toString i)) := ⟨fun h => h, fun h => h⟩
@[simp] theorem w_fmt2 {p : DT} {E : EK} {ρ : DL.Env} {Q : DK} : dFmt2 p E ρ Q ↔ p E ρ fun x => gFmt2 x Q := ⟨fun h => h, fun h => h⟩
@[simp] theorem w_fmt2I {i : Int} {Q : DK} : gFmt2 (.int i) Q ↔ (0 ≤ i ∧ i < 100) ∧ Q (.str (two i)) := ⟨fun h => h, fun h => h⟩
@[simp] theorem w_gStr {y : Str} {Q : Str → Prop} : gStr (.str y) Q ↔ Q y := ⟨fun h => h, fun h => h⟩
@[simp] theorem w_joinF {ts : List DT} {E : EK} {ρ : DL.Env} {Q : DK} : dJoin ts E ρ Q ↔ dJs ts Str.empty E ρ fun y => Q (.str y) := ⟨fun h => h, fun h => h⟩
@[simp] theorem w_jsN {acc : Str} {E : EK} {ρ : DL.Env} {Q : Str → Prop} : dJs [] acc E ρ Q ↔ Q acc := ⟨fun h => h, fun h => h⟩
@[simp] theorem w_jsC {t : DT} {ts : List DT} {acc : Str} {E : EK} {ρ : DL.Env} {Q : Str → Prop} : dJs (t :: ts) acc E ρ Q ↔ t E ρ fun x => gStr x fun y => (acc ++ y).length ≤ lineMax ∧ dJs ts (acc ++ y) E ρ Q := ⟨fun h => h, fun h => h⟩
theorem w_join {a : Str} {ys : List Str} {Q : DK} : fJoin [.str a, .lst (ys.map D.str)] Q ↔ (ys.map (·.length)).sum + ys.length * a.length ≤ 16777216 ∧ Q (.str (Txt.join a ys)) := by
  simp only [fJoin, strsOf_map]
@[simp] theorem w_forQ {i : Nat} {js : List Nat} {g : DG} {c : DB} {r : DT} {E : EK} {K : DE} {ρ : DL.Env} : sForQ i js g c r E K ρ ↔ gOL ρ[i]? fun xs => i ∉ js ∧ forQ g c r K (bor (fgt js ρ)) (K.nx (fgt js ρ)) xs := ⟨fun h => h, fun h => h⟩
/-- each one's test, one after the other -/
theorem forQ_list {α : Type} (en : α → D) {g : DG} {c : DB} {r : DT} {K : DE} {ρ : DL.Env} {N : Prop} : ∀ {xs : List α} (_ : ∀ x ∈ xs, ∀ nx : Prop, nx → g (en x) ρ fun ρ' => c noE ρ' fun k => if k = true then r noE ρ' (fun d => isFlat d = true ∧ K.rt d) else nx) (_ : N), forQ g c r K ρ N (xs.map en)
  | [], _, n => n
  | x :: xs, h, n => h x List.mem_cons_self _ (forQ_list en (fun y hy => h y (List.mem_cons_of_mem _ hy)) n)
@[simp] theorem w_kget2 {kvs : List (Str × Str)} {k z : DT} {E : EK} {ρ : DL.Env} {Q : DK} : dKGet2 kvs k z E ρ Q ↔ k E ρ fun x => z E ρ fun y => kgetD kvs x y Q := ⟨fun h => h, fun h => h⟩
theorem w_kgetS {kvs : List (Str × Str)} {k : Str} {z : D} {Q : DK} : kgetD kvs (.str k) z Q ↔ Q (((kvs.lookup k).map D.str).getD z) := by
  show Q _ ↔ Q _
  cases e : kvs.lookup k with
  | none => exact Iff.rfl
  | some v => exact Iff.rfl
@[simp] theorem w_izipT {a : DA} {E : EK} {ρ : DL.Env} {Q : List D → Prop} : iZipT a E ρ Q ↔ a E ρ fun xs => gZipT xs Q := ⟨fun h => h, fun h => h⟩
@[simp] theorem w_gzipT {l : List D} {z : Str} {Q : List D → Prop} : gZipT [.tup l, .str z] Q ↔ z.cps.all (· < 128) = true ∧ Q (zipD l (z.cps.toList.map fun c => .str ⟨#[c]⟩)) := ⟨fun h => h, fun h => h⟩
theorem w_lenStr {z : Str} {Q : DK} : fLen [.str z] Q ↔ z.length ≤ lineMax ∧ Q (.int z.length) := ⟨fun h => h, fun h => h⟩
theorem w_ixStr {z : Str} {i : Int} {Q : DK} : oIx (.str z) (.int i) Q ↔ z.length ≤ lineMax ∧ oGet ((atI z.cps.toList i).map fun c => .str ⟨#[c]⟩) Q := ⟨fun h => h, fun h => h⟩
theorem w_cutStr {z : Str} {lo hi : Option Int} {Q : DK} : oCut (.str z) lo hi Q ↔ z.length ≤ lineMax ∧ Q (.str ⟨(cutL z.cps.toList lo hi).toArray⟩) := ⟨fun h => h, fun h => h⟩
@[simp] theorem w_star {a : DT} {r : DA} {E : EK} {ρ : DL.Env} {Q : List D → Prop} : aStar a r E ρ Q ↔ a E ρ fun x => gStar x fun xs => r E ρ fun ys => Q (xs ++ ys) := ⟨fun h => h, fun h => h⟩
@[simp] theorem gStar_l {xs : List D} {Q : List D → Prop} : gStar (.lst xs) Q ↔ Q xs := ⟨fun h => h, fun h => h⟩
@[simp] theorem gStar_t {xs : List D} {Q : List D → Prop} : gStar (.tup xs) Q ↔ Q xs := ⟨fun h => h, fun h => h⟩
@[simp] theorem w_tryE {m : String} {os : List String} {i : Nat} {R : Err → DK → Prop} {b : DS} {E : EK} {K : DE} {ρ : DL.Env} : sTryE m os i R b E K ρ ↔ b (fun e ρ' => if e.cls = m then i < ρ'.length ∧ R e K.rt else e.cls ∈ os ∧ E e ρ') K ρ := ⟨fun h => h, fun h => h⟩
@[simp] theorem w_xFld {f : Str} {e : Err} {Q : DK} : xFld f e Q ↔ oGet (e.fs.lookup f) Q := ⟨fun h => h, fun h => h⟩
@[simp] theorem w_xC {d : D} {e : Err} {Q : DK} : xC d e Q ↔ Q d := ⟨fun h => h, fun h => h⟩
@[simp] theorem w_xNil {e : Err} {Q : List D → Prop} : xNil e Q ↔ Q [] := ⟨fun h => h, fun h => h⟩
@[simp] theorem w_xCons {a : Err → DK → Prop} {r : Err → (List D → Prop) → Prop} {e : Err} {Q : List D → Prop} : xCons a r e Q ↔ a e fun x => r e fun xs => Q (x :: xs) := ⟨fun h => h, fun h => h⟩
@[simp] theorem w_xTup {a : Err → (List D → Prop) → Prop} {e : Err} {Q : DK} : xTup a e Q ↔ a e fun xs => xs.length ≤ lineMax ∧ Q (.tup xs) := ⟨fun h => h, fun h => h⟩
end DL

/-! DWave: the arch and the wave, in plain numbers. -/
namespace DL
open PySem
/-! ### the arch, exactly -/
def N (u : Int) : Int := u * (314928000000 - u * u)
def A (u : Int) : Int := 1000000 * u * (314928000000 - u * u) / 68024448000000000
theorem A_eq (u : Int) : A u = 1000000 * N u / 68024448000000000 := by
  unfold A N
  rw [Int.mul_assoc]
theorem N_step (u : Int) : N (u + 1) - N u = 314928000000 - (3 * (u * u) + 3 * u + 1) := by
  unfold N
  grind
theorem sq_le {u b : Int} (h0 : 0 ≤ u) (h : u ≤ b) : u * u ≤ b * b := Int.mul_le_mul h h h0 (Int.le_trans h0 h)
theorem sq_nn {u : Int} : 0 ≤ u * u := by
  rcases Int.le_total 0 u with h | h
  · exact Int.mul_nonneg h h
  · exact Int.mul_nonneg_of_nonpos_of_nonpos h h
theorem N_up {u : Int} (h0 : 0 ≤ u) (h : u < 324000) : 0 ≤ N (u + 1) - N u ∧ N (u + 1) - N u ≤ 314928000000 := by
  rw [N_step]
  have h1 := sq_le h0 (show u ≤ 323999 by omega)
  have h2 : 0 ≤ u * u := sq_nn
  omega
theorem N_top {u : Int} (h0 : 0 ≤ u) (h : u ≤ 324000) : 0 ≤ N u ∧ N u ≤ 68024448000000000 := by
  have h1 := sq_le h0 h
  have h2 : 0 ≤ N u := Int.mul_nonneg h0 (by omega)
  have h3 : 0 ≤ (324000 - u) * (324000 - u) * (648000 + u) := Int.mul_nonneg (Int.mul_nonneg (by omega) (by omega)) (by omega)
  have h4 : (324000 - u) * (324000 - u) * (648000 + u) = 68024448000000000 - N u := by
    unfold N
    grind
  omega
/-! ### the wave -/
def M (x : Int) : Int := if x % 1296000 < 324000 then N (x % 1296000) else if x % 1296000 < 648000 then N (648000 - x % 1296000) else if x % 1296000 < 972000 then -N (x % 1296000 - 648000) else -N (1296000 - x % 1296000)
def Wv (x : Int) : Int := if x % 1296000 < 324000 then A (x % 1296000) else if x % 1296000 < 648000 then A (648000 - x % 1296000) else if x % 1296000 < 972000 then -A (x % 1296000 - 648000) else -A (1296000 - x % 1296000)
theorem N0 : N 0 = 0 := rfl
theorem A0 : A 0 = 0 := rfl
theorem M_step (x : Int) : M (x + 1) - M x ≤ 314928000000 ∧ M x - M (x + 1) ≤ 314928000000 := by
  have hr : 0 ≤ x % 1296000 ∧ x % 1296000 < 1296000 := by omega
  by_cases hw : x % 1296000 = 1295999
  · have e1 : (x + 1) % 1296000 = 0 := by omega
    have := N_up (u := 0) (by omega) (by omega)
    simp [M, e1, hw, N0] at this ⊢
    omega
  · have e1 : (x + 1) % 1296000 = x % 1296000 + 1 := by omega
    unfold M
    rw [e1]
    generalize x % 1296000 = r at *
    by_cases c1 : r < 324000
    · have := N_up (u := r) (by omega) (by omega)
      by_cases c2 : r + 1 < 324000
      · simp [c1, c2]; omega
      · have e : r = 323999 := by omega
        subst e
        simp at this ⊢
        omega
    · by_cases c2 : r < 648000
      · have := N_up (u := 648000 - (r + 1)) (by omega) (by omega)
        rw [show 648000 - (r + 1) + 1 = 648000 - r by omega] at this
        by_cases c3 : r + 1 < 648000
        · simp [c1, c2, c3, show ¬ r + 1 < 324000 by omega]; omega
        · have e : r = 647999 := by omega
          subst e
          simp [N0] at this ⊢
          omega
      · by_cases c3 : r < 972000
        · have := N_up (u := r - 648000) (by omega) (by omega)
          rw [show r - 648000 + 1 = r + 1 - 648000 by omega] at this
          by_cases c4 : r + 1 < 972000
          · simp [c1, c2, c3, c4, show ¬ r + 1 < 324000 by omega, show ¬ r + 1 < 648000 by omega]; omega
          · have e : r = 971999 := by omega
            subst e
            simp at this ⊢
            omega
        · have := N_up (u := 1296000 - (r + 1)) (by omega) (by omega)
          rw [show 1296000 - (r + 1) + 1 = 1296000 - r by omega] at this
          simp [c1, c2, c3, show ¬ r + 1 < 324000 by omega, show ¬ r + 1 < 648000 by omega, show ¬ r + 1 < 972000 by omega]
          omega
theorem M_lip (x : Int) : ∀ n : Nat, M (x + n) - M x ≤ 314928000000 * n ∧ M x - M (x + n) ≤ 314928000000 * n
  | 0 => by simp
  | n + 1 => by
    have h := M_lip x n
    have h2 := M_step (x + n)
    rw [show x + ((n + 1 : Nat) : Int) = x + n + 1 by omega]
    omega
theorem M_dist (x y : Int) : M y - M x ≤ 314928000000 * (if x - y < 0 then -(x - y) else x - y) ∧ M x - M y ≤ 314928000000 * (if x - y < 0 then -(x - y) else x - y) := by
  by_cases h : x - y < 0
  · have := M_lip x (y - x).toNat
    rw [show x + ((y - x).toNat : Int) = y by omega] at this
    rw [if_pos h]
    omega
  · have := M_lip y (x - y).toNat
    rw [show y + ((x - y).toNat : Int) = x by omega] at this
    rw [if_neg h]
    omega
/-- how the wave lies about the exact number -/
theorem Wv_M (x : Int) : (x % 1296000 < 648000 ∧ 0 ≤ M x ∧ Wv x = 1000000 * M x / 68024448000000000) ∨ (¬ x % 1296000 < 648000 ∧ 0 ≤ -M x ∧ Wv x = -(1000000 * (-M x) / 68024448000000000)) := by
  have hr : 0 ≤ x % 1296000 ∧ x % 1296000 < 1296000 := by omega
  unfold M Wv
  generalize x % 1296000 = r at *
  by_cases c1 : r < 324000
  · have := N_top (u := r) (by omega) (by omega)
    left
    simp [c1, A_eq, this]
    omega
  · by_cases c2 : r < 648000
    · have := N_top (u := 648000 - r) (by omega) (by omega)
      left
      simp [c1, c2, A_eq, this]
    · by_cases c3 : r < 972000
      · have := N_top (u := r - 648000) (by omega) (by omega)
        right
        simp [c1, c2, c3, A_eq, this]
      · have := N_top (u := 1296000 - r) (by omega) (by omega)
        right
        simp [c1, c2, c3, A_eq, this]
def ab (i : Int) : Int := if i < 0 then -i else i
theorem lip (x y : Int) : ab (Wv x - Wv y) ≤ 125 * ab (x - y) / 27 + 1 := by
  have h := M_dist x y
  have e : ab (x - y) = (if x - y < 0 then -(x - y) else x - y) := rfl
  rw [← e] at h
  have hd : 0 ≤ ab (x - y) := by unfold ab; split <;> omega
  generalize ab (x - y) = d at *
  have go : Wv x - Wv y ≤ 125 * d / 27 + 1 ∧ Wv y - Wv x ≤ 125 * d / 27 + 1 := by
    rcases Wv_M x with ⟨_, a1, a2⟩ | ⟨_, a1, a2⟩ <;> rcases Wv_M y with ⟨_, b1, b2⟩ | ⟨_, b1, b2⟩ <;> rw [a2, b2] <;> omega
  unfold ab
  split <;> omega
theorem A_top {u : Int} (h0 : 0 ≤ u) (h : u ≤ 324000) : 0 ≤ A u ∧ A u ≤ 1000000 := by
  have := N_top h0 h
  rw [A_eq]
  omega
theorem Wv_top (x : Int) : ab (Wv x) ≤ 1000000 := by
  have hr : 0 ≤ x % 1296000 ∧ x % 1296000 < 1296000 := by omega
  unfold Wv
  generalize x % 1296000 = r at *
  unfold ab
  by_cases c1 : r < 324000
  · have := A_top (u := r) (by omega) (by omega)
    simp [c1]; split <;> omega
  · by_cases c2 : r < 648000
    · have := A_top (u := 648000 - r) (by omega) (by omega)
      simp [c1, c2]; split <;> omega
    · by_cases c3 : r < 972000
      · have := A_top (u := r - 648000) (by omega) (by omega)
        simp [c1, c2, c3]; split <;> omega
      · have := A_top (u := 1296000 - r) (by omega) (by omega)
        simp [c1, c2, c3]; split <;> omega
theorem Wv_turn (x : Int) : Wv (x + 1296000) = Wv x := by
  unfold Wv
  rw [show (x + 1296000) % 1296000 = x % 1296000 by omega]
theorem Wv_half (x : Int) : Wv (x + 648000) = -Wv x := by
  unfold Wv
  by_cases h : x % 1296000 < 648000
  · rw [show (x + 648000) % 1296000 = x % 1296000 + 648000 by omega]
    have hr : 0 ≤ x % 1296000 := by omega
    generalize x % 1296000 = r at *
    by_cases c1 : r < 324000
    · simp [c1, show ¬ r + 648000 < 324000 by omega, show ¬ r + 648000 < 648000 by omega, show r + 648000 < 972000 by omega]
    · simp [c1, h, show ¬ r + 648000 < 324000 by omega, show ¬ r + 648000 < 648000 by omega, show ¬ r + 648000 < 972000 by omega, show 1296000 - (r + 648000) = 648000 - r by omega]
  · rw [show (x + 648000) % 1296000 = x % 1296000 - 648000 by omega]
    have hr : x % 1296000 < 1296000 := by omega
    generalize x % 1296000 = r at *
    by_cases c1 : r < 972000
    · simp [c1, show ¬ r < 324000 by omega, show ¬ r < 648000 by omega, show r - 648000 < 324000 by omega]
    · simp [c1, show ¬ r < 324000 by omega, show ¬ r < 648000 by omega, show ¬ r - 648000 < 324000 by omega, show r - 648000 < 648000 by omega, show 648000 - (r - 648000) = 1296000 - r by omega]
theorem Wv_neg (x : Int) : Wv (-x) = -Wv x := by
  by_cases h : x % 1296000 = 0
  · unfold Wv
    rw [h, show (-x) % 1296000 = 0 by omega]
    simp [A0]
  · unfold Wv
    rw [show (-x) % 1296000 = 1296000 - x % 1296000 by omega]
    have hr : 0 ≤ x % 1296000 ∧ x % 1296000 < 1296000 := by omega
    generalize x % 1296000 = r at *
    by_cases c1 : r < 324000
    · simp [c1, show ¬ 1296000 - r < 324000 by omega, show ¬ 1296000 - r < 648000 by omega, show ¬ 1296000 - r < 972000 by omega, show 1296000 - (1296000 - r) = r by omega]
    · by_cases c2 : r < 648000
      · by_cases c5 : r = 324000
        · subst c5
          simp
        · simp [c1, c2, show ¬ 1296000 - r < 324000 by omega, show ¬ 1296000 - r < 648000 by omega, show 1296000 - r < 972000 by omega, show 1296000 - r - 648000 = 648000 - r by omega]
      · by_cases c3 : r < 972000
        · by_cases c5 : r = 648000
          · subst c5
            simp [A0]
          · simp [c1, c2, c3, show ¬ 1296000 - r < 324000 by omega, show 1296000 - r < 648000 by omega, show 648000 - (1296000 - r) = r - 648000 by omega]
        · by_cases c5 : r = 972000
          · subst c5
            simp
          · simp [c1, c2, c3, show 1296000 - r < 324000 by omega]
/-! ### the defs -/
theorem mul_ok {i j : Int} (h1 : -1000000000000000000000 ≤ i) (h2 : i ≤ 1000000000000000000000) (h3 : -1000000000000000000000 ≤ j) (h4 : j ≤ 1000000000000000000000) : mulOk i j := by
  have go : ∀ i : Int, -1000000000000000000000 ≤ i → i ≤ 1000000000000000000000 → i.natAbs.log2 < 100 := fun i a b => by
    by_cases z : i.natAbs = 0
    · rw [z]; decide
    · exact (Nat.log2_lt z).mpr (by omega)
  have a := go i h1 h2
  have b := go j h3 h4
  unfold mulOk
  omega
theorem div_ok {j : Int} (h1 : 0 < j) (h2 : j ≤ 1000000000000000000000) : divOk j := ⟨h1, by
  have : j.natAbs.log2 < 100 := (Nat.log2_lt (by omega)).mpr (by omega)
  omega⟩
end DL

/-! DExpr: expressions of quantities and angles, their values, sizes. -/
namespace DL
open PySem
mutual
inductive AE where
  | turning (s n d : Int)
  | moved (a : AE) (q : QE)
  | minus (a b : AE)
inductive QE where
  | number (n : Int)
  | wave (a : AE)
  | sum (qs : List QE)
  | share (q : QE) (n d : Int)
  | product (p q : QE) (d : Int)
  | later (q : QE) (k : Int)
end
mutual
def encA : AE → D
  | .turning s n d => .tup [.str "turning", .int s, .int n, .int d]
  | .moved a q => .tup [.str "moved", encA a, encQ q]
  | .minus a b => .tup [.str "minus", encA a, encA b]
def encQ : QE → D
  | .number n => .tup [.str "number", .int n]
  | .wave a => .tup [.str "wave", encA a]
  | .sum qs => .tup (.str "sum" :: encS qs)
  | .share q n d => .tup [.str "share", encQ q, .int n, .int d]
  | .product p q d => .tup [.str "product", encQ p, encQ q, .int d]
  | .later q k => .tup [.str "later", encQ q, .int k]
def encS : List QE → List D
  | [] => []
  | q :: r => encQ q :: encS r
end
mutual
def ang : AE → Int → Int
  | .turning s n d, t => s + n * t / d
  | .moved a q, t => ang a t + val q t
  | .minus a b, t => ang a t - ang b t
def val : QE → Int → Int
  | .number n, _ => n
  | .wave a, t => Wv (ang a t)
  | .sum qs, t => (vals qs t).sum
  | .share q n d, t => val q t * n / d
  | .product p q d, t => val p t * val q t / d
  | .later q k, t => val q (t + k)
def vals : List QE → Int → List Int
  | [], _ => []
  | q :: r, t => val q t :: vals r t
end
mutual
/-- bits that a value has at most -/
def bA : AE → Nat
  | .turning _ _ _ => 200
  | .moved a q => bA a + bQ q + 1
  | .minus a b => bA a + bA b + 1
def bQ : QE → Nat
  | .number _ => 64
  | .wave a => bA a + 20
  | .sum qs => bS qs
  | .share q _ _ => bQ q + 64
  | .product p q _ => bQ p + bQ q
  | .later q _ => bQ q
def bS : List QE → Nat
  | [] => 1
  | q :: r => bQ q + bS r + 1
end
mutual
def dA : AE → Nat
  | .turning _ _ _ => 1
  | .moved a q => max (dA a) (dQ q) + 1
  | .minus a b => max (dA a) (dA b) + 1
def dQ : QE → Nat
  | .number _ => 1
  | .wave a => dA a + 1
  | .sum qs => dS qs + 1
  | .share q _ _ => dQ q + 1
  | .product p q _ => max (dQ p) (dQ q) + 1
  | .later q _ => dQ q + 1
def dS : List QE → Nat
  | [] => 0
  | q :: r => max (dQ q) (dS r)
end
def sm (i : Int) : Prop := -10000000000000 ≤ i ∧ i ≤ 10000000000000
mutual
def okA : AE → Prop
  | .turning s n d => sm s ∧ sm n ∧ 0 < d ∧ sm d
  | .moved a q => okA a ∧ okQ q
  | .minus a b => okA a ∧ okA b
def okQ : QE → Prop
  | .number n => sm n
  | .wave a => okA a
  | .sum qs => okS qs ∧ qs.length ≤ 1000
  | .share q n d => okQ q ∧ sm n ∧ 0 < d ∧ sm d
  | .product p q d => okQ p ∧ okQ q ∧ 0 < d ∧ sm d
  | .later q k => okQ q ∧ -10000000000000 ≤ k ∧ k ≤ 10000000000000
def okS : List QE → Prop
  | [] => True
  | q :: r => okQ q ∧ okS r
end
/-- a tick with room for n moves -/
def tOk (n : Nat) (t : Int) : Prop := -(1000000000000000000 - 10000000000000 * (n : Int)) ≤ t ∧ t ≤ 1000000000000000000 - 10000000000000 * (n : Int)
theorem encS_get : ∀ {qs : List QE} {i : Nat} {x : D}, (encS qs)[i]? = some x → ∃ q, qs[i]? = some q ∧ x = encQ q
  | [], i, x, h => by simp [encS] at h
  | q :: r, 0, x, h => by simp [encS] at h; exact ⟨q, rfl, h.symm⟩
  | q :: r, i + 1, x, h => by
    simp [encS] at h
    obtain ⟨q', h1, h2⟩ := encS_get h
    exact ⟨q', by simpa using h1, h2⟩
theorem encS_len : ∀ {qs : List QE}, (encS qs).length = qs.length
  | [] => rfl
  | q :: r => by simp [encS, encS_len (qs := r)]
theorem vals_len : ∀ {qs : List QE} {t : Int}, (vals qs t).length = qs.length
  | [], _ => rfl
  | q :: r, t => by simp [vals, vals_len (qs := r)]
theorem vals_get : ∀ {qs : List QE} {i : Nat} {q : QE} {t : Int}, qs[i]? = some q → (vals qs t)[i]? = some (val q t)
  | [], i, x, t, h => by simp at h
  | q :: r, 0, x, t, h => by simp at h; simp [vals, h]
  | q :: r, i + 1, x, t, h => by
    simp at h
    simpa [vals] using vals_get h
theorem okS_get : ∀ {qs : List QE} {i : Nat} {q : QE}, qs[i]? = some q → okS qs → okQ q
  | [], i, x, h, _ => by simp at h
  | q :: r, 0, x, h, k => by simp at h; rw [← h]; simp only [okS] at k; exact k.1
  | q :: r, i + 1, x, h, k => by
    simp at h
    simp only [okS] at k
    exact okS_get h k.2
theorem dS_get : ∀ {qs : List QE} {i : Nat} {q : QE}, qs[i]? = some q → dQ q ≤ dS qs
  | [], i, x, h => by simp at h
  | q :: r, 0, x, h => by simp at h; rw [← h]; simp only [dS]; omega
  | q :: r, i + 1, x, h => by
    simp at h
    have := dS_get h
    simp only [dS]
    omega
theorem bS_get : ∀ {qs : List QE} {i : Nat} {q : QE}, qs[i]? = some q → bQ q ≤ bS qs
  | [], i, x, h => by simp at h
  | q :: r, 0, x, h => by simp at h; rw [← h]; simp only [bS]; omega
  | q :: r, i + 1, x, h => by
    simp at h
    have := bS_get h
    simp only [bS]
    omega
theorem tOk_mono {n m : Nat} {t : Int} (h : tOk n t) (hm : m ≤ n) : tOk m t := by
  unfold tOk at *
  omega
/-! sizes -/
def lt2 (x b : Nat) : Prop := x < 2 ^ b
theorem lt2_add {a b c : Nat} {x y : Nat} (hx : lt2 x a) (hy : lt2 y b) (hc : a + b + 1 ≤ c) : lt2 (x + y) c := by
  unfold lt2 at *
  have h1 : 2 ^ a ≤ 2 ^ (a + b) := Nat.pow_le_pow_right (by omega) (by omega)
  have h2 : 2 ^ b ≤ 2 ^ (a + b) := Nat.pow_le_pow_right (by omega) (by omega)
  have h3 : 2 ^ (a + b + 1) ≤ 2 ^ c := Nat.pow_le_pow_right (by omega) hc
  have h4 : 2 ^ (a + b + 1) = 2 * 2 ^ (a + b) := by rw [Nat.pow_succ]; omega
  omega
theorem lt2_mul {a b : Nat} {x y : Nat} (hx : lt2 x a) (hy : lt2 y b) : lt2 (x * y) (a + b) := by
  unfold lt2 at *
  rw [Nat.pow_add]
  exact Nat.mul_lt_mul'' hx hy
theorem lt2_le {x y b : Nat} (h : x ≤ y) (hy : lt2 y b) : lt2 x b := Nat.lt_of_le_of_lt h hy
theorem lt2_mono {x a b : Nat} (h : lt2 x a) (hab : a ≤ b) : lt2 x b := Nat.lt_of_lt_of_le h (Nat.pow_le_pow_right (by omega) hab)
theorem ediv_abs (x d : Int) : (x / d).natAbs ≤ x.natAbs := Int.natAbs_ediv_le_natAbs x d
theorem sm_abs {i : Int} (h : sm i) : lt2 i.natAbs 64 := by
  unfold sm at h
  show i.natAbs < 2 ^ 64
  omega
theorem Wv_abs (x : Int) : lt2 (Wv x).natAbs 20 := by
  have := Wv_top x
  unfold ab at this
  show (Wv x).natAbs < 2 ^ 20
  split at this <;> omega
theorem t_abs {n : Nat} {t : Int} (h : tOk n t) : lt2 t.natAbs 64 := by
  unfold tOk at h
  show t.natAbs < 2 ^ 64
  omega
theorem lt2_divmul {x n d : Int} {a b : Nat} (hx : lt2 x.natAbs a) (hn : lt2 n.natAbs b) : lt2 (x * n / d).natAbs (a + b) := by
  refine lt2_le (ediv_abs _ _) ?_
  rw [Int.natAbs_mul]
  exact lt2_mul hx hn
theorem turn_abs {s n t d : Int} (h1 : lt2 s.natAbs 64) (h2 : lt2 n.natAbs 64) (h3 : lt2 t.natAbs 64) : lt2 (s + n * t / d).natAbs 200 :=
  lt2_mono (lt2_le (Int.natAbs_add_le _ _) (lt2_add (c := 193) h1 (lt2_divmul h2 h3) (by decide))) (by decide)
theorem abs_all : ∀ n : Nat, (∀ (a : AE) (t : Int), dA a ≤ n → okA a → tOk (dA a) t → lt2 (ang a t).natAbs (bA a)) ∧ (∀ (q : QE) (t : Int), dQ q ≤ n → okQ q → tOk (dQ q) t → lt2 (val q t).natAbs (bQ q)) := by
  intro n
  induction n with
  | zero =>
    refine ⟨fun a t h => ?_, fun q t h => ?_⟩
    · cases a <;> simp only [dA] at h <;> omega
    · cases q <;> simp only [dQ] at h <;> omega
  | succ n ih =>
    obtain ⟨ia, iq⟩ := ih
    have is : ∀ (qs : List QE) (t : Int), dS qs ≤ n → okS qs → tOk (dS qs) t → lt2 ((vals qs t).sum).natAbs (bS qs) := by
      intro qs
      induction qs with
      | nil =>
        intro t _ _ _
        simp only [vals, bS]
        show (0 : Nat) < 2 ^ 1
        decide
      | cons q r ir =>
        intro t hd h ht
        simp only [okS, vals, bS, dS, List.sum_cons] at *
        exact lt2_le (Int.natAbs_add_le _ _) (lt2_add (iq q t (by omega) h.1 (tOk_mono ht (by omega))) (ir t (by omega) h.2 (tOk_mono ht (by omega))) (Nat.le_refl _))
    refine ⟨fun a t hd h ht => ?_, fun q t hd h ht => ?_⟩
    · cases a with
      | turning s n d =>
        simp only [okA] at h
        simp only [ang, bA]
        exact turn_abs (sm_abs h.1) (sm_abs h.2.1) (t_abs ht)
      | moved a q =>
        simp only [okA, ang, bA, dA] at *
        exact lt2_le (Int.natAbs_add_le _ _) (lt2_add (ia a t (by omega) h.1 (tOk_mono ht (by omega))) (iq q t (by omega) h.2 (tOk_mono ht (by omega))) (Nat.le_refl _))
      | minus a b =>
        simp only [okA, ang, bA, dA] at *
        exact lt2_le (Int.natAbs_sub_le _ _) (lt2_add (ia a t (by omega) h.1 (tOk_mono ht (by omega))) (ia b t (by omega) h.2 (tOk_mono ht (by omega))) (Nat.le_refl _))
    · cases q with
      | number n =>
        simp only [okQ, val, bQ] at *
        exact sm_abs h
      | wave a =>
        simp only [okQ, val, bQ] at *
        exact lt2_mono (Wv_abs _) (by omega)
      | sum qs =>
        simp only [okQ, val, bQ, dQ] at *
        exact is qs t (by omega) h.1 (tOk_mono ht (by omega))
      | share q n d =>
        simp only [okQ, val, bQ, dQ] at *
        exact lt2_divmul (iq q t (by omega) h.1 (tOk_mono ht (by omega))) (sm_abs h.2.1)
      | product p q d =>
        simp only [okQ, val, bQ, dQ] at *
        exact lt2_divmul (iq p t (by omega) h.1 (tOk_mono ht (by omega))) (iq q t (by omega) h.2.1 (tOk_mono ht (by omega)))
      | later q k =>
        simp only [okQ, val, bQ, dQ] at *
        exact iq q (t + k) (by omega) h.1 (by unfold tOk at *; omega)
theorem ang_abs (a : AE) (t : Int) (h : okA a) (ht : tOk (dA a) t) : lt2 (ang a t).natAbs (bA a) := (abs_all (dA a)).1 a t (Nat.le_refl _) h ht
theorem val_abs (q : QE) (t : Int) (h : okQ q) (ht : tOk (dQ q) t) : lt2 (val q t).natAbs (bQ q) := (abs_all (dQ q)).2 q t (Nat.le_refl _) h ht
theorem log_pow {x b : Nat} (h : lt2 x b) : x.log2 ≤ b := by
  by_cases z : x = 0
  · rw [z]; exact Nat.zero_le _
  · exact Nat.le_of_lt ((Nat.log2_lt z).mpr h)
theorem mulOk_of {i j : Int} {a b : Nat} (hi : lt2 i.natAbs a) (hj : lt2 j.natAbs b) (h : a + b < 1000000) : mulOk i j := by
  have h1 := log_pow hi
  have h2 := log_pow hj
  unfold mulOk
  omega
theorem divOk_sm {d : Int} (h0 : 0 < d) (h : sm d) : divOk d := div_ok h0 (by unfold sm at h; omega)
theorem sp_vals {g : DG} {e : DT} {ρ : DL.Env} {qs : List QE} {t : Int} {Q : DK} (hl : qs.length ≤ 1000) (h : ∀ q ∈ qs, ∀ (A : DK), A (.int (val q t)) → g (encQ q) ρ fun ρ' => e noE ρ' A) (q : Q (.int (vals qs t).sum)) : lcL g bYes e ρ (encS qs) [] fun r => fSum [.lst r] Q := by
  refine lcL_inv (fun i acc => acc = ((vals qs t).take i).map .int) rfl ?_ (by rw [encS_len]; simp; omega) ?_
  · rintro i x acc A R hx rfl hA _
    obtain ⟨q, hq, rfl⟩ := encS_get hx
    simp
    refine h q (List.mem_of_getElem? hq) A (hA _ ?_)
    rw [List.take_add_one, vals_get hq]
    simp
  · rintro r rfl
    rw [encS_len, ← vals_len (t := t), List.take_length]
    exact fSum_ints q
theorem mem_dS {qs : List QE} {q : QE} (h : q ∈ qs) : dQ q ≤ dS qs ∧ bQ q ≤ bS qs ∧ (okS qs → okQ q) := by
  obtain ⟨i, hi, e⟩ := List.mem_iff_getElem.mp h
  have e' : qs[i]? = some q := by rw [List.getElem?_eq_getElem hi, e]
  exact ⟨dS_get e', bS_get e', okS_get e'⟩
theorem bS_le {c : Nat} : ∀ {qs : List QE}, (∀ q ∈ qs, bQ q ≤ c) → bS qs ≤ qs.length * (c + 1) + 1
  | [], _ => by simp [bS]
  | q :: r, h => by
    have h1 := h q (by simp)
    have h2 := bS_le (qs := r) fun q hq => h q (by simp [hq])
    simp only [bS, List.length_cons, Nat.add_mul]
    omega
theorem dS_le {c : Nat} : ∀ {qs : List QE}, (∀ q ∈ qs, dQ q ≤ c) → dS qs ≤ c
  | [], _ => by simp [dS]
  | q :: r, h => by
    have h1 := h q (by simp)
    have h2 := dS_le (qs := r) fun q hq => h q (by simp [hq])
    simp only [dS]
    omega
theorem okS_of : ∀ {qs : List QE}, (∀ q ∈ qs, okQ q) → okS qs
  | [], _ => by simp [okS]
  | q :: r, h => by
    simp only [okS]
    exact ⟨h q (by simp), okS_of fun q hq => h q (by simp [hq])⟩
theorem encS_app : ∀ {qs : List QE} {q : QE}, encS (qs ++ [q]) = encS qs ++ [encQ q]
  | [], q => by simp [encS]
  | p :: r, q => by simp [encS, encS_app (qs := r)]
end DL

/-! DReprV: how long what repr gives is, and that its signs are signs. -/
namespace DL
open PySem
def vsT (x : Str) (n : Nat) : Prop := x.length ≤ n ∧ x.cps.all (· < 0x110000) = true
theorem vsT.app {a b : Str} {n m : Nat} (h : vsT a n) (g : vsT b m) : vsT (a ++ b) (n + m) := by
  refine ⟨?_, ?_⟩
  · rw [Str.length_append]
    have := h.1
    have := g.1
    omega
  · rw [Str.cps_append, Array.all_append, h.2, g.2]
    rfl
theorem vsT.mono {a : Str} {n m : Nat} (h : vsT a n) (l : n ≤ m) : vsT a m := ⟨Nat.le_trans h.1 l, h.2⟩
theorem vsT.lit (s : String) : vsT (Str.ofString s) s.toList.length := by
  refine ⟨?_, ?_⟩
  · rw [Str.ofString_eq_toList]
    simp [Str.length]
  · have := ok_lit (n := 0) (a := s)
    rw [ok_str] at this
    exact this
inductive VsTs : List Str → Nat → Prop
  | nil : VsTs [] 0
  | cons {t : Str} {ts : List Str} {n m : Nat} (h : vsT t n) (r : VsTs ts m) : VsTs (t :: ts) (n + 2 + m)
theorem vs_from : ∀ {ts : List Str} {m : Nat}, VsTs ts m → ∀ (k : Nat) (acc : Str) (n : Nat), vsT acc n → vsT (textFrom k acc ts) (n + m)
  | _, _, .nil, _, acc, n, h => h
  | _, _, .cons (t := t) (ts := ts) (n := n1) (m := m) ht r, k, acc, n, h => by
    have sep : vsT (if k > 0 then ", " else "" : String) 2 := by
      split
      · exact vsT.lit ", "
      · exact (vsT.lit "").mono (by decide)
    have := vs_from r (k + 1) _ _ ((h.app sep).app ht)
    exact this.mono (by omega)
theorem vs_join : ∀ {ts : List Str} {m : Nat}, VsTs ts m → vsT (Str.join ", " ts) m
  | _, _, .nil => ⟨Nat.le_refl _, by decide +kernel⟩
  | [t], _, .cons ht .nil => ht.mono (by omega)
  | t :: u :: ts, _, .cons ht r => by
    have := (ht.app (vsT.lit ", ")).app (vs_join r)
    exact this.mono (by simp)
theorem vs_list {ts : List Str} {m : Nat} (h : VsTs ts m) : vsT (listText ts) (m + 2) := ((vs_from h 0 "[" 1 (vsT.lit "[")).app (vsT.lit "]")).mono (by simp; omega)
theorem vs_tuple {ts : List Str} {m : Nat} (h : VsTs ts m) : vsT (tupleText ts) (m + 3) := by
  have e : vsT (if ts.length == 1 then ",)" else ")" : String) 2 := by
    split
    · exact vsT.lit ",)"
    · exact (vsT.lit ")").mono (by decide)
  exact (((vsT.lit "(").app (vs_join h)).app e).mono (by simp; omega)
theorem vs_dict {ts : List Str} {m : Nat} (h : VsTs ts m) : vsT (dictText ts) (m + 2) := (((vsT.lit "{").app (vs_join h)).app (vsT.lit "}")).mono (by simp; omega)
mutual
/-- no longer than this -/
def wtR : D → Nat
  | .int _ => 1921
  | .str x => (reprText x).length
  | .tup l => wtRs l + 3
  | .lst l => wtRs l + 3
  | .dk l => wtRk l + 3
  | _ => 5
def wtRs : List D → Nat
  | [] => 0
  | d :: r => wtR d + 2 + wtRs r
def wtRk : List (Key × D) → Nat
  | [] => 0
  | (k, d) :: r => (match k with
    | .inl _ => 1921
    | .inr x => (reprText x).length) + 2 + wtR d + 2 + wtRk r
end
def okSg (x : Str) : Bool := (reprText x).cps.all (· < 0x110000)
mutual
/-- the texts' signs are signs -/
def okV : D → Bool
  | .str x => okSg x
  | .tup l => okVs l
  | .lst l => okVs l
  | .dk l => okVk l
  | _ => true
def okVs : List D → Bool
  | [] => true
  | d :: r => okV d && okVs r
def okVk : List (Key × D) → Bool
  | [] => true
  | (k, d) :: r => (match k with
    | .inl _ => true
    | .inr x => okSg x) && okV d && okVk r
end
theorem vs_int {i : Int} (h : i.natAbs.log2 < 1920) : vsT (toString i : String) 1921 := by
  refine ⟨?_, (vsT.lit _).2⟩
  have := PySem.int_text_length_le (a := i) (k := 1920) (by decide) h
  rw [PySem.ofString_length]
  exact this
mutual
theorem shown_vs : ∀ (n : Nat) (d : D), okR n d = true → okV d = true → vsT (toR d).shown (wtR d)
  | _, .non, _, _ => by simp only [toR, PyData.shown, wtR]; exact (vsT.lit "None").mono (by decide)
  | _, .bl b, _, _ => by
    simp only [toR, PyData.shown, wtR]
    cases b
    · exact vsT.lit "False"
    · exact (vsT.lit "True").mono (by decide)
  | _, .int i, h, _ => by simp only [toR, PyData.shown, wtR]; exact vs_int (by simpa [okR] using h)
  | _, .str x, _, h => by simp only [toR, PyData.shown, wtR]; exact ⟨Nat.le_refl _, by simpa [okV, okSg] using h⟩
  | n + 1, .tup l, h, g => by simp only [toR, PyData.shown, wtR]; exact vs_tuple (showns_vs n l (by simpa [okR] using h) (by simpa [okV] using g))
  | n + 1, .lst l, h, g => by simp only [toR, PyData.shown, wtR]; exact (vs_list (showns_vs n l (by simpa [okR] using h) (by simpa [okV] using g))).mono (by omega)
  | n + 1, .dk l, h, g => by simp only [toR, PyData.shown, wtR]; exact (vs_dict (shownk_vs n l (by simpa [okR] using h) (by simpa [okV] using g))).mono (by omega)
  | 0, .tup _, h, _ => by simp [okR] at h
  | 0, .lst _, h, _ => by simp [okR] at h
  | 0, .dk _, h, _ => by simp [okR] at h
  | _, .dt _, h, _ => by simp [okR] at h
  | _, .ins _ _, h, _ => by simp [okR] at h
  | _, .st, h, _ => by simp [okR] at h
  | _, .scr _, h, _ => by simp [okR] at h
  | _, .fn _, h, _ => by simp [okR] at h
theorem showns_vs : ∀ (n : Nat) (l : List D), okRs n l = true → okVs l = true → VsTs (PyData.shownAll (toRs l)) (wtRs l)
  | _, [], _, _ => by simp only [toRs, PyData.shownAll, wtRs]; exact .nil
  | n, d :: r, h, g => by
    have h' : okR n d = true ∧ okRs n r = true := by simpa [okRs] using h
    have g' : okV d = true ∧ okVs r = true := by simpa [okVs] using g
    simp only [toRs, PyData.shownAll, wtRs]
    exact .cons (shown_vs n d h'.1 g'.1) (showns_vs n r h'.2 g'.2)
theorem shownk_vs : ∀ (n : Nat) (l : List (Key × D)), okRk n l = true → okVk l = true → VsTs (PyData.shownKv (toRk l)) (wtRk l)
  | _, [], _, _ => by simp only [toRk, PyData.shownKv, wtRk]; exact .nil
  | n, (k, d) :: r, h, g => by
    simp only [okRk, Bool.and_eq_true] at h
    simp only [okVk, Bool.and_eq_true] at g
    simp only [toRk, PyData.shownKv, wtRk]
    cases k with
    | inl i =>
      have := ((vs_int (by simpa [okKey] using h.1.1)).app (vsT.lit ": ")).app (shown_vs n d h.1.2 g.1.2)
      exact .cons this (shownk_vs n r h.2 g.2)
    | inr x =>
      have hx : vsT (reprText x) (reprText x).length := ⟨Nat.le_refl _, by simpa [okSg] using g.1.1⟩
      have := (hx.app (vsT.lit ": ")).app (shown_vs n d h.1.2 g.1.2)
      exact .cons this (shownk_vs n r h.2 g.2)
end
/-- repr gives a text -/
theorem fRepr_ok {d : D} {Q : DK} (h1 : isRef d = true) (h2 : okR 20 d = true) (h3 : okV d = true) (h4 : wtR d ≤ 16777216) (q : okD 60 (.str (reprD d)) = true → Q (.str (reprD d))) : fRepr [d] Q := by
  have v := shown_vs 20 d h2 h3
  refine ⟨⟨h1, h2, Nat.le_trans v.1 h4⟩, q ?_⟩
  rw [ok_str]
  exact v.2
end DL

set_option maxHeartbeats 4000000
namespace K14
open PySem DL
theorem sp_pick {xs : List D} (h0 : 0 < xs.length) (h1 : xs.length < 1000000) : W_u_law_pick [.st, .lst xs] (fun r => r ∈ xs) (fun _ => False) := by
  simp [W_u_law_pick_w]
  exact ⟨h0, log_nat (by omega), fun r h0 h1 => get_any h0 h1 fun _ h => h⟩
theorem pick_r (lo hi : Int) {xs : List D} {Q : DK} {E : Err → Prop} (hl : 0 < xs.length ∧ xs.length < 1000000) (h : ∀ d ∈ xs, ∃ s, d = .int s ∧ lo ≤ s ∧ s ≤ hi) (k : ∀ s, lo ≤ s → s ≤ hi → Q (.int s)) : up W_u_law_pick [.st, .lst xs] Q E :=
  up_use0 (sp_pick hl.1 hl.2) fun d hd => by
    obtain ⟨s, rfl, h1, h2⟩ := h d hd
    exact k s h1 h2
theorem pick_m {xs : List D} {Q : DK} {E : Err → Prop} (hl : 0 < xs.length ∧ xs.length < 1000000) (k : ∀ d ∈ xs, Q d) : up W_u_law_pick [.st, .lst xs] Q E :=
  up_use0 (sp_pick hl.1 hl.2) k
theorem sp_is {a b : Bool} : W_u_law_is [.bl a, .bl b] (fun r => r = .bl (a == b)) (fun _ => False) := by
  simp [W_u_law_is_w, isTy, tyName]
theorem sp_arch {u : Int} (h0 : 0 ≤ u) (h : u ≤ 400000) : W_arch [.int u] (fun r => r = .int (A u)) (fun _ => False) := by
  have := sq_le h0 h
  have : 0 ≤ u * u := sq_nn
  simp [W_arch_w, A]
  refine ⟨mul_ok (by omega) (by omega) (by omega) (by omega), mul_ok (by omega) (by omega) (by omega) (by omega), mul_ok (by omega) (by omega) (by omega) (by omega), mul_ok (by omega) (by omega) (by omega) (by omega), mul_ok (by omega) (by omega) (by omega) (by omega), mul_ok (by omega) (by omega) (by omega) (by omega), mul_ok (by omega) (by omega) (by omega) (by omega), mul_ok (by omega) (by omega) (by omega) (by omega), div_ok (by omega) (by omega)⟩
theorem sp_wave (x : Int) : W_wave [.int x] (fun r => r = .int (Wv x)) (fun _ => False) := by
  have hr : 0 ≤ x % 1296000 ∧ x % 1296000 < 1296000 := by omega
  simp [W_wave_w, V_wave_0_w, V_wave_1_w, Wv]
  obtain ⟨r, e⟩ : ∃ r, r = x % 1296000 := ⟨_, rfl⟩
  rw [← e] at hr ⊢
  by_cases c1 : r < 324000
  · simp [show r / 324000 = 0 by omega, c1, show x % 324000 = r by omega]
    exact up_use0 (sp_arch (by omega) (by omega)) fun _ h => h
  · by_cases c2 : r < 648000
    · simp [show r / 324000 = 1 by omega, c1, c2, V_wave_2_w, show 324000 - x % 324000 = 648000 - r by omega]
      exact up_use0 (sp_arch (by omega) (by omega)) fun _ h => h
    · by_cases c3 : r < 972000
      · simp [show r / 324000 = 2 by omega, c1, c2, c3, V_wave_2_w, V_wave_3_w, show x % 324000 = r - 648000 by omega]
        refine up_use0 (sp_arch (by omega) (by omega)) ?_
        rintro _ rfl
        simp
      · simp [show r / 324000 = 3 by omega, c1, c2, c3, V_wave_2_w, V_wave_3_w, V_wave_4_w, show 324000 - x % 324000 = 1296000 - r by omega]
        refine up_use0 (sp_arch (by omega) (by omega)) ?_
        rintro _ rfl
        simp
theorem sp_larch {u : Int} (h0 : 0 ≤ u) (h : u ≤ 400000) : W_u_law_arch [.int u] (fun r => r = .int (A u)) (fun _ => False) := by
  have := sq_le h0 h
  have : 0 ≤ u * u := sq_nn
  simp [W_u_law_arch_w, V_u_law_arch_0_w, V_u_law_arch_1_w, A]
  refine ⟨mul_ok (by omega) (by omega) (by omega) (by omega), mul_ok (by omega) (by omega) (by omega) (by omega), mul_ok (by omega) (by omega) (by omega) (by omega), mul_ok (by omega) (by omega) (by omega) (by omega), mul_ok (by omega) (by omega) (by omega) (by omega), mul_ok (by omega) (by omega) (by omega) (by omega), mul_ok (by omega) (by omega) (by omega) (by omega), mul_ok (by omega) (by omega) (by omega) (by omega), div_ok (by omega) (by omega)⟩
theorem sp_lwave (x : Int) : W_u_law_wave [.int x] (fun r => r = .int (Wv x)) (fun _ => False) := by
  have hr : 0 ≤ x % 1296000 ∧ x % 1296000 < 1296000 := by omega
  simp [W_u_law_wave_w, V_u_law_wave_0_w, V_u_law_wave_1_w, Wv]
  generalize x % 1296000 = r at *
  by_cases c2 : r < 648000
  · simp [show ¬ 648000 ≤ r by omega, V_u_law_wave_2_w]
    by_cases c1 : r < 324000
    · rw [if_pos c1, if_neg (by omega)]
      exact up_use0 (sp_larch (by omega) (by omega)) fun _ h => h
    · rw [if_neg c1, if_pos c2]
      by_cases c5 : 648000 - r < r
      · rw [if_pos c5]
        exact up_use0 (sp_larch (by omega) (by omega)) fun _ h => h
      · have : r = 324000 := by omega
        subst this
        exact up_use0 (sp_larch (by omega) (by omega)) fun _ h => h
  · simp [show 648000 ≤ r by omega]
    rw [if_neg (show ¬ r < 324000 by omega), if_neg c2]
    by_cases c3 : r < 972000
    · rw [if_pos c3, if_neg (by omega)]
      refine up_use0 (sp_larch (by omega) (by omega)) ?_
      rintro _ rfl
      simp
    · rw [if_neg c3]
      by_cases c5 : 1296000 - r < r - 648000
      · rw [if_pos c5]
        refine up_use0 (sp_larch (by omega) (by omega)) ?_
        rintro _ rfl
        simp
      · have : r = 972000 := by omega
        subst this
        refine up_use0 (sp_larch (by omega) (by omega)) ?_
        rintro _ rfl
        simp
/-! things: numbers, texts, tuples of things with at most m parts -/
inductive Th (m : Nat) : D → Prop
  | int (i : Int) : Th m (.int i)
  | str (x : Str) (h : x.cps.all (· < 0x110000) = true) : Th m (.str x)
  | tup (xs : List D) (hl : xs.length ≤ m) (h : ∀ x ∈ xs, Th m x) : Th m (.tup xs)
abbrev sg (c : Nat) : Str := ⟨#[c]⟩
theorem lit_q : Str.ofString "q" = sg 113 := by decide +kernel
theorem lit_a : Str.ofString "a" = sg 97 := by decide +kernel
theorem lit_n : Str.ofString "n" = sg 110 := by decide +kernel
theorem lit_d : Str.ofString "d" = sg 100 := by decide +kernel
/-- each word's sort and letters -/
def tab : List (Str × Nat × List Nat) := [("number", 113, [110]), ("wave", 113, [97]), ("share", 113, [113, 110, 100]), ("product", 113, [113, 113, 100]), ("later", 113, [113, 110]), ("turning", 97, [110, 110, 100]), ("moved", 97, [97, 113]), ("minus", 97, [97, 97])]
def form (w : Str) (k : Nat) : Option (Nat × List Nat) := if w = "sum" then some (113, List.replicate k 113) else tab.lookup w
def letter (c : Nat) : Prop := c = 110 ∨ c = 100 ∨ c = 113 ∨ c = 97
instance (c : Nat) : Decidable (letter c) := inferInstanceAs (Decidable (_ ∨ _ ∨ _ ∨ _))
theorem tab_ok : ∀ w c ls, tab.lookup w = some (c, ls) → ls ≠ [] ∧ (∀ x ∈ ls, letter x) ∧ (c = 113 ∨ c = 97) ∧ ls.length ≤ 3 := by
  intro w c ls h
  have all : ∀ p ∈ tab, p.2.2 ≠ [] ∧ (∀ x ∈ p.2.2, letter x) ∧ (p.2.1 = 113 ∨ p.2.1 = 97) ∧ p.2.2.length ≤ 3 := by decide
  have : (w, c, ls) ∈ tab := by
    have key : ∀ l : List (Str × Nat × List Nat), l.lookup w = some (c, ls) → (w, c, ls) ∈ l := by
      intro l
      induction l with
      | nil => intro h; cases h
      | cons p l ih =>
        obtain ⟨a, b⟩ := p
        rw [List.lookup_cons]
        intro h
        by_cases e : w = a
        · subst e
          simp at h
          rw [h]
          exact List.mem_cons_self
        · have : (w == a) = false := beq_false_of_ne e
          rw [this] at h
          exact List.mem_cons_of_mem _ (ih h)
    exact key tab h
  exact all _ this
def ranged (x : D) (lo : Int) : Bool := match x with
  | .int i => decide (lo ≤ i) && decide (i ≤ 1000000000000)
  | _ => false
/-- an expression, at most so deep -/
def good : Nat → D → Nat → Bool
  | 0, _, _ => false
  | n + 1, .tup (.str w :: r), s => match form w r.length with
    | some (c, ls) => decide (c = s) && !r.isEmpty && decide (ls.length = r.length) && (r.zip ls).all fun p => if p.2 = 110 then ranged p.1 (-1000000000000) else if p.2 = 100 then ranged p.1 1 else good n p.1 p.2
    | none => false
  | _, _, _ => false
theorem sp_num {m : Nat} {x : D} (h : Th m x) (lo : Int) : W_is_number [x, .int lo] (fun d => d = .bl (ranged x lo)) fun _ => False := by
  cases h with
  | int i =>
    simp [W_is_number_w, isTy, tyName, ranged]
    exact ite2' (fun c => by simp [c]) fun c => by simp [c]
  | str x h => simp [W_is_number_w, isTy, tyName, ranged]
  | tup xs hl h => simp [W_is_number_w, isTy, tyName, ranged]
abbrev FORMS : List (Str × Str) := [("number", "qn"), ("wave", "qa"), ("sum", "q"), ("share", "qqnd"), ("product", "qqqd"), ("later", "qqn"), ("turning", "annd"), ("moved", "aaq"), ("minus", "aaa")]
theorem forms_sum : FORMS.lookup (Str.ofString "sum") = some (sg 113) := by decide +kernel
/-- the words, one by one -/
theorem words (w : Str) : w = "sum" ∨ (∃ c ls, tab.lookup w = some (c, ls) ∧ w ≠ "sum" ∧ FORMS.lookup w = some ⟨(c :: ls).toArray⟩) ∨ (w ≠ "sum" ∧ tab.lookup w = none ∧ FORMS.lookup w = none) := by
  by_cases h : w = "sum"
  · exact .inl h
  refine .inr ?_
  by_cases h1 : w = "number"
  · subst h1; exact .inl ⟨113, [110], by decide +kernel, h, by decide +kernel⟩
  by_cases h2 : w = "wave"
  · subst h2; exact .inl ⟨113, [97], by decide +kernel, h, by decide +kernel⟩
  by_cases h3 : w = "share"
  · subst h3; exact .inl ⟨113, [113, 110, 100], by decide +kernel, h, by decide +kernel⟩
  by_cases h4 : w = "product"
  · subst h4; exact .inl ⟨113, [113, 113, 100], by decide +kernel, h, by decide +kernel⟩
  by_cases h5 : w = "later"
  · subst h5; exact .inl ⟨113, [113, 110], by decide +kernel, h, by decide +kernel⟩
  by_cases h6 : w = "turning"
  · subst h6; exact .inl ⟨97, [110, 110, 100], by decide +kernel, h, by decide +kernel⟩
  by_cases h7 : w = "moved"
  · subst h7; exact .inl ⟨97, [97, 113], by decide +kernel, h, by decide +kernel⟩
  by_cases h8 : w = "minus"
  · subst h8; exact .inl ⟨97, [97, 97], by decide +kernel, h, by decide +kernel⟩
  refine .inr ⟨h, ?_, ?_⟩
  · simp only [tab, List.lookup_cons, beq_false_of_ne h1, beq_false_of_ne h2, beq_false_of_ne h3, beq_false_of_ne h4, beq_false_of_ne h5, beq_false_of_ne h6, beq_false_of_ne h7, beq_false_of_ne h8, List.lookup_nil]
  · simp only [FORMS, List.lookup_cons, beq_false_of_ne h, beq_false_of_ne h1, beq_false_of_ne h2, beq_false_of_ne h3, beq_false_of_ne h4, beq_false_of_ne h5, beq_false_of_ne h6, beq_false_of_ne h7, beq_false_of_ne h8, List.lookup_nil]
def lettersD (x : D) (s : Nat) : Str := match x with
  | .tup (.str w :: y :: r) => match form w (r.length + 1) with
    | some (c, ls) => if c = s ∧ ls.length = r.length + 1 then ⟨ls.toArray⟩ else ""
    | none => ""
  | _ => ""
theorem str_cut (c : Nat) (ls : List Nat) : (⟨(cutL (⟨(c :: ls).toArray⟩ : Str).cps.toList (some 1) none).toArray⟩ : Str) = ⟨ls.toArray⟩ := by
  congr 2
  show cutL (c :: ls) (some 1) none = ls
  unfold cutL
  simp [sIx]
theorem repS_q (n : Nat) : repS "q" (n : Int) = ⟨(List.replicate n 113).toArray⟩ := by
  unfold repS
  congr 2
  rw [show (Str.cps (Str.ofString "q")).toList = [113] by decide +kernel, Int.toNat_natCast]
  induction n with
  | zero => rfl
  | succ n ih => rw [List.replicate_succ, List.flatten_cons, ih]; rfl
theorem sp_letters {m : Nat} (hm : m ≤ 900) {x : D} (h : Th m x) (s : Nat) (hs : s = 113 ∨ s = 97) : W_letters_of [x, .str (sg s)] (fun d => d = .str (lettersD x s)) fun _ => False := by
  cases h with
  | int i => simp [W_letters_of_w, V_letters_of_0_w, isTy, tyName, lettersD]
  | str x h => simp [W_letters_of_w, V_letters_of_0_w, isTy, tyName, lettersD]
  | tup xs hl h =>
    match xs, hl, h with
    | [], _, _ => simp [W_letters_of_w, V_letters_of_0_w, isTy, tyName, lettersD]
    | [y], _, h =>
      cases h y List.mem_cons_self <;> simp [W_letters_of_w, V_letters_of_0_w, isTy, tyName, lettersD]
    | y :: z :: r, hl, h =>
      cases h y List.mem_cons_self with
      | int i => simp [W_letters_of_w, V_letters_of_0_w, isTy, tyName, lettersD]
      | tup ys _ _ => simp [W_letters_of_w, V_letters_of_0_w, isTy, tyName, lettersD]
      | str w hw =>
        simp [W_letters_of_w, V_letters_of_0_w, isTy, tyName]
        refine ite2' (fun c => by omega) fun _ => ?_
        simp [V_letters_of_1_w]
        rw [w_kgetS]
        have e0 : (Str.ofString "" : Str) = ⟨#[]⟩ := by decide +kernel
        have okc : ∀ l : List Nat, (∀ x ∈ l, x < 0x110000) → (⟨l.toArray⟩ : Str).cps.all (· < 0x110000) = true := fun l h => by
          rw [← Array.all_toList, List.all_eq_true]
          exact fun x hx => decide_eq_true (h x hx)
        have fin : ∀ (ls : List Nat) (x : Sl) (N : DL.Env → Prop), ls.length ≤ 900 → form w (r.length + 1) = some (s, ls) → V_letters_of_5 (fun e x => False) { nx := N, rt := fun d => d = D.str (lettersD (.tup (.str w :: z :: r)) s) } [.v (.tup (.str w :: z :: r)), .v (.str (sg s)), x, .v (.str ⟨ls.toArray⟩)] := by
          intro ls x N hl hf
          simp [V_letters_of_5_w, w_lenStr]
          have e1 : (⟨ls.toArray⟩ : Str).length = ls.length := by simp [Str.length]
          rw [e1]
          refine ⟨by omega, ite2' (fun c => ?_) fun c => ?_⟩
          · simp [lettersD, hf]
            intro n
            omega
          · simp [lettersD, hf]
            intro n
            omega
        rcases words w with rfl | ⟨c, ls, e1, e2, e3⟩ | ⟨e1, e2, e3⟩
        · rw [forms_sum]
          have e4 : (sg 113).length = 1 := by decide
          simp [V_letters_of_2_w, ok_str, e0, w_ixStr, e4]
          refine ⟨by omega, ite2' (fun c1 => ?_) fun c1 => ?_⟩
          · subst c1
            have sk : (Str.ofString "sum").cps.all (· < 0x110000) = true := by decide +kernel
            simp [V_letters_of_3_w, w_cutStr, e4]
            simp [V_letters_of_4_w, ok_str, sk]
            rw [show (r.length : Int) + 1 = ((r.length + 1 : Nat) : Int) by omega, repS_q]
            rw [List.length_cons, List.length_cons] at hl
            refine ⟨⟨by omega, by omega, by decide +kernel⟩, ?_⟩
            exact fin _ _ _ (by rw [List.length_replicate]; omega) (by simp [form])
          · simp [lettersD, form, e0]
            intro n
            exact absurd n c1
        · rw [e3]
          obtain ⟨t1, t2, t3, t4⟩ := tab_ok w c ls e1
          have e4 : (⟨(c :: ls).toArray⟩ : Str).length = ls.length + 1 := by simp [Str.length]
          have ltl : ∀ x ∈ ls, x < 1114112 := fun x hx => by
            rcases t2 x hx with z | z | z | z <;> omega
          simp [V_letters_of_2_w, ok_str, e0, w_ixStr, e4]
          refine ⟨⟨by omega, ltl⟩, by omega, by omega, by omega, ite2' (fun c1 => ?_) fun c1 => ?_⟩
          · have c1 : c = s := by simpa using c1
            subst c1
            simp [V_letters_of_3_w, w_cutStr, e4]
            refine ⟨by omega, ?_⟩
            simp [V_letters_of_4_w, e2]
            refine ⟨by rw [ok_str]; exact hw, ?_⟩
            exact fin ls _ _ (by omega) (by simp [form, e2, e1])
          · have c1 : ¬ c = s := by simpa using c1
            simp [lettersD, form, e1, e2, e0]
            intro n
            exact absurd n c1
        · rw [e3]
          simp [V_letters_of_2_w, ok_str, e0]
          simp [lettersD, form, e1, e2, e0]
/-- a part as its letter says -/
def fitB (n : Nat) (p : D × Nat) : Bool := if p.2 = 110 then ranged p.1 (-1000000000000) else if p.2 = 100 then ranged p.1 1 else good n p.1 p.2
theorem form_ok {w : Str} {k c : Nat} {ls : List Nat} (h : form w k = some (c, ls)) (hk : 1 ≤ k) : ls ≠ [] ∧ (∀ x ∈ ls, letter x) := by
  unfold form at h
  split at h
  · cases h
    refine ⟨?_, fun x hx => ?_⟩
    · intro e
      have := congrArg List.length e
      simp at this
      omega
    · rw [(List.mem_replicate.mp hx).2]
      decide
  · have := tab_ok w c ls h
    exact ⟨this.1, this.2.1⟩
theorem letters_cases {m : Nat} {x : D} (h : Th m x) (s : Nat) : (lettersD x s = ⟨#[]⟩ ∧ ∀ n, good (n + 1) x s = false) ∨
    ∃ w y r ls, x = .tup (.str w :: y :: r) ∧ form w (r.length + 1) = some (s, ls) ∧ ls.length = r.length + 1 ∧ lettersD x s = ⟨ls.toArray⟩ ∧ (∀ c ∈ ls, letter c) ∧ ∀ n, good (n + 1) x s = ((y :: r).zip ls).all (fitB n) := by
  have e0 : (Str.ofString "" : Str) = ⟨#[]⟩ := by decide +kernel
  cases h with
  | int i => exact .inl ⟨e0, fun n => rfl⟩
  | str x h => exact .inl ⟨e0, fun n => rfl⟩
  | tup xs hl h =>
    match xs, h with
    | [], _ => exact .inl ⟨e0, fun n => rfl⟩
    | [y], h =>
      cases h y List.mem_cons_self with
      | int i => exact .inl ⟨e0, fun n => rfl⟩
      | tup xs _ _ => exact .inl ⟨e0, fun n => rfl⟩
      | str w _ =>
        refine .inl ⟨e0, fun n => ?_⟩
        simp only [good]
        cases form w ([] : List D).length with
        | none => rfl
        | some p => simp
    | y :: z :: r, h =>
      cases h y List.mem_cons_self with
      | int i => exact .inl ⟨e0, fun n => rfl⟩
      | tup xs _ _ => exact .inl ⟨e0, fun n => rfl⟩
      | str w _ =>
        cases e : form w (r.length + 1) with
        | none =>
          refine .inl ⟨?_, fun n => ?_⟩
          · simp only [lettersD, e]
            exact e0
          · simp only [good, List.length_cons, e]
        | some p =>
          obtain ⟨c, ls⟩ := p
          by_cases hc : c = s ∧ ls.length = r.length + 1
          · obtain ⟨rfl, hn⟩ := hc
            refine .inr ⟨w, z, r, ls, rfl, e, hn, ?_, (form_ok e (by omega)).2, fun n => ?_⟩
            · simp only [lettersD, e, hn, and_self, if_true]
            · simp only [good, List.length_cons, e, hn]
              simp
              rfl
          · refine .inl ⟨?_, fun n => ?_⟩
            · simp only [lettersD, e, if_neg hc]
              exact e0
            · simp only [good, List.length_cons, e]
              simp
              intro h1 h2
              exact absurd ⟨h1, h2⟩ hc
theorem sg_eq {c d : Nat} : ((sg c : Str) == sg d) = decide (c = d) := by
  by_cases h : c = d
  · subst h
    simp
  · rw [decide_eq_false h]
    refine beq_false_of_ne fun e => h ?_
    have := congrArg (fun z : Str => z.cps[0]?) e
    simpa using this
theorem okq (l : List Nat) (h : ∀ x ∈ l, x < 1114112) : okD 60 (.str ⟨l.toArray⟩) = true := by
  rw [ok_str]
  show l.toArray.all (fun x => decide (x < 0x110000)) = true
  rw [← Array.all_toList, List.all_eq_true]
  exact fun x hx => decide_eq_true (h x hx)
theorem zip_en (xs : List D) (ls : List Nat) : zipD xs (ls.map fun c => D.str ⟨#[c]⟩) = (xs.zip ls).map fun p => .tup [p.1, .str (sg p.2)] := by
  unfold zipD
  rw [List.zip_map_right, List.map_map]
  rfl
theorem sp_expr {m : Nat} (hm : m ≤ 900) : ∀ (n : Nat), n ≤ 20 → ∀ x, Th m x → ∀ s, s = 113 ∨ s = 97 → G_is_expression (2 * n + 1) [x, .str (sg s), .int n] (fun d => d = .bl (good n x s)) fun _ => False := by
  intro n
  induction n with
  | zero =>
    intro _ x h s hs
    simp [G_is_expression_w, V_is_expression_0_w, good]
  | succ n ih =>
    intro hn x h s hs
    rw [show 2 * (n + 1) + 1 = (2 * n + 2) + 1 by omega]
    simp [G_is_expression_w, V_is_expression_0_w]
    refine ite2' (fun c => by omega) fun _ => ?_
    simp only [V_is_expression_1_w]
    simp
    refine up_use0 (sp_letters hm h s hs) ?_
    rintro _ rfl
    have e0 : (Str.ofString "" : Str) = ⟨#[]⟩ := by decide +kernel
    rcases letters_cases h s with ⟨e1, e2⟩ | ⟨w, y, r, ls, rfl, e1, e2, e3, e4, e5⟩
    · rw [e1, e2 n]
      simp [V_is_expression_2_w, e0]
      exact okq [] (by simp)
    · rw [e3, e5 n]
      have ne : ls ≠ [] := fun z => by rw [z] at e2; simp at e2
      have ltl : ∀ x ∈ ls, x < 128 := fun x hx => by
        rcases e4 x hx with z | z | z | z <;> omega
      simp [V_is_expression_2_w, e0]
      refine ⟨okq ls fun x hx => by have := ltl x hx; omega, okq [] (by simp), ?_⟩
      rw [if_neg ne]
      simp only [V_is_expression_3_w]
      simp
      refine ⟨ltl, ?_⟩
      rw [zip_en]
      have lh : ((y :: r).zip ls).length ≤ 1000 := by
        rw [List.length_zip, List.length_cons]
        cases h with
        | tup _ hl _ =>
          rw [List.length_cons, List.length_cons] at hl
          omega
      have parts : ∀ p ∈ (y :: r).zip ls, Th m p.1 ∧ letter p.2 := fun p hp => by
        obtain ⟨h1, h2⟩ := List.of_mem_zip hp
        cases h with
        | tup _ _ h => exact ⟨h _ (List.mem_cons_of_mem _ h1), e4 _ h2⟩
      refine lcD_list (fun p : D × Nat => D.tup [p.1, .str (sg p.2)]) (fun p => .bl (fitB n p)) _ [] (fun p hp A R a => ?_) (by show _ ≤ _; simp only [List.length_nil, lineMax]; omega) ?_
      · simp
        obtain ⟨t, lt⟩ := parts p hp
        refine up_use0 (R := fun d => d = .bl (fitB n p)) ?_ (fun _ z => z ▸ a)
        simp [G_fits_w, V_fits_0_w, V_fits_1_w, V_fits_2_w, lit_n, lit_d, sg_eq]
        have okc : okD 60 (.str (sg p.2)) = true := okq [p.2] fun x hx => by
          rw [List.mem_singleton.mp hx]
          rcases lt with z | z | z | z <;> omega
        refine ⟨okc, okq [110] (by simp), ite2' (fun c => ?_) fun c => ⟨okc, okq [100] (by simp), ite2' (fun c2 => ?_) fun c2 => ?_⟩⟩
        · refine up_use0 (sp_num t _) ?_
          rintro _ rfl
          simp [fitB, c]
        · refine up_use0 (sp_num t _) ?_
          rintro _ rfl
          simp [fitB, c, c2]
        · refine up_use0 (ih (by omega) p.1 t p.2 (by rcases lt with z | z | z | z <;> omega)) ?_
          rintro _ rfl
          simp [fitB, c, c2]
      · rw [List.nil_append]
        exact fAll_map rfl
/-! skies -/
structure Mo where
  s : Int
  n : Int
  d : Int
structure Tm where
  a : Int
  m : Mo
structure Bd where
  m : Mo
  t : List Tm
  l : List Tm
structure Sky where
  bs : List (Str × Bd)
  tilt : Int
  turn : Mo
def Mo.e (m : Mo) : D := .tup [.int m.s, .int m.n, .int m.d]
def Tm.e (t : Tm) : D := .tup [.int t.a, .int t.m.s, .int t.m.n, .int t.m.d]
def tmE (l : List Tm) : D := .lst (l.map Tm.e)
def Bd.e (b : Bd) : D := .dk [(.inr "motion", b.m.e), (.inr "terms", tmE b.t), (.inr "latitude", tmE b.l)]
def bsE (bs : List (Str × Bd)) : List (Key × D) := bs.map fun p => (.inr p.1, p.2.e)
def Sky.e (k : Sky) : D := .dk [(.inr "bodies", .dk (bsE k.bs)), (.inr "tilt", .int k.tilt), (.inr "turning", k.turn.e)]
structure Mo.ok (m : Mo) : Prop where
  s0 : -10000000 ≤ m.s
  s1 : m.s ≤ 10000000
  n0 : -10000000 ≤ m.n
  n1 : m.n ≤ 10000000
  d0 : 1 ≤ m.d
  d1 : m.d ≤ 10000000
structure Tm.ok (t : Tm) : Prop where
  a0 : -10000000 ≤ t.a
  a1 : t.a ≤ 10000000
  m : t.m.ok
structure Bd.ok (b : Bd) : Prop where
  m : b.m.ok
  tl : b.t.length ≤ 2
  t : ∀ x ∈ b.t, x.ok
  ll : b.l.length ≤ 2
  l : ∀ x ∈ b.l, x.ok
def nms : List Str := ["sun", "moon", "mars"]
structure Sky.ok (k : Sky) : Prop where
  nm : k.bs.map (·.1) = nms.take k.bs.length
  len : 2 ≤ k.bs.length
  len2 : k.bs.length ≤ 3
  b : ∀ p ∈ k.bs, p.2.ok
  t0 : 0 ≤ k.tilt
  t1 : k.tilt ≤ 324000
  turn : k.turn.ok
def Sky.get (k : Sky) (x : Str) : Option Bd := k.bs.lookup x
theorem look_bs (x : Str) : ∀ bs : List (Str × Bd), lookD (bsE bs) (.inr x) = (bs.lookup x).map Bd.e
  | [] => rfl
  | (y, b) :: r => by
    have ih := look_bs x r
    unfold lookD bsE at ih ⊢
    rw [List.map_cons, List.find?_cons, List.lookup_cons]
    by_cases h : y = x
    · subst h
      simp
    · have h1 : decide ((Sum.inr y : Key) = .inr x) = false := decide_eq_false fun z => h (Sum.inr.inj z)
      have h2 : (x == y) = false := beq_false_of_ne fun z => h z.symm
      simp only [h1, h2]
      exact ih
theorem in_dk {x : Str} {kvs : List (Key × D)} {Q : DK} : oIn (.str x) (.dk kvs) Q ↔ Q (.bl (lookD kvs (.inr x)).isSome) := ⟨fun h => h, fun h => h⟩
theorem ix_dk {x : Str} {kvs : List (Key × D)} {Q : DK} : oIx (.dk kvs) (.str x) Q ↔ oGet (lookD kvs (.inr x)) Q := ⟨fun h => h, fun h => h⟩
theorem look_bodies (k : Sky) : lookD [((.inr (Str.ofString "bodies") : Key), D.dk (bsE k.bs)), (.inr (Str.ofString "tilt"), .int k.tilt), (.inr (Str.ofString "turning"), k.turn.e)] (.inr (Str.ofString "bodies")) = some (.dk (bsE k.bs)) := rfl
theorem look_tilt (k : Sky) : lookD [((.inr (Str.ofString "bodies") : Key), D.dk (bsE k.bs)), (.inr (Str.ofString "tilt"), .int k.tilt), (.inr (Str.ofString "turning"), k.turn.e)] (.inr (Str.ofString "tilt")) = some (.int k.tilt) := rfl
theorem look_turn (k : Sky) : lookD [((.inr (Str.ofString "bodies") : Key), D.dk (bsE k.bs)), (.inr (Str.ofString "tilt"), .int k.tilt), (.inr (Str.ofString "turning"), k.turn.e)] (.inr (Str.ofString "turning")) = some k.turn.e := rfl
theorem look_m (b : Bd) : lookD [((.inr (Str.ofString "motion") : Key), b.m.e), (.inr (Str.ofString "terms"), tmE b.t), (.inr (Str.ofString "latitude"), tmE b.l)] (.inr (Str.ofString "motion")) = some b.m.e := rfl
theorem look_t (b : Bd) : lookD [((.inr (Str.ofString "motion") : Key), b.m.e), (.inr (Str.ofString "terms"), tmE b.t), (.inr (Str.ofString "latitude"), tmE b.l)] (.inr (Str.ofString "terms")) = some (tmE b.t) := rfl
theorem look_l (b : Bd) : lookD [((.inr (Str.ofString "motion") : Key), b.m.e), (.inr (Str.ofString "terms"), tmE b.t), (.inr (Str.ofString "latitude"), tmE b.l)] (.inr (Str.ofString "latitude")) = some (tmE b.l) := rfl
/-! what is made of them -/
def tqe (t : Tm) : D := .tup [.str "share", .tup [.str "wave", .tup [.str "turning", .int t.m.s, .int t.m.n, .int t.m.d]], .int t.a, .int 1000000]
def tq (l : List Tm) : D := if l = [] then .tup [.str "number", .int 0] else .tup (.str "sum" :: l.map tqe)
def lon (b : Bd) : D := .tup [.str "moved", .tup [.str "turning", .int b.m.s, .int b.m.n, .int b.m.d], tq b.t]
def abv (b : Bd) : D := .tup [.str "moved", .tup [.str "turning", .int 0, .int 0, .int 1], tq b.l]
def wvq (a : D) : D := .tup [.str "wave", a]
def csq (a : D) : D := .tup [.str "wave", .tup [.str "moved", a, .tup [.str "number", .int 324000]]]
def prd (v w : D) : D := .tup [.str "product", v, w, .int 1000000]
def shr (v : D) (k : Int) : D := .tup [.str "share", v, .int k, .int 1000000]
def ngt (v : D) : D := .tup [.str "share", v, .int (-1), .int 1]
def sm2 (v w : D) : D := .tup [.str "sum", v, w]
def cx (b : Bd) : D := prd (csq (abv b)) (csq (lon b))
def cs (b : Bd) : D := prd (csq (abv b)) (wvq (lon b))
def cz (b : Bd) : D := wvq (abv b)
def ey (k : Sky) (b : Bd) : D := sm2 (shr (cs b) (Wv (k.tilt + 324000))) (shr (cz b) (-Wv k.tilt))
def ez (k : Sky) (b : Bd) : D := sm2 (shr (cs b) (Wv k.tilt)) (shr (cz b) (Wv (k.tilt + 324000)))
def trn (k : Sky) (p1 : Int) : D := .tup [.str "turning", .int (k.turn.s + p1), .int k.turn.n, .int k.turn.d]
def alt (k : Sky) (p0 p1 : Int) (b : Bd) : D := .tup [.str "sum", shr (prd (cx b) (csq (trn k p1))) (Wv (p0 + 324000)), shr (prd (ey k b) (wvq (trn k p1))) (Wv (p0 + 324000)), shr (ez k b) (Wv p0)]
def sqr (v w : D) : D := prd (sm2 v (ngt w)) (sm2 v (ngt w))
def ner (lim : Int) (b c : Bd) : D := sm2 (.tup [.str "number", .int (lim * lim / 1000000)]) (ngt (.tup [.str "sum", sqr (cx b) (cx c), sqr (cs b) (cs c), sqr (cz b) (cz c)]))
def est (k : Sky) (p1 : Int) (b : Bd) : D := sm2 (prd (ey k b) (csq (trn k p1))) (ngt (prd (cx b) (wvq (trn k p1))))
def sth (k : Sky) (p1 : Int) (b : Bd) : D := sm2 (prd (cx b) (csq (trn k p1))) (prd (ey k b) (wvq (trn k p1)))
def bad (x : Str) : Err := ⟨"SkyError", [("name", .str x), ("code", .str "body")]⟩
theorem sp_term (t : Tm) : W_term_quantity [t.e] (fun d => d = tqe t) fun _ => False := by
  simp [W_term_quantity_w, V_term_quantity_0_w, Tm.e]
  simp [V_term_quantity_1_w, tqe]
theorem sp_terms {l : List Tm} (h : l.length ≤ 2) : W_terms_quantity [tmE l] (fun d => d = tq l) fun _ => False := by
  cases l with
  | nil => simp [W_terms_quantity_w, V_terms_quantity_0_w, tmE, tq]
  | cons t l =>
    simp [W_terms_quantity_w, V_terms_quantity_0_w, tmE]
    simp only [V_terms_quantity_1_w]
    simp
    refine lcD_list Tm.e tqe (t :: l) [] (fun x hx A R a => ?_) (by show _ ≤ _; simp [lineMax]; simp at h; omega) ?_
    · simp
      refine up_use0 (sp_term x) ?_
      rintro _ rfl
      exact a
    · simp [tq]
      simp at h
      omega
theorem sp_body {k : Sky} {x : Str} (ok : okD 60 (.str x) = true) {b : Bd} (hb : k.bs.lookup x = some b) : W_body_of [k.e, .str x] (fun d => d = b.e) fun _ => False := by
  simp [W_body_of_w, V_body_of_0_w, Sky.e, ix_dk, look_bodies, in_dk, look_bs, hb]
  simp [V_body_of_1_w, ix_dk, look_bodies, look_bs, hb]
theorem okE_of {x : Str} (ok : okD 60 (.str x) = true) (h : x.length ≤ 1000) : okE (.str x) := by
  refine ⟨h, fun c hc => ?_⟩
  rw [ok_str] at ok
  have := Array.all_eq_true_iff_forall_mem.mp ok c (by simpa using hc)
  have : c < 1114112 := by simpa using this
  omega
theorem sp_body_bad {k : Sky} {x : Str} (ok : okD 60 (.str x) = true) (hx : x.length ≤ 1000) (hb : k.bs.lookup x = none) : W_body_of [k.e, .str x] (fun _ => False) fun e => e = bad x := by
  simp [W_body_of_w, V_body_of_0_w, Sky.e, ix_dk, look_bodies, in_dk, look_bs, hb]
  exact ⟨⟨okE_lit (by decide), okE_of ok hx⟩, rfl⟩
theorem sp_lon {k : Sky} {x : Str} (ok : okD 60 (.str x) = true) {b : Bd} (hb : k.bs.lookup x = some b) (hk : b.ok) : W_longitude [k.e, .str x] (fun d => d = lon b) fun _ => False := by
  simp [W_longitude_w, V_longitude_0_w]
  refine up_use0 (sp_body ok hb) ?_
  rintro _ rfl
  simp only [V_longitude_1_w]
  simp [Bd.e, ix_dk, look_m]
  simp [Mo.e]
  simp only [V_longitude_2_w]
  simp [ix_dk]
  rw [show lookD [((Sum.inr (Str.ofString "motion") : Key), D.tup [D.int b.m.s, D.int b.m.n, D.int b.m.d]), (Sum.inr (Str.ofString "terms"), tmE b.t), (Sum.inr (Str.ofString "latitude"), tmE b.l)] (Sum.inr (Str.ofString "terms")) = some (tmE b.t) from rfl]
  simp
  refine up_use0 (sp_terms hk.tl) ?_
  rintro _ rfl
  simp [lon]
theorem sp_lat {k : Sky} {x : Str} (ok : okD 60 (.str x) = true) {b : Bd} (hb : k.bs.lookup x = some b) (hk : b.ok) : W_latitude [k.e, .str x] (fun d => d = tq b.l) fun _ => False := by
  simp [W_latitude_w]
  refine up_use0 (sp_body ok hb) ?_
  rintro _ rfl
  simp [Bd.e, ix_dk, look_l]
  refine up_use0 (sp_terms hk.ll) ?_
  rintro _ rfl
  rfl
theorem sp_cos (a : D) : W_cosine [a] (fun d => d = csq a) fun _ => False := by simp [W_cosine_w, csq]
theorem sp_prd (a b : D) : W_product [a, b] (fun d => d = prd a b) fun _ => False := by simp [W_product_w, prd]
theorem sp_shr (a : D) (i : Int) : W_share [a, .int i] (fun d => d = shr a i) fun _ => False := by simp [W_share_w, shr]
theorem sp_ngt (a : D) : W_negative [a] (fun d => d = ngt a) fun _ => False := by simp [W_negative_w, ngt]
theorem sp_coords {k : Sky} {x : Str} (ok : okD 60 (.str x) = true) {b : Bd} (hb : k.bs.lookup x = some b) (hk : b.ok) : W_coordinates [k.e, .str x] (fun d => d = .tup [cx b, cs b, cz b]) fun _ => False := by
  simp [W_coordinates_w, V_coordinates_0_w]
  refine up_use0 (sp_lon ok hb hk) ?_
  rintro _ rfl
  simp [V_coordinates_1_w]
  refine up_use0 (sp_lat ok hb hk) ?_
  rintro _ rfl
  simp [V_coordinates_2_w]
  refine up_use0 (sp_cos _) ?_
  rintro _ rfl
  refine up_use0 (sp_cos _) ?_
  rintro _ rfl
  refine up_use0 (sp_prd _ _) ?_
  rintro _ rfl
  refine up_use0 (sp_cos _) ?_
  rintro _ rfl
  refine up_use0 (sp_prd _ _) ?_
  rintro _ rfl
  exact ⟨rfl, rfl, rfl⟩
theorem sp_eq {k : Sky} {x : Str} (ok : okD 60 (.str x) = true) {b : Bd} (hb : k.bs.lookup x = some b) (hk : b.ok) : W_equatorial [k.e, .str x] (fun d => d = .tup [cx b, ey k b, ez k b]) fun _ => False := by
  simp [W_equatorial_w, V_equatorial_0_w]
  refine up_use0 (sp_coords ok hb hk) ?_
  rintro _ rfl
  simp [V_equatorial_1_w, Sky.e, ix_dk, look_tilt]
  refine up_use0 (sp_wave _) ?_
  rintro _ rfl
  simp [V_equatorial_2_w, ix_dk, look_tilt]
  refine up_use0 (sp_wave _) ?_
  rintro _ rfl
  simp [V_equatorial_3_w]
  refine up_use0 (sp_shr _ _) ?_
  rintro _ rfl
  refine up_use0 (sp_shr _ _) ?_
  rintro _ rfl
  simp [V_equatorial_4_w]
  refine up_use0 (sp_shr _ _) ?_
  rintro _ rfl
  refine up_use0 (sp_shr _ _) ?_
  rintro _ rfl
  simp [V_equatorial_5_w]
  exact ⟨rfl, rfl⟩
theorem sp_turned (k : Sky) (p0 p1 : Int) : W_turned [k.e, .tup [.int p0, .int p1]] (fun d => d = trn k p1) fun _ => False := by
  simp [W_turned_w, V_turned_0_w, Sky.e, ix_dk, look_turn]
  simp [Mo.e]
  simp [V_turned_1_w, trn]
theorem sp_alt {k : Sky} {x : Str} (ok : okD 60 (.str x) = true) {b : Bd} (hb : k.bs.lookup x = some b) (hk : b.ok) (p0 p1 : Int) : W_altitude [k.e, .tup [.int p0, .int p1], .str x] (fun d => d = alt k p0 p1 b) fun _ => False := by
  simp [W_altitude_w, V_altitude_0_w]
  refine up_use0 (sp_eq ok hb hk) ?_
  rintro _ rfl
  simp [V_altitude_1_w]
  refine up_use0 (sp_turned k p0 p1) ?_
  rintro _ rfl
  simp [V_altitude_2_w]
  refine up_use0 (sp_wave _) ?_
  rintro _ rfl
  simp [V_altitude_3_w]
  refine up_use0 (sp_wave _) ?_
  rintro _ rfl
  simp [V_altitude_4_w]
  refine up_use0 (sp_cos _) ?_
  rintro _ rfl
  refine up_use0 (sp_prd _ _) ?_
  rintro _ rfl
  refine up_use0 (sp_shr _ _) ?_
  rintro _ rfl
  refine up_use0 (sp_prd _ _) ?_
  rintro _ rfl
  refine up_use0 (sp_shr _ _) ?_
  rintro _ rfl
  refine up_use0 (sp_shr _ _) ?_
  rintro _ rfl
  rfl
theorem sp_east {k : Sky} {x : Str} (ok : okD 60 (.str x) = true) {b : Bd} (hb : k.bs.lookup x = some b) (hk : b.ok) (p0 p1 : Int) : W_east [k.e, .tup [.int p0, .int p1], .str x] (fun d => d = est k p1 b) fun _ => False := by
  simp [W_east_w, V_east_0_w]
  refine up_use0 (sp_eq ok hb hk) ?_
  rintro _ rfl
  simp [V_east_1_w]
  refine up_use0 (sp_turned k p0 p1) ?_
  rintro _ rfl
  simp [V_east_2_w]
  refine up_use0 (sp_cos _) ?_
  rintro _ rfl
  refine up_use0 (sp_prd _ _) ?_
  rintro _ rfl
  refine up_use0 (sp_prd _ _) ?_
  rintro _ rfl
  refine up_use0 (sp_ngt _) ?_
  rintro _ rfl
  rfl
theorem sp_south {k : Sky} {x : Str} (ok : okD 60 (.str x) = true) {b : Bd} (hb : k.bs.lookup x = some b) (hk : b.ok) (p0 p1 : Int) : W_south [k.e, .tup [.int p0, .int p1], .str x] (fun d => d = sth k p1 b) fun _ => False := by
  simp [W_south_w, V_south_0_w]
  refine up_use0 (sp_eq ok hb hk) ?_
  rintro _ rfl
  simp [V_south_1_w]
  refine up_use0 (sp_turned k p0 p1) ?_
  rintro _ rfl
  simp [V_south_2_w]
  refine up_use0 (sp_cos _) ?_
  rintro _ rfl
  refine up_use0 (sp_prd _ _) ?_
  rintro _ rfl
  refine up_use0 (sp_prd _ _) ?_
  rintro _ rfl
  rfl
theorem sp_elong {k : Sky} {x y : Str} (ok : okD 60 (.str x) = true) (ok2 : okD 60 (.str y) = true) {b c : Bd} (hb : k.bs.lookup x = some b) (hk : b.ok) (hc : k.bs.lookup y = some c) (hk2 : c.ok) : W_elongation [k.e, .str x, .str y] (fun d => d = .tup [.str "minus", lon b, lon c]) fun _ => False := by
  simp [W_elongation_w]
  refine up_use0 (sp_lon ok hb hk) ?_
  rintro _ rfl
  refine up_use0 (sp_lon ok2 hc hk2) ?_
  rintro _ rfl
  exact ⟨rfl, rfl⟩
theorem sp_need {k : Sky} {x y : Str} (hb : (k.bs.lookup x).isSome = true) (hc : (k.bs.lookup y).isSome = true) : W_need_bodies [k.e, .tup [.str x, .str y]] (fun _ => True) fun _ => False := by
  simp [W_need_bodies_w]
  refine forL_inv (fun i ρ => ∃ s, ρ = [.v k.e, s, .no]) ⟨_, rfl⟩ ?_ ?_
  · rintro i z ρ nx hx ⟨s, rfl⟩ hn
    have hz : ∃ w : Str, z = .str w ∧ (k.bs.lookup w).isSome = true := by
      have := List.mem_of_getElem? hx
      simp at this
      rcases this with r | r
      · exact ⟨x, r, hb⟩
      · exact ⟨y, r, hc⟩
    obtain ⟨w, rfl, hw⟩ := hz
    simp [V_need_bodies_L1_0_w, Sky.e, ix_dk, look_bodies, in_dk, look_bs, hw]
    simp [V_need_bodies_L1_1_w]
    exact hn _ ⟨_, rfl⟩
  · rintro ρ ⟨s, rfl⟩
    trivial
/-! a body that is not in the sky -/
theorem forL_c {g : DG} {b : DS} {E : EK} {K : DE} {x : D} {r : List D} {ρ : DL.Env} : forL g b E K (x :: r) ρ ↔ g x ρ fun ρ' => b E { nx := forL g b E K r, ct := forL g b E K r, bk := K.nx, rt := K.rt, ro := K.ro } ρ' := ⟨fun h => h, fun h => h⟩
theorem forL_n {g : DG} {b : DS} {E : EK} {K : DE} {ρ : DL.Env} : forL g b E K [] ρ ↔ K.nx ρ := ⟨fun h => h, fun h => h⟩
theorem sp_lon_bad {k : Sky} {x : Str} (ok : okD 60 (.str x) = true) (hx : x.length ≤ 1000) (hb : k.bs.lookup x = none) : W_longitude [k.e, .str x] (fun _ => False) fun e => e = bad x := by
  simp [W_longitude_w, V_longitude_0_w]
  exact up_use (sp_body_bad ok hx hb) (fun _ z => z.elim) fun e z => z
theorem sp_lat_bad {k : Sky} {x : Str} (ok : okD 60 (.str x) = true) (hx : x.length ≤ 1000) (hb : k.bs.lookup x = none) : W_latitude [k.e, .str x] (fun _ => False) fun e => e = bad x := by
  simp [W_latitude_w]
  exact up_use (sp_body_bad ok hx hb) (fun _ z => z.elim) fun e z => z
theorem sp_coords_bad {k : Sky} {x : Str} (ok : okD 60 (.str x) = true) (hx : x.length ≤ 1000) (hb : k.bs.lookup x = none) : W_coordinates [k.e, .str x] (fun _ => False) fun e => e = bad x := by
  simp [W_coordinates_w, V_coordinates_0_w]
  exact up_use (sp_lon_bad ok hx hb) (fun _ z => z.elim) fun e z => z
theorem sp_eq_bad {k : Sky} {x : Str} (ok : okD 60 (.str x) = true) (hx : x.length ≤ 1000) (hb : k.bs.lookup x = none) : W_equatorial [k.e, .str x] (fun _ => False) fun e => e = bad x := by
  simp [W_equatorial_w, V_equatorial_0_w]
  exact up_use (sp_coords_bad ok hx hb) (fun _ z => z.elim) fun e z => z
theorem sp_alt_bad {k : Sky} {x : Str} (ok : okD 60 (.str x) = true) (hx : x.length ≤ 1000) (hb : k.bs.lookup x = none) (p : D) : W_altitude [k.e, p, .str x] (fun _ => False) fun e => e = bad x := by
  simp [W_altitude_w, V_altitude_0_w]
  exact up_use (sp_eq_bad ok hx hb) (fun _ z => z.elim) fun e z => z
theorem sp_east_bad {k : Sky} {x : Str} (ok : okD 60 (.str x) = true) (hx : x.length ≤ 1000) (hb : k.bs.lookup x = none) (p : D) : W_east [k.e, p, .str x] (fun _ => False) fun e => e = bad x := by
  simp [W_east_w, V_east_0_w]
  exact up_use (sp_eq_bad ok hx hb) (fun _ z => z.elim) fun e z => z
theorem sp_elong_bad {k : Sky} {x : Str} (y : D) (ok : okD 60 (.str x) = true) (hx : x.length ≤ 1000) (hb : k.bs.lookup x = none) : W_elongation [k.e, .str x, y] (fun _ => False) fun e => e = bad x := by
  simp [W_elongation_w]
  exact up_use (sp_lon_bad ok hx hb) (fun _ z => z.elim) fun e z => z
theorem sp_elong_bad2 {k : Sky} {x y : Str} (ok : okD 60 (.str x) = true) {b : Bd} (hb : k.bs.lookup x = some b) (hk : b.ok) (ok2 : okD 60 (.str y) = true) (hy : y.length ≤ 1000) (hc : k.bs.lookup y = none) : W_elongation [k.e, .str x, .str y] (fun _ => False) fun e => e = bad y := by
  simp [W_elongation_w]
  refine up_use0 (sp_lon ok hb hk) ?_
  rintro _ rfl
  exact up_use (sp_lon_bad ok2 hy hc) (fun _ z => z.elim) fun e z => z
theorem need_step {k : Sky} {x : Str} {E : EK} {K : DE} {r : Sl} (ok : okD 60 (.str x) = true) (hx : x.length ≤ 1000) (h1 : (k.bs.lookup x).isSome = true → K.nx [.v k.e, .no, .no]) (h2 : k.bs.lookup x = none → E (bad x) [.v k.e, r, .v (.str x)]) : V_need_bodies_L1_0 E K [.v k.e, r, .v (.str x)] := by
  cases hb : k.bs.lookup x with
  | some b =>
    have hs : (k.bs.lookup x).isSome = true := by rw [hb]; rfl
    simp [V_need_bodies_L1_0_w, Sky.e, ix_dk, look_bodies, in_dk, look_bs, hb]
    simp [V_need_bodies_L1_1_w]
    exact h1 hs
  | none =>
    simp [V_need_bodies_L1_0_w, Sky.e, ix_dk, look_bodies, in_dk, look_bs, hb]
    exact ⟨⟨okE_lit (by decide), okE_of ok hx⟩, h2 hb⟩
/-- the first body of two that is not there -/
theorem sp_need_bad {k : Sky} {x y z : Str} (okx : okD 60 (.str x) = true) (hx : x.length ≤ 1000) (oky : okD 60 (.str y) = true) (hy : y.length ≤ 1000)
    (h : (k.bs.lookup x = none ∧ z = x) ∨ ((k.bs.lookup x).isSome = true ∧ k.bs.lookup y = none ∧ z = y)) : W_need_bodies [k.e, .tup [.str x, .str y]] (fun _ => False) fun e => e = bad z := by
  simp [W_need_bodies_w]
  rw [forL_c]
  simp
  refine need_step okx hx (fun h1 => ?_) fun h1 => ?_
  · show forL _ _ _ _ _ _
    rw [forL_c]
    simp
    refine need_step oky hy (fun h2 => ?_) fun h2 => ?_
    · rcases h with ⟨a, _⟩ | ⟨_, a, _⟩
      · rw [a] at h1
        cases h1
      · rw [a] at h2
        cases h2
    · rcases h with ⟨a, _⟩ | ⟨_, _, a⟩
      · rw [a] at h1
        cases h1
      · rw [a]
  · rcases h with ⟨_, a⟩ | ⟨a, _, _⟩
    · rw [a]
    · rw [h1] at a
      cases a
theorem sp_near_bad {k : Sky} {x y z : Str} (l : D) (okx : okD 60 (.str x) = true) (hx : x.length ≤ 1000) (oky : okD 60 (.str y) = true) (hy : y.length ≤ 1000)
    (h : (k.bs.lookup x = none ∧ z = x) ∨ ((k.bs.lookup x).isSome = true ∧ k.bs.lookup y = none ∧ z = y)) : W_nearness [k.e, .str x, .str y, l] (fun _ => False) fun e => e = bad z := by
  simp [W_nearness_w, V_nearness_0_w]
  exact up_use (sp_need_bad okx hx oky hy h) (fun _ z => z.elim) fun e z => z
theorem near_step {E : EK} {K : DE} {v w l : D} {acc : List D} {s0 s1 s2 : Sl} (ha : acc.length ≤ 10) (q : K.nx [.no, .no, .no, .v l, .o (.lst (acc ++ [sqr v w])), .no, .no, .no]) : V_nearness_L1_0 E K [s0, s1, s2, .v l, .o (.lst acc), .v v, .v w, .no] := by
  simp [V_nearness_L1_0_w]
  refine up_use0 (sp_ngt _) ?_
  rintro _ rfl
  simp [V_nearness_L1_1_w]
  refine up_use0 (sp_prd _ _) ?_
  rintro _ rfl
  refine ⟨by omega, ?_⟩
  simp [V_nearness_L1_2_w]
  exact q
theorem sp_near {k : Sky} {x y : Str} (ok : okD 60 (.str x) = true) (ok2 : okD 60 (.str y) = true) {b c : Bd} (hb : k.bs.lookup x = some b) (hk : b.ok) (hc : k.bs.lookup y = some c) (hk2 : c.ok) (l : Int) (l0 : 0 ≤ l) (l1 : l ≤ 3000000) :
    W_nearness [k.e, .str x, .str y, .int l] (fun d => d = ner l b c) fun _ => False := by
  simp [W_nearness_w, V_nearness_0_w]
  refine up_use0 (sp_need (by rw [hb]; rfl) (by rw [hc]; rfl)) fun _ _ => ?_
  simp [V_nearness_1_w]
  simp [V_nearness_2_w]
  refine up_use0 (sp_coords ok hb hk) ?_
  rintro _ rfl
  refine up_use0 (sp_coords ok2 hc hk2) ?_
  rintro _ rfl
  simp [zipD]
  rw [forL_c]
  simp
  refine near_step (by simp) ?_
  show forL _ _ _ _ _ _
  rw [forL_c]
  simp
  refine near_step (by simp) ?_
  show forL _ _ _ _ _ _
  rw [forL_c]
  simp
  refine near_step (by simp) ?_
  show forL _ _ _ _ _ _
  rw [forL_n]
  simp
  simp only [V_nearness_3_w]
  simp
  refine ⟨mul_ok (by omega) (by omega) (by omega) (by omega), div_ok (by omega) (by omega), ?_⟩
  refine up_use0 (sp_ngt _) ?_
  rintro _ rfl
  rfl
/-! what the law makes -/
theorem sp_ltq {l : List Tm} (h : l.length ≤ 2) : W_u_law_terms_q [tmE l] (fun d => d = tq l) fun _ => False := by
  cases l with
  | nil => simp [W_u_law_terms_q_w, V_u_law_terms_q_0_w, tmE, tq]
  | cons t l =>
    simp [W_u_law_terms_q_w, V_u_law_terms_q_0_w, tmE]
    refine ite2' (fun c => by omega) fun _ => ?_
    simp only [V_u_law_terms_q_1_w]
    simp
    refine lcD_list Tm.e tqe (t :: l) [] (fun x hx A R a => ?_) (by show _ ≤ _; simp [lineMax]; simp at h; omega) ?_
    · simp [Tm.e]
      exact a
    · simp [tq]
      simp at h
      omega
theorem sp_llon {k : Sky} {x : Str} {b : Bd} (hb : k.bs.lookup x = some b) (hk : b.ok) : W_u_law_longitude [k.e, .str x] (fun d => d = lon b) fun _ => False := by
  simp [W_u_law_longitude_w, V_u_law_longitude_0_w, Sky.e, ix_dk, look_bodies, look_bs, hb]
  simp only [V_u_law_longitude_1_w]
  simp [Bd.e, ix_dk, look_m, look_t]
  simp [Mo.e]
  refine up_use0 (sp_ltq hk.tl) ?_
  rintro _ rfl
  rfl
theorem sp_llat {k : Sky} {x : Str} {b : Bd} (hb : k.bs.lookup x = some b) (hk : b.ok) : W_u_law_latitude [k.e, .str x] (fun d => d = tq b.l) fun _ => False := by
  simp [W_u_law_latitude_w, Sky.e, ix_dk, look_bodies, look_bs, hb]
  simp [Bd.e, ix_dk, look_l]
  refine up_use0 (sp_ltq hk.ll) ?_
  rintro _ rfl
  rfl
theorem sp_ahd (a : D) : W_u_law_ahead [a] (fun d => d = csq a) fun _ => False := by simp [W_u_law_ahead_w, csq]
theorem sp_tms (a b : D) : W_u_law_times [a, b] (fun d => d = prd a b) fun _ => False := by simp [W_u_law_times_w, prd]
theorem sp_prt (a : D) (i : Int) : W_u_law_part [a, .int i] (fun d => d = shr a i) fun _ => False := by simp [W_u_law_part_w, shr]
theorem sp_lcoords {k : Sky} {x : Str} {b : Bd} (hb : k.bs.lookup x = some b) (hk : b.ok) : W_u_law_coordinates [k.e, .str x] (fun d => d = .lst [cx b, cs b, cz b]) fun _ => False := by
  simp [W_u_law_coordinates_w, V_u_law_coordinates_0_w]
  refine up_use0 (sp_llon hb hk) ?_
  rintro _ rfl
  simp [V_u_law_coordinates_1_w]
  refine up_use0 (sp_llat hb hk) ?_
  rintro _ rfl
  simp [V_u_law_coordinates_2_w]
  refine up_use0 (sp_ahd _) ?_
  rintro _ rfl
  refine up_use0 (sp_ahd _) ?_
  rintro _ rfl
  refine up_use0 (sp_tms _ _) ?_
  rintro _ rfl
  simp [V_u_law_coordinates_3_w]
  refine up_use0 (sp_ahd _) ?_
  rintro _ rfl
  refine up_use0 (sp_tms _ _) ?_
  rintro _ rfl
  exact ⟨rfl, rfl, rfl⟩
theorem sp_leq {k : Sky} {x : Str} {b : Bd} (hb : k.bs.lookup x = some b) (hk : b.ok) : W_u_law_equator [k.e, .str x] (fun d => d = .lst [cx b, ey k b, ez k b]) fun _ => False := by
  simp [W_u_law_equator_w, V_u_law_equator_0_w]
  refine up_use0 (sp_lcoords hb hk) ?_
  rintro _ rfl
  simp [V_u_law_equator_1_w, Sky.e, ix_dk, look_tilt]
  refine up_use0 (sp_lwave _) ?_
  rintro _ rfl
  simp [V_u_law_equator_2_w, ix_dk, look_tilt]
  refine up_use0 (sp_lwave _) ?_
  rintro _ rfl
  simp [V_u_law_equator_3_w]
  refine up_use0 (sp_prt _ _) ?_
  rintro _ rfl
  refine up_use0 (sp_prt _ _) ?_
  rintro _ rfl
  refine up_use0 (sp_prt _ _) ?_
  rintro _ rfl
  refine up_use0 (sp_prt _ _) ?_
  rintro _ rfl
  exact ⟨rfl, rfl⟩
theorem sp_lturned (k : Sky) (p0 p1 : Int) : W_u_law_turned [k.e, .tup [.int p0, .int p1]] (fun d => d = trn k p1) fun _ => False := by
  simp [W_u_law_turned_w, V_u_law_turned_0_w, Sky.e, ix_dk, look_turn]
  simp [Mo.e]
  simp [V_u_law_turned_1_w, trn]
theorem sp_lalt {k : Sky} {x : Str} {b : Bd} (hb : k.bs.lookup x = some b) (hk : b.ok) (p0 p1 : Int) : W_u_law_altitude [k.e, .tup [.int p0, .int p1], .str x] (fun d => d = alt k p0 p1 b) fun _ => False := by
  simp [W_u_law_altitude_w, V_u_law_altitude_0_w]
  refine up_use0 (sp_leq hb hk) ?_
  rintro _ rfl
  simp [V_u_law_altitude_1_w]
  refine up_use0 (sp_lturned k p0 p1) ?_
  rintro _ rfl
  simp [V_u_law_altitude_2_w]
  refine up_use0 (sp_lwave _) ?_
  rintro _ rfl
  simp [V_u_law_altitude_3_w]
  refine up_use0 (sp_lwave _) ?_
  rintro _ rfl
  simp [V_u_law_altitude_4_w]
  refine up_use0 (sp_ahd _) ?_
  rintro _ rfl
  refine up_use0 (sp_tms _ _) ?_
  rintro _ rfl
  refine up_use0 (sp_prt _ _) ?_
  rintro _ rfl
  refine up_use0 (sp_tms _ _) ?_
  rintro _ rfl
  refine up_use0 (sp_prt _ _) ?_
  rintro _ rfl
  refine up_use0 (sp_prt _ _) ?_
  rintro _ rfl
  rfl
theorem lnear_step {E : EK} {K : DE} {l : D} {acc os ms : List D} {v w : D} {i : Int} {s0 s1 s2 : Sl} (ho : atI os i = some w) (hm : atI ms i = some v) (ha : acc.length ≤ 10) (q : K.nx [.no, .no, .no, .v l, .o (.lst (acc ++ [sqr v w])), .v (.lst os), .v (.lst ms), .no, .no]) :
    V_u_law_near_L1_0 E K [s0, s1, s2, .v l, .o (.lst acc), .v (.lst os), .v (.lst ms), .v (.int i), .no] := by
  simp [V_u_law_near_L1_0_w, ho, hm]
  simp [V_u_law_near_L1_1_w]
  refine up_use0 (sp_tms _ _) ?_
  rintro _ rfl
  refine ⟨by omega, ?_⟩
  simp [V_u_law_near_L1_2_w]
  exact q
theorem sp_lnear {k : Sky} {x y : Str} {b c : Bd} (hb : k.bs.lookup x = some b) (hk : b.ok) (hc : k.bs.lookup y = some c) (hk2 : c.ok) (l : Int) (l0 : 0 ≤ l) (l1 : l ≤ 3000000) :
    W_u_law_near [k.e, .str x, .str y, .int l] (fun d => d = ner l b c) fun _ => False := by
  simp [W_u_law_near_w, V_u_law_near_0_w]
  simp [V_u_law_near_1_w]
  refine up_use0 (sp_lcoords hc hk2) ?_
  rintro _ rfl
  simp [V_u_law_near_2_w]
  refine up_use0 (sp_lcoords hb hk) ?_
  rintro _ rfl
  simp [V_u_law_near_3_w]
  have er : rng 0 3 = [.int 0, .int 1, .int 2] := rfl
  rw [er, forL_c]
  simp
  refine lnear_step (i := 0) (v := cx b) (w := cx c) (by simp) (by simp) (by simp) ?_
  show forL _ _ _ _ _ _
  rw [forL_c]
  simp
  refine lnear_step (i := 1) (v := cs b) (w := cs c) (by simp) (by simp) (by simp) ?_
  show forL _ _ _ _ _ _
  rw [forL_c]
  simp
  refine lnear_step (i := 2) (v := cz b) (w := cz c) (by simp) (by simp) (by simp) ?_
  show forL _ _ _ _ _ _
  rw [forL_n]
  simp
  simp only [V_u_law_near_4_w]
  simp
  exact ⟨mul_ok (by omega) (by omega) (by omega) (by omega), div_ok (by omega) (by omega), rfl⟩
/-! drawing -/
theorem sp_motion : W_u_law_motion [.st] (fun d => ∃ m : Mo, d = m.e ∧ m.ok) fun _ => False := by
  simp [W_u_law_motion_w, V_u_law_motion_0_w]
  refine pick_r (-1) 1 (by simp) (by simp) fun s s0 s1 => ?_
  refine pick_r 3000 90000 (by simp) (by simp) fun b b0 b1 => ?_
  simp
  refine ⟨by omega, log_lit (by omega) (by omega), fun r r0 r1 => ?_⟩
  refine ⟨mul_ok (by omega) (by omega) (by omega) (by omega), ?_⟩
  simp [V_u_law_motion_1_w]
  intro z z0 z1
  refine pick_r 1 7 (by simp) (by simp) fun d d0 d1 => ?_
  have hs : s = -1 ∨ s = 0 ∨ s = 1 := by omega
  refine ⟨⟨z, s * (1 + r), d⟩, rfl, ?_⟩
  rcases hs with rfl | rfl | rfl <;> constructor <;> simp <;> omega
theorem sp_dterms (size : Int) (h0 : 0 ≤ size) (h1 : size ≤ 60000) : W_u_law_terms [.st, .int 2, .int size] (fun d => ∃ l : List Tm, d = tmE l ∧ l.length ≤ 2 ∧ ∀ t ∈ l, t.ok) fun _ => False := by
  simp [W_u_law_terms_w, V_u_law_terms_0_w]
  simp [V_u_law_terms_1_w]
  intro c c0 c1
  refine ⟨by omega, by omega, ?_⟩
  refine forL_inv (fun i ρ => ∃ (l : List Tm) (s : Sl), ρ = [.v .st, s, .v (.int size), .o (tmE l), .no] ∧ l.length ≤ i ∧ ∀ t ∈ l, t.ok) ⟨[], _, rfl, by simp, by simp⟩ ?_ ?_
  · rintro i x ρ nx hx ⟨l, s, rfl, hl, hk⟩ hn
    obtain ⟨hi, rfl⟩ := rngx_get hx
    simp [V_u_law_terms_L1_0_w]
    refine ⟨mul_ok (by omega) (by omega) (by omega) (by omega), by omega, log_lit (by omega) (by omega), fun r r0 r1 => ?_⟩
    refine up_use0 sp_motion ?_
    rintro _ ⟨m, rfl, hm⟩
    simp [Mo.e, tmE]
    refine ⟨by omega, ?_⟩
    simp [V_u_law_terms_L1_1_w]
    refine hn _ ⟨l ++ [⟨r - size, m⟩], .no, ?_, by simp; omega, fun t ht => ?_⟩
    · simp [tmE, Tm.e]
    · rcases List.mem_append.mp ht with z | z
      · exact hk t z
      · rw [List.mem_singleton.mp z]
        exact ⟨by show -10000000 ≤ r - size; omega, by show r - size ≤ 10000000; omega, hm⟩
  · rintro ρ ⟨l, s, rfl, hl, hk⟩
    rw [rngx_len] at hl
    simp only [V_u_law_terms_2_w]
    simp [tmE]
    exact ⟨l, rfl, by omega, hk⟩
theorem sp_dbody : W_u_law_body [.st] (fun d => ∃ b : Bd, d = b.e ∧ b.ok) fun _ => False := by
  simp [W_u_law_body_w]
  refine up_use0 sp_motion ?_
  rintro _ ⟨m, rfl, hm⟩
  refine up_use0 (sp_dterms 40000 (by omega) (by omega)) ?_
  rintro _ ⟨t, rfl, tl, ht⟩
  refine up_use0 (sp_dterms 60000 (by omega) (by omega)) ?_
  rintro _ ⟨l, rfl, ll, hl⟩
  exact ⟨⟨m, t, l⟩, rfl, hm, tl, ht, ll, hl⟩
theorem names_get (i : Nat) (h : i < 3) : ∃ x : Str, atI [D.str (Str.ofString "sun"), D.str (Str.ofString "moon"), D.str (Str.ofString "mars"), D.str (Str.ofString "a"), D.str (Str.ofString "longname")] (i : Int) = some (.str x) ∧ nms.take (i + 1) = nms.take i ++ [x] ∧ x ∉ nms.take i := by
  have : i = 0 ∨ i = 1 ∨ i = 2 := by omega
  rcases this with rfl | rfl | rfl
  · exact ⟨"sun", rfl, rfl, by decide +kernel⟩
  · exact ⟨"moon", rfl, rfl, by decide +kernel⟩
  · exact ⟨"mars", rfl, rfl, by decide +kernel⟩
theorem put_new (x : Str) (d : D) (bs : List (Str × Bd)) (h : x ∉ bs.map (·.1)) : putD (bsE bs) (.inr x) d = bsE bs ++ [(.inr x, d)] := by
  unfold putD
  rw [if_neg]
  intro e
  obtain ⟨p, hp, e⟩ := List.any_eq_true.mp e
  obtain ⟨q, hq, rfl⟩ := List.mem_map.mp hp
  have : (Sum.inr q.1 : Key) = .inr x := by simpa using e
  exact h (List.mem_map.mpr ⟨q, hq, Sum.inr.inj this⟩)
theorem sp_dsky (many : Int) (h0 : 2 ≤ many) (h1 : many ≤ 3) : W_u_law_sky [.st, .int many] (fun d => ∃ k : Sky, d = k.e ∧ k.ok) fun _ => False := by
  simp [W_u_law_sky_w, V_u_law_sky_0_w]
  simp [V_u_law_sky_1_w]
  simp [V_u_law_sky_2_w]
  refine ⟨by omega, by omega, ?_⟩
  refine forL_inv (fun i ρ => ∃ (bs : List (Str × Bd)) (s : Sl), ρ = [.v .st, s, .v (.lst [D.str (Str.ofString "sun"), D.str (Str.ofString "moon"), D.str (Str.ofString "mars"), D.str (Str.ofString "a"), D.str (Str.ofString "longname")]), .o (.dk (bsE bs)), .no, .no] ∧ bs.map (·.1) = nms.take i ∧ ∀ p ∈ bs, p.2.ok) ⟨[], _, rfl, rfl, by simp⟩ ?_ ?_
  · rintro i x ρ nx hx ⟨bs, s, rfl, hb, hk⟩ hn
    obtain ⟨hi, rfl⟩ := rngx_get hx
    obtain ⟨x, x1, x2, x3⟩ := names_get i (by omega)
    have lb : bs.length ≤ 3 := by
      have := congrArg List.length hb
      rw [List.length_map, List.length_take] at this
      have e3 : nms.length = 3 := rfl
      omega
    simp [V_u_law_sky_L1_0_w]
    refine up_use0 sp_dbody ?_
    rintro _ ⟨b, rfl, hbk⟩
    rw [x1]
    simp
    refine ⟨by unfold bsE; rw [List.length_map]; omega, ?_⟩
    rw [put_new x b.e bs (by rw [hb]; exact x3)]
    simp [V_u_law_sky_L1_1_w]
    refine hn _ ⟨bs ++ [(x, b)], .no, ?_, ?_, fun p hp => ?_⟩
    · simp [bsE]
    · rw [List.map_append, hb, x2]
      rfl
    · rcases List.mem_append.mp hp with z | z
      · exact hk p z
      · rw [List.mem_singleton.mp z]
        exact hbk
  · rintro ρ ⟨bs, s, rfl, hb, hk⟩
    rw [rngx_len] at hb
    have lb : bs.length = many.toNat := by
      have := congrArg List.length hb
      rw [List.length_map, List.length_take] at this
      have e3 : nms.length = 3 := rfl
      omega
    simp only [V_u_law_sky_3_w]
    simp
    intro z z0 z1
    refine pick_r 0 324000 (by simp) (by simp; omega) fun t t0 t1 => ?_
    have em : mergeD [((.inr (Str.ofString "bodies") : Key), D.dk (bsE bs)), (.inr (Str.ofString "tilt"), .int t)] = [(.inr (Str.ofString "bodies"), D.dk (bsE bs)), (.inr (Str.ofString "tilt"), .int t)] := rfl
    rw [em]
    simp [V_u_law_sky_4_w]
    refine up_use0 sp_motion ?_
    rintro _ ⟨m, rfl, hm⟩
    have ep : putD [((.inr (Str.ofString "bodies") : Key), D.dk (bsE bs)), (.inr (Str.ofString "tilt"), .int t)] (.inr (Str.ofString "turning")) m.e = [(.inr (Str.ofString "bodies"), D.dk (bsE bs)), (.inr (Str.ofString "tilt"), .int t), (.inr (Str.ofString "turning"), m.e)] := rfl
    rw [ep]
    simp only [V_u_law_sky_5_w]
    simp
    refine ⟨⟨bs, t, m⟩, rfl, ?_, ?_, ?_, hk, t0, t1, hm⟩
    · show bs.map (·.1) = nms.take bs.length
      rw [hb, lb]
    · show 2 ≤ bs.length
      omega
    · show bs.length ≤ 3
      omega
theorem sp_dplace : W_u_law_place [.st] (fun d => ∃ p0 p1 : Int, d = .tup [.int p0, .int p1] ∧ -10000000 ≤ p0 ∧ p0 ≤ 10000000 ∧ -10000000 ≤ p1 ∧ p1 ≤ 10000000) fun _ => False := by
  simp [W_u_law_place_w, V_u_law_place_0_w]
  intro r r0 r1
  refine pick_r (-324000) 324001 (by simp) (by simp; omega) fun s s0 s1 => ?_
  simp [V_u_law_place_1_w]
  intro z z0 z1
  exact ⟨_, _, ⟨rfl, rfl⟩, by omega, by omega, by omega, by omega⟩
/-! expressions that are right -/
mutual
theorem okD_up : ∀ (n : Nat) (d : D), okD n d = true → okD (n + 1) d = true
  | _, .non, _ => by simp [okD]
  | _, .bl _, _ => by simp [okD]
  | _, .int _, _ => by simp [okD]
  | _, .str _, h => by simpa [okD] using h
  | n + 1, .tup l, h => by
    simp only [okD] at h ⊢
    exact okDs_up n l h
  | n + 1, .lst l, h => by
    simp only [okD] at h ⊢
    exact okDs_up n l h
  | 0, .tup _, h => by simp [okD] at h
  | 0, .lst _, h => by simp [okD] at h
  | _, .dk _, h => by simp [okD] at h
  | _, .dt _, h => by simp [okD] at h
  | _, .ins _ _, h => by simp [okD] at h
  | _, .st, h => by simp [okD] at h
  | _, .scr _, h => by simp [okD] at h
  | _, .fn _, h => by simp [okD] at h
theorem okDs_up : ∀ (n : Nat) (l : List D), okDs n l = true → okDs (n + 1) l = true
  | _, [], _ => by simp [okDs]
  | n, d :: l, h => by
    simp only [okDs, Bool.and_eq_true] at h ⊢
    exact ⟨okD_up n d h.1, okDs_up n l h.2⟩
end
theorem good_up : ∀ (n : Nat) (d : D) (s : Nat), good n d s = true → good (n + 1) d s = true := by
  intro n
  induction n with
  | zero => intro d s h; simp [good] at h
  | succ n ih =>
    intro d s h
    cases d with
    | tup xs =>
      match xs, h with
      | [], h => simp [good] at h
      | .str w :: r, h =>
        simp only [good] at h ⊢
        cases e : form w r.length with
        | none => rw [e] at h; exact h
        | some p =>
          obtain ⟨c, ls⟩ := p
          rw [e] at h
          simp only [Bool.and_eq_true, List.all_eq_true] at h ⊢
          refine ⟨h.1, fun p hp => ?_⟩
          have := h.2 p hp
          by_cases c1 : p.2 = 110
          · rw [if_pos c1] at this ⊢
            exact this
          · rw [if_neg c1] at this ⊢
            by_cases c2 : p.2 = 100
            · rw [if_pos c2] at this ⊢
              exact this
            · rw [if_neg c2] at this ⊢
              exact ih _ _ this
      | .non :: r, h => simp [good] at h
      | .bl _ :: r, h => simp [good] at h
      | .int _ :: r, h => simp [good] at h
      | .tup _ :: r, h => simp [good] at h
      | .lst _ :: r, h => simp [good] at h
      | .dk _ :: r, h => simp [good] at h
      | .dt _ :: r, h => simp [good] at h
      | .ins _ _ :: r, h => simp [good] at h
      | .st :: r, h => simp [good] at h
      | .scr _ :: r, h => simp [good] at h
      | .fn _ :: r, h => simp [good] at h
    | _ => simp [good] at h
/-- a right expression, at most so deep -/
def GG (n : Nat) (s : Nat) (d : D) : Prop := Th 20 d ∧ good n d s = true ∧ okD n d = true
theorem GG.up {n s : Nat} {d : D} (h : GG n s d) : GG (n + 1) s d := ⟨h.1, good_up _ _ _ h.2.1, okD_up _ _ h.2.2⟩
theorem GG.le {n m s : Nat} {d : D} (h : GG n s d) (l : n ≤ m) : GG m s d := by
  obtain ⟨k, rfl⟩ : ∃ k, m = n + k := ⟨m - n, by omega⟩
  clear l
  induction k with
  | zero => exact h
  | succ k ih => exact ih.up
theorem good_of {n s : Nat} {w : Str} {r : List D} {ls : List Nat} (hf : form w r.length = some (s, ls)) (h0 : r ≠ []) (hl : ls.length = r.length) (h : ∀ p ∈ r.zip ls, fitB n p = true) : good (n + 1) (.tup (.str w :: r)) s = true := by
  simp only [good, hf, hl, decide_true, Bool.true_and, Bool.and_true]
  rw [Bool.and_eq_true]
  refine ⟨?_, List.all_eq_true.mpr h⟩
  cases r with
  | nil => exact absurd rfl h0
  | cons => rfl
theorem gg_of {n s : Nat} {w : String} {r : List D} {ls : List Nat} (hf : form (Str.ofString w) r.length = some (s, ls)) (h0 : r ≠ []) (hl : ls.length = r.length) (h20 : r.length ≤ 19) (h : ∀ p ∈ r.zip ls, fitB n p = true) (ht : ∀ x ∈ r, Th 20 x) (ho : ∀ x ∈ r, okD n x = true) : GG (n + 1) s (.tup (.str (Str.ofString w) :: r)) := by
  have okw : okD 0 (.str (Str.ofString w)) = true := ok_lit
  rw [ok_str] at okw
  refine ⟨.tup _ (by rw [List.length_cons]; omega) fun x hx => ?_, good_of hf h0 hl h, ?_⟩
  · rcases List.mem_cons.mp hx with rfl | z
    · exact .str _ okw
    · exact ht x z
  · simp only [okD, okDs, Bool.and_eq_true]
    refine ⟨okw, ?_⟩
    clear hf h0 hl h20 h ht okw
    induction r with
    | nil => simp [okDs]
    | cons x r ih =>
      simp only [okDs, Bool.and_eq_true]
      exact ⟨ho x List.mem_cons_self, ih fun y hy => ho y (List.mem_cons_of_mem _ hy)⟩
theorem rg {i lo : Int} (h0 : lo ≤ i) (h1 : i ≤ 1000000000000) : ranged (.int i) lo = true := by simp [ranged, h0, h1]
theorem fit_n {n : Nat} {i : Int} (h0 : -1000000000000 ≤ i) (h1 : i ≤ 1000000000000) : fitB n (.int i, 110) = true := by unfold fitB; rw [if_pos rfl]; exact rg h0 h1
theorem fit_d {n : Nat} {i : Int} (h0 : 1 ≤ i) (h1 : i ≤ 1000000000000) : fitB n (.int i, 100) = true := by unfold fitB; rw [if_neg (show ¬ (100 : Nat) = 110 by decide), if_pos rfl]; exact rg h0 h1
theorem fit_q {n : Nat} {d : D} (h : GG n 113 d) : fitB n (d, 113) = true := by unfold fitB; rw [if_neg (show ¬ (113 : Nat) = 110 by decide), if_neg (show ¬ (113 : Nat) = 100 by decide)]; exact h.2.1
theorem fit_a {n : Nat} {d : D} (h : GG n 97 d) : fitB n (d, 97) = true := by unfold fitB; rw [if_neg (show ¬ (97 : Nat) = 110 by decide), if_neg (show ¬ (97 : Nat) = 100 by decide)]; exact h.2.1
theorem th_i {m : Nat} (i : Int) : Th m (.int i) := .int i
theorem q_num {n : Nat} {i : Int} (h0 : -1000000000000 ≤ i) (h1 : i ≤ 1000000000000) : GG (n + 1) 113 (.tup [.str "number", .int i]) :=
  gg_of (w := "number") (ls := [110]) (show form (Str.ofString "number") 1 = some (113, [110]) by decide +kernel) (by simp) rfl (by simp) (by simp; exact fit_n h0 h1) (by simp; exact .int i) (by simp)
theorem a_turn {n : Nat} {s m d : Int} (h0 : -1000000000000 ≤ s) (h1 : s ≤ 1000000000000) (h2 : -1000000000000 ≤ m) (h3 : m ≤ 1000000000000) (h4 : 1 ≤ d) (h5 : d ≤ 1000000000000) : GG (n + 1) 97 (.tup [.str "turning", .int s, .int m, .int d]) :=
  gg_of (w := "turning") (ls := [110, 110, 100]) (show form (Str.ofString "turning") 3 = some (97, [110, 110, 100]) by decide +kernel) (by simp) rfl (by simp) (by simp; exact ⟨fit_n h0 h1, fit_n h2 h3, fit_d h4 h5⟩) (by simp; exact ⟨.int _, .int _, .int _⟩) (by simp)
theorem a_moved {n : Nat} {a q : D} (ha : GG n 97 a) (hq : GG n 113 q) : GG (n + 1) 97 (.tup [.str "moved", a, q]) :=
  gg_of (w := "moved") (ls := [97, 113]) (show form (Str.ofString "moved") 2 = some (97, [97, 113]) by decide +kernel) (by simp) rfl (by simp) (by simp; exact ⟨fit_a ha, fit_q hq⟩) (by simp; exact ⟨ha.1, hq.1⟩) (by simp; exact ⟨ha.2.2, hq.2.2⟩)
theorem a_minus {n : Nat} {a q : D} (ha : GG n 97 a) (hq : GG n 97 q) : GG (n + 1) 97 (.tup [.str "minus", a, q]) :=
  gg_of (w := "minus") (ls := [97, 97]) (show form (Str.ofString "minus") 2 = some (97, [97, 97]) by decide +kernel) (by simp) rfl (by simp) (by simp; exact ⟨fit_a ha, fit_a hq⟩) (by simp; exact ⟨ha.1, hq.1⟩) (by simp; exact ⟨ha.2.2, hq.2.2⟩)
theorem q_wave {n : Nat} {a : D} (ha : GG n 97 a) : GG (n + 1) 113 (wvq a) :=
  gg_of (w := "wave") (ls := [97]) (show form (Str.ofString "wave") 1 = some (113, [97]) by decide +kernel) (by simp) rfl (by simp) (by simp; exact fit_a ha) (by simp; exact ha.1) (by simp; exact ha.2.2)
theorem q_share {n : Nat} {q : D} {k d : Int} (hq : GG n 113 q) (h0 : -1000000000000 ≤ k) (h1 : k ≤ 1000000000000) (h4 : 1 ≤ d) (h5 : d ≤ 1000000000000) : GG (n + 1) 113 (.tup [.str "share", q, .int k, .int d]) :=
  gg_of (w := "share") (ls := [113, 110, 100]) (show form (Str.ofString "share") 3 = some (113, [113, 110, 100]) by decide +kernel) (by simp) rfl (by simp) (by simp; exact ⟨fit_q hq, fit_n h0 h1, fit_d h4 h5⟩) (by simp; exact ⟨hq.1, .int _, .int _⟩) (by simp; exact hq.2.2)
theorem q_prd {n : Nat} {v w : D} (hv : GG n 113 v) (hw : GG n 113 w) : GG (n + 1) 113 (prd v w) :=
  gg_of (w := "product") (ls := [113, 113, 100]) (show form (Str.ofString "product") 3 = some (113, [113, 113, 100]) by decide +kernel) (by simp) rfl (by simp) (by simp; exact ⟨fit_q hv, fit_q hw, fit_d (by omega) (by omega)⟩) (by simp; exact ⟨hv.1, hw.1, .int _⟩) (by simp; exact ⟨hv.2.2, hw.2.2⟩)
theorem q_sum {n : Nat} {l : List D} (h0 : l ≠ []) (h19 : l.length ≤ 19) (h : ∀ x ∈ l, GG n 113 x) : GG (n + 1) 113 (.tup (.str "sum" :: l)) :=
  gg_of (w := "sum") (ls := List.replicate l.length 113) (by unfold form; rw [if_pos rfl]) h0 (by simp) h19 (fun p hp => by
    obtain ⟨h1, h2⟩ := List.of_mem_zip hp
    have e := (List.mem_replicate.mp h2).2
    obtain ⟨x, c⟩ := p
    have e : c = 113 := e
    subst e
    exact fit_q (h x h1)) (fun x hx => (h x hx).1) (fun x hx => (h x hx).2.2)
theorem wv_bd (x : Int) : -1000000 ≤ Wv x ∧ Wv x ≤ 1000000 := by
  have := Wv_top x
  unfold ab at this
  omega
theorem g_tqe {t : Tm} (h : t.ok) : GG 3 113 (tqe t) := by
  have m := h.m
  exact q_share (q_wave (n := 1) (a_turn (n := 0) (by have := m.s0; omega) (by have := m.s1; omega) (by have := m.n0; omega) (by have := m.n1; omega) m.d0 (by have := m.d1; omega))) (by have := h.a0; omega) (by have := h.a1; omega) (by omega) (by omega)
theorem g_tq {l : List Tm} (hl : l.length ≤ 2) (h : ∀ t ∈ l, t.ok) : GG 4 113 (tq l) := by
  unfold tq
  by_cases e : l = []
  · rw [if_pos e]
    exact (q_num (n := 0) (by omega) (by omega)).le (by omega)
  · rw [if_neg e]
    refine q_sum (by simpa using e) (by simp; omega) fun x hx => ?_
    obtain ⟨t, ht, rfl⟩ := List.mem_map.mp hx
    exact g_tqe (h t ht)
theorem g_turnM {n : Nat} {m : Mo} (m' : m.ok) (z : Int) (z0 : -10000000 ≤ z) (z1 : z ≤ 10000000) : GG (n + 1) 97 (.tup [.str "turning", .int (m.s + z), .int m.n, .int m.d]) :=
  a_turn (by have := m'.s0; omega) (by have := m'.s1; omega) (by have := m'.n0; omega) (by have := m'.n1; omega) m'.d0 (by have := m'.d1; omega)
theorem g_lon {b : Bd} (h : b.ok) : GG 5 97 (lon b) := by
  have t := g_turnM (n := 3) h.m 0 (by omega) (by omega)
  rw [Int.add_zero] at t
  exact a_moved t (g_tq h.tl h.t)
theorem g_abv {b : Bd} (h : b.ok) : GG 5 97 (abv b) := a_moved (a_turn (by omega) (by omega) (by omega) (by omega) (by omega) (by omega)) (g_tq h.ll h.l)
theorem g_csq {n : Nat} {a : D} (h : GG (n + 1) 97 a) : GG (n + 3) 113 (csq a) := q_wave (n := n + 2) (a_moved h (q_num (by omega) (by omega)))
theorem g_cx {b : Bd} (h : b.ok) : GG 8 113 (cx b) := q_prd (g_csq (n := 4) (g_abv h)) (g_csq (n := 4) (g_lon h))
theorem g_cs {b : Bd} (h : b.ok) : GG 8 113 (cs b) := q_prd (g_csq (n := 4) (g_abv h)) ((q_wave (g_lon h)).le (by omega))
theorem g_cz {b : Bd} (h : b.ok) : GG 8 113 (cz b) := (q_wave (g_abv h)).le (by omega)
theorem g_shr {n : Nat} {v : D} {k : Int} (h : GG n 113 v) (h0 : -1000000 ≤ k) (h1 : k ≤ 1000000) : GG (n + 1) 113 (shr v k) := q_share h (by omega) (by omega) (by omega) (by omega)
theorem g_ngt {n : Nat} {v : D} (h : GG n 113 v) : GG (n + 1) 113 (ngt v) := q_share h (by omega) (by omega) (by omega) (by omega)
theorem g_sm2 {n : Nat} {v w : D} (h : GG n 113 v) (g : GG n 113 w) : GG (n + 1) 113 (sm2 v w) := q_sum (l := [v, w]) (by simp) (by simp) (by simp; exact ⟨h, g⟩)
theorem g_ey (k : Sky) {b : Bd} (h : b.ok) : GG 10 113 (ey k b) := by
  have w1 := wv_bd (k.tilt + 324000)
  have w2 := wv_bd k.tilt
  exact g_sm2 (g_shr (g_cs h) (by omega) (by omega)) (g_shr (g_cz h) (by omega) (by omega))
theorem g_ez (k : Sky) {b : Bd} (h : b.ok) : GG 10 113 (ez k b) := by
  have w1 := wv_bd (k.tilt + 324000)
  have w2 := wv_bd k.tilt
  exact g_sm2 (g_shr (g_cs h) (by omega) (by omega)) (g_shr (g_cz h) (by omega) (by omega))
theorem g_trn {n : Nat} {k : Sky} (hk : k.ok) {p1 : Int} (z0 : -10000000 ≤ p1) (z1 : p1 ≤ 10000000) : GG (n + 1) 97 (trn k p1) := g_turnM hk.turn p1 z0 z1
theorem g_alt {k : Sky} (hk : k.ok) {b : Bd} (h : b.ok) {p0 p1 : Int} (z0 : -10000000 ≤ p1) (z1 : p1 ≤ 10000000) : GG 15 113 (alt k p0 p1 b) := by
  have w1 := wv_bd (p0 + 324000)
  have w2 := wv_bd p0
  refine q_sum (n := 14) (l := [_, _, _]) (by simp) (by simp) ?_
  simp
  refine ⟨?_, ?_, ?_⟩
  · exact (g_shr (q_prd ((g_cx h).le (m := 10) (by omega)) (g_csq (n := 7) (g_trn hk z0 z1))) (by omega) (by omega)).le (by omega)
  · exact (g_shr (q_prd (g_ey k h) (q_wave (n := 9) (g_trn hk z0 z1))) (by omega) (by omega)).le (by omega)
  · exact (g_shr (g_ez k h) (by omega) (by omega)).le (by omega)
theorem g_sqr {n : Nat} {v w : D} (h : GG n 113 v) (g : GG n 113 w) : GG (n + 3) 113 (sqr v w) := q_prd (g_sm2 h.up (g_ngt g)) (g_sm2 h.up (g_ngt g))
theorem g_ner {b c : Bd} (h : b.ok) (g : c.ok) {l : Int} (l0 : 0 ≤ l) (l1 : l ≤ 3000000) : GG 15 113 (ner l b c) := by
  have ll : 0 ≤ l * l := Int.mul_nonneg l0 l0
  have l2 : l * l ≤ 3000000 * 3000000 := Int.mul_le_mul l1 l1 l0 (by omega)
  refine (g_sm2 (n := 13) (q_num (by omega) (by omega)) (g_ngt (n := 12) (q_sum (n := 11) (l := [_, _, _]) (by simp) (by simp) ?_))).le (by omega)
  simp
  exact ⟨g_sqr (g_cx h) (g_cx g), g_sqr (g_cs h) (g_cs g), g_sqr (g_cz h) (g_cz g)⟩
theorem g_est {k : Sky} (hk : k.ok) {b : Bd} (h : b.ok) {p1 : Int} (z0 : -10000000 ≤ p1) (z1 : p1 ≤ 10000000) : GG 15 113 (est k p1 b) :=
  (g_sm2 (n := 12) ((q_prd (g_ey k h) (g_csq (n := 7) (g_trn hk z0 z1))).le (by omega)) (g_ngt (n := 11) (q_prd (n := 10) ((g_cx h).le (by omega)) (q_wave (n := 9) (g_trn hk z0 z1))))).le (by omega)
theorem g_sth {k : Sky} (hk : k.ok) {b : Bd} (h : b.ok) {p1 : Int} (z0 : -10000000 ≤ p1) (z1 : p1 ≤ 10000000) : GG 15 113 (sth k p1 b) :=
  (g_sm2 (n := 11) (q_prd (n := 10) ((g_cx h).le (by omega)) (g_csq (n := 7) (g_trn hk z0 z1))) (q_prd (g_ey k h) (q_wave (n := 9) (g_trn hk z0 z1)))).le (by omega)
/-! the sky's text -/
theorem log_s {i : Int} (h0 : -10000000 ≤ i) (h1 : i ≤ 10000000) : i.natAbs.log2 < 1920 := by
  by_cases z : i.natAbs = 0
  · rw [z]; decide
  · exact (Nat.log2_lt z).mpr (Nat.lt_of_lt_of_le (show i.natAbs < 2 ^ 30 by omega) (Nat.pow_le_pow_right (by decide) (by decide)))
theorem mo_r {m : Mo} (h : m.ok) (n : Nat) : okR (n + 1) m.e = true ∧ okV m.e = true ∧ wtR m.e ≤ 6000 := by
  have a := log_s h.s0 h.s1
  have b := log_s h.n0 h.n1
  have c := log_s (show -10000000 ≤ m.d by have := h.d0; omega) h.d1
  refine ⟨by simp [Mo.e, okR, okRs, a, b, c], by simp [Mo.e, okV, okVs], by simp [Mo.e, wtR, wtRs]⟩
theorem tm_r {t : Tm} (h : t.ok) (n : Nat) : okR (n + 1) t.e = true ∧ okV t.e = true ∧ wtR t.e ≤ 8000 := by
  have a := log_s h.m.s0 h.m.s1
  have b := log_s h.m.n0 h.m.n1
  have c := log_s (show -10000000 ≤ t.m.d by have := h.m.d0; omega) h.m.d1
  have d := log_s h.a0 h.a1
  refine ⟨by simp [Tm.e, okR, okRs, a, b, c, d], by simp [Tm.e, okV, okVs], by simp [Tm.e, wtR, wtRs]⟩
theorem tms_r : ∀ {l : List Tm} (n : Nat), (∀ t ∈ l, t.ok) → okRs (n + 1) (l.map Tm.e) = true ∧ okVs (l.map Tm.e) = true ∧ wtRs (l.map Tm.e) ≤ l.length * 8002
  | [], _, _ => by simp [okRs, okVs, wtRs]
  | t :: l, n, h => by
    obtain ⟨a, b, c⟩ := tm_r (h t List.mem_cons_self) n
    obtain ⟨a2, b2, c2⟩ := tms_r n fun x hx => h x (List.mem_cons_of_mem _ hx)
    refine ⟨by simp [okRs, a, a2], by simp [okVs, b, b2], ?_⟩
    simp only [List.map_cons, wtRs, List.length_cons]
    omega
theorem tmE_r {l : List Tm} (n : Nat) (hl : l.length ≤ 2) (h : ∀ t ∈ l, t.ok) : okR (n + 2) (tmE l) = true ∧ okV (tmE l) = true ∧ wtR (tmE l) ≤ 17000 := by
  obtain ⟨a, b, c⟩ := tms_r n h
  refine ⟨by simpa [tmE, okR] using a, by simpa [tmE, okV] using b, ?_⟩
  simp only [tmE, wtR]
  omega
theorem keys_r : okSg "motion" = true ∧ okSg "terms" = true ∧ okSg "latitude" = true ∧ okSg "bodies" = true ∧ okSg "tilt" = true ∧ okSg "turning" = true := by decide +kernel
theorem lens_r : (reprText "motion").length ≤ 20 ∧ (reprText "terms").length ≤ 20 ∧ (reprText "latitude").length ≤ 20 ∧ (reprText "bodies").length ≤ 20 ∧ (reprText "tilt").length ≤ 20 ∧ (reprText "turning").length ≤ 20 := by decide +kernel
theorem nms_r : ∀ x ∈ nms, okSg x = true ∧ (reprText x).length ≤ 20 := by decide +kernel
theorem bd_r {b : Bd} (h : b.ok) (n : Nat) : okR (n + 3) b.e = true ∧ okV b.e = true ∧ wtR b.e ≤ 50000 := by
  obtain ⟨a1, b1, c1⟩ := mo_r h.m (n + 1)
  obtain ⟨a2, b2, c2⟩ := tmE_r n h.tl h.t
  obtain ⟨a3, b3, c3⟩ := tmE_r n h.ll h.l
  obtain ⟨k1, k2, k3, _⟩ := keys_r
  obtain ⟨l1, l2, l3, _⟩ := lens_r
  refine ⟨by simp [Bd.e, okR, okRk, okKey, a1, a2, a3], by simp [Bd.e, okV, okVk, b1, b2, b3, k1, k2, k3], ?_⟩
  simp only [Bd.e, wtR, wtRk]
  omega
theorem bs_r : ∀ {bs : List (Str × Bd)} (n : Nat), (∀ p ∈ bs, p.2.ok ∧ p.1 ∈ nms) → okRk (n + 3) (bsE bs) = true ∧ okVk (bsE bs) = true ∧ wtRk (bsE bs) ≤ bs.length * 51000
  | [], _, _ => by simp [bsE, okRk, okVk, wtRk]
  | p :: bs, n, h => by
    obtain ⟨hp, hn⟩ := h p List.mem_cons_self
    obtain ⟨a, b, c⟩ := bd_r hp n
    obtain ⟨a2, b2, c2⟩ := bs_r (bs := bs) n fun x hx => h x (List.mem_cons_of_mem _ hx)
    obtain ⟨k, l⟩ := nms_r _ hn
    refine ⟨?_, ?_, ?_⟩
    · show okRk (n + 3) ((.inr p.1, p.2.e) :: bsE bs) = true
      simp [okRk, okKey, a, a2]
    · show okVk ((.inr p.1, p.2.e) :: bsE bs) = true
      simp [okVk, k, b, b2]
    · show wtRk ((.inr p.1, p.2.e) :: bsE bs) ≤ _
      simp only [wtRk, List.length_cons]
      omega
theorem Sky.ok.mem {k : Sky} (h : k.ok) {x : Str} (hx : x ∈ k.bs.map (·.1)) : x ∈ nms := by
  rw [h.nm] at hx
  exact List.mem_of_mem_take hx
theorem sky_r {k : Sky} (h : k.ok) {Q : DK} (q : okD 60 (.str (reprD k.e)) = true → Q (.str (reprD k.e))) : fRepr [k.e] Q := by
  obtain ⟨a, b, c⟩ := bs_r (bs := k.bs) 15 fun p hp => ⟨h.b p hp, h.mem (List.mem_map.mpr ⟨p, hp, rfl⟩)⟩
  obtain ⟨a2, b2, c2⟩ := mo_r h.turn 18
  have t := log_s (show -10000000 ≤ k.tilt by have := h.t0; omega) (show k.tilt ≤ 10000000 by have := h.t1; omega)
  obtain ⟨_, _, _, k1, k2, k3⟩ := keys_r
  obtain ⟨_, _, _, l1, l2, l3⟩ := lens_r
  have := h.len2
  refine fRepr_ok rfl ?_ ?_ ?_ q
  · simp [Sky.e, okR, okRk, okKey, a, a2, t]
  · simp [Sky.e, okV, okVk, k1, k2, k3, b, b2]
  · simp only [Sky.e, wtR, wtRk]
    omega
/-! the names -/
theorem skeys_bs : ∀ bs : List (Str × Bd), skeys (bsE bs) = some (bs.map (·.1))
  | [] => rfl
  | p :: bs => by
    show (skeys (bsE bs)).map (p.1 :: ·) = _
    rw [skeys_bs bs]
    rfl
theorem nms_ok : ∀ x ∈ nms, okD 60 (.str x) = true ∧ x.length ≤ 1000 := by decide +kernel
theorem look_some : ∀ {bs : List (Str × Bd)} {x : Str}, x ∈ bs.map (·.1) → ∃ b, bs.lookup x = some b ∧ (x, b) ∈ bs
  | p :: bs, x, h => by
    obtain ⟨y, b⟩ := p
    rw [List.lookup_cons]
    by_cases e : x = y
    · subst e
      simp
    · have e' : (x == y) = false := beq_false_of_ne e
      rw [e']
      rcases List.mem_cons.mp h with z | z
      · exact absurd z e
      · obtain ⟨b', h1, h2⟩ := look_some z
        exact ⟨b', h1, List.mem_cons_of_mem _ h2⟩
theorem look_none : ∀ {bs : List (Str × Bd)} {x : Str}, x ∉ bs.map (·.1) → bs.lookup x = none
  | [], _, _ => rfl
  | p :: bs, x, h => by
    obtain ⟨y, b⟩ := p
    rw [List.lookup_cons]
    have e : x ≠ y := fun z => h (z ▸ List.mem_cons_self)
    rw [beq_false_of_ne e]
    exact look_none fun z => h (List.mem_cons_of_mem _ z)
theorem look_odd {k : Sky} (h : k.ok) {x : Str} (hx : x ∉ nms) : k.bs.lookup x = none := look_none fun z => hx (h.mem z)
structure At (k : Sky) (x : Str) (b : Bd) : Prop where
  ok : okD 60 (.str x) = true
  len : x.length ≤ 1000
  look : k.bs.lookup x = some b
  b : b.ok
theorem at_of {k : Sky} (h : k.ok) {x : Str} (hx : x ∈ k.bs.map (·.1)) : ∃ b, At k x b := by
  obtain ⟨b, h1, h2⟩ := look_some hx
  obtain ⟨o, l⟩ := nms_ok x (h.mem hx)
  exact ⟨b, o, l, h1, h.b _ h2⟩
theorem other {k : Sky} (h : k.ok) (x : Str) : ∃ y ∈ k.bs.map (·.1), y ≠ x := by
  have l := h.len
  have e : k.bs.map (·.1) = nms.take k.bs.length := h.nm
  have m1 : Str.ofString "sun" ∈ nms.take k.bs.length := by
    obtain ⟨j, hj⟩ : ∃ j, k.bs.length = j + 2 := ⟨k.bs.length - 2, by omega⟩
    rw [hj]
    exact List.mem_cons_self
  have m2 : Str.ofString "moon" ∈ nms.take k.bs.length := by
    obtain ⟨j, hj⟩ : ∃ j, k.bs.length = j + 2 := ⟨k.bs.length - 2, by omega⟩
    rw [hj]
    exact List.mem_cons_of_mem _ List.mem_cons_self
  by_cases c : Str.ofString "sun" = x
  · exact ⟨"moon", by rw [e]; exact m2, by rw [← c]; decide +kernel⟩
  · exact ⟨"sun", by rw [e]; exact m1, c⟩
/-! the law -/
theorem up_q {x : D} (h : GG 20 113 x) {Q : DK} {E : Err → Prop} (q : Q (.bl true)) : up W_is_quantity [x] Q E := by
  refine up_use0 (R := fun d => d = .bl true) ?_ fun _ z => z ▸ q
  simp [W_is_quantity_w, lit_q]
  exact up_gen (n := 41) (by omega) (sp_expr (by omega) 20 (by omega) x h.1 113 (.inl rfl)) fun d z => by rw [z, h.2.1]
theorem up_a {x : D} (h : GG 20 97 x) {Q : DK} {E : Err → Prop} (q : Q (.bl true)) : up W_is_angle [x] Q E := by
  refine up_use0 (R := fun d => d = .bl true) ?_ fun _ z => z ▸ q
  simp [W_is_angle_w, lit_a]
  exact up_gen (n := 41) (by omega) (sp_expr (by omega) 20 (by omega) x h.1 97 (.inr rfl)) fun d z => by rw [z, h.2.1]
theorem GG.o {n s : Nat} (l : n ≤ 60) {d : D} (h : GG n s d) : okD 60 d = true := (h.le l).2.2
theorem eq_self {d : D} (h : okD 60 d = true) : eqD d d = true := eqD_self 60 d h
def RefT (k : Sky) (i : Int) (x y z : Str) : Prop := (k.bs.lookup x = none ∧ z = x) ∨ ((i = 2 ∨ i = 5) ∧ (∃ b, At k x b) ∧ k.bs.lookup y = none ∧ z = y)
theorem sp_ref {k : Sky} {i : Int} (i0 : 0 ≤ i) (i1 : i < 6) {x y z : Str} (p : D) (okx : okD 60 (.str x) = true) (hx : x.length ≤ 1000) (oky : okD 60 (.str y) = true) (hy : y.length ≤ 1000)
    (h : RefT k i x y z) : W_u_law_refused [.int i, k.e, p, .str x, .str y] (fun d => d = .tup [.str "body", .str z]) fun _ => False := by
  have two : (k.bs.lookup x = none ∧ z = x) ∨ ((k.bs.lookup x).isSome = true ∧ k.bs.lookup y = none ∧ z = y) := by
    rcases h with h | ⟨_, ⟨b, hb⟩, c, d⟩
    · exact .inl h
    · exact .inr ⟨by rw [hb.look]; rfl, c, d⟩
  have one : i ≠ 2 → i ≠ 5 → k.bs.lookup x = none ∧ z = x := fun a b => by
    rcases h with h | ⟨c, _⟩
    · exact h
    · rcases c with c | c
      · exact absurd c a
      · exact absurd c b
  simp [W_u_law_refused_w, V_u_law_refused_0_w]
  have i' : i = 0 ∨ i = 1 ∨ i = 2 ∨ i = 3 ∨ i = 4 ∨ i = 5 := by omega
  rcases i' with rfl | rfl | rfl | rfl | rfl | rfl
  · obtain ⟨a, rfl⟩ := one (by decide) (by decide)
    simp
    refine up_use (sp_lon_bad okx hx a) (fun _ z => z.elim) fun e z => ?_
    subst z
    simp [bad]
  · obtain ⟨a, rfl⟩ := one (by decide) (by decide)
    simp
    refine up_use (sp_lat_bad okx hx a) (fun _ z => z.elim) fun e z => ?_
    subst z
    simp [bad]
  · simp
    rcases h with ⟨a, rfl⟩ | ⟨_, ⟨b, hb⟩, c, rfl⟩
    · refine up_use (sp_elong_bad (.str y) okx hx a) (fun _ z => z.elim) fun e z => ?_
      subst z
      simp [bad]
    · refine up_use (sp_elong_bad2 okx hb.look hb.b oky hy c) (fun _ z => z.elim) fun e z => ?_
      subst z
      simp [bad]
  · obtain ⟨a, rfl⟩ := one (by decide) (by decide)
    simp
    refine up_use (sp_alt_bad okx hx a p) (fun _ z => z.elim) fun e z => ?_
    subst z
    simp [bad]
  · obtain ⟨a, rfl⟩ := one (by decide) (by decide)
    simp
    refine up_use (sp_east_bad okx hx a p) (fun _ z => z.elim) fun e z => ?_
    subst z
    simp [bad]
  · simp
    refine up_use (sp_near_bad (.int 5) okx hx oky hy two) (fun _ z => z.elim) fun e z => ?_
    subst z
    simp [bad]
theorem odd_ok : okD 60 (.str (Str.ofString "none")) = true ∧ okD 60 (.str (Str.ofString "other")) = true ∧ (Str.ofString "none").length ≤ 1000 ∧ (Str.ofString "other").length ≤ 1000 ∧ Str.ofString "none" ∉ nms ∧ Str.ofString "other" ∉ nms := by decide +kernel
theorem ix_e {k : Sky} {Q : DK} : oIx k.e (.str (Str.ofString "bodies")) Q ↔ Q (.dk (bsE k.bs)) := ⟨fun h => h, fun h => h⟩
theorem ix_b {k : Sky} {x : Str} {b : Bd} (h : At k x b) {Q : DK} : oIx (.dk (bsE k.bs)) (.str x) Q ↔ Q b.e := by
  rw [ix_dk, look_bs, h.look]
  exact ⟨fun h => h, fun h => h⟩
theorem ix_t {b : Bd} {Q : DK} : oIx b.e (.str (Str.ofString "terms")) Q ↔ Q (tmE b.t) := ⟨fun h => h, fun h => h⟩
theorem vc_law : ∀ ns : List Int, ns.length ≤ 63 → W_law [.scr ns] (fun d => d = .bl true) fun _ => False := by
  intro ns hns
  obtain ⟨n1, q1, n2, q2, n3, q3⟩ := odd_ok
  simp [W_law_w, V_law_0_w, hns]
  simp [V_law_1_w]
  intro r r0 r1
  refine up_use0 (sp_dsky _ (by omega) (by omega)) ?_
  rintro _ ⟨k, rfl, hk⟩
  simp [V_law_2_w]
  refine up_use0 sp_dplace ?_
  rintro _ ⟨p0, p1, rfl, h0, h1, h2, h3⟩
  simp [V_law_3_w, ix_e]
  have sk : skeys (bsE k.bs) = some (k.bs.map (·.1)) := skeys_bs _
  have hlen := hk.len
  have hlen2 := hk.len2
  simp only [fSortedT, sk]
  refine ⟨by rw [List.length_map]; omega, fun ys hy => ?_⟩
  have yl : ys.length = k.bs.length := by rw [hy.length_eq, List.length_map]
  simp [V_law_4_w]
  refine pick_m (by simp; omega) fun d hd => ?_
  obtain ⟨x, hx, rfl⟩ := List.mem_map.mp hd
  obtain ⟨b, hb⟩ := at_of hk (hy.mem_iff.mp hx)
  obtain ⟨w, hw, hwx⟩ := other hk x
  simp [V_law_5_w]
  refine lcD_ft D.str (fun y => decide (y ≠ x)) D.str ys (fun y hy' A R hA hR => ?_) (by simp [lineMax]; omega) ?_
  · obtain ⟨b', hb'⟩ := at_of hk (hy.mem_iff.mp hy')
    simp
    refine ⟨hb'.ok, hb.ok, ?_⟩
    by_cases e : y = x
    · simp [e] at hR ⊢
      exact hR
    · simp [e] at hA ⊢
      exact hA
  have wm : w ∈ ys.filter fun y => decide (y ≠ x) := List.mem_filter.mpr ⟨hy.mem_iff.mpr hw, by simpa using hwx⟩
  refine pick_m ⟨by rw [List.length_map]; exact List.length_pos_of_mem wm, by rw [List.length_map]; have := List.length_filter_le (fun y => decide (y ≠ x)) ys; omega⟩ fun d hd => ?_
  obtain ⟨y, hy', rfl⟩ := List.mem_map.mp hd
  obtain ⟨hym, hyx⟩ := List.mem_filter.mp hy'
  obtain ⟨c, hc⟩ := at_of hk (hy.mem_iff.mp hym)
  clear hyx hym hy' hd wm hwx hw w
  simp [V_law_6_w]
  intro l l0 l1
  simp [V_law_7_w]
  refine sky_r hk fun okr => ?_
  simp [V_law_8_w]
  refine up_use0 (sp_leq hb.look hb.b) ?_
  rintro _ rfl
  simp [V_law_9_w]
  refine up_use0 (sp_lturned k p0 p1) ?_
  rintro _ rfl
  simp [V_law_10_w]
  refine up_use0 (sp_lalt hb.look hb.b p0 p1) ?_
  rintro _ rfl
  refine up_use0 (sp_llat hb.look hb.b) ?_
  rintro _ rfl
  refine up_use0 (sp_lnear hb.look hb.b hc.look hc.b (1 + l) (by omega) (by omega)) ?_
  rintro _ rfl
  simp [V_law_11_w]
  refine up_use0 (sp_alt hb.ok hb.look hb.b p0 p1) ?_
  rintro _ rfl
  refine up_use0 (sp_lat hb.ok hb.look hb.b) ?_
  rintro _ rfl
  refine up_use0 (sp_near hb.ok hc.ok hb.look hb.b hc.look hc.b (1 + l) (by omega) (by omega)) ?_
  rintro _ rfl
  simp [V_law_12_w]
  refine up_use0 (sp_ahd _) ?_
  rintro _ rfl
  refine up_use0 (sp_tms _ _) ?_
  rintro _ rfl
  refine up_use0 (sp_tms _ _) ?_
  rintro _ rfl
  simp [V_law_13_w]
  refine up_use0 (sp_ahd _) ?_
  rintro _ rfl
  refine up_use0 (sp_tms _ _) ?_
  rintro _ rfl
  refine up_use0 (sp_tms _ _) ?_
  rintro _ rfl
  simp [V_law_14_w]
  refine up_use0 (sp_east hb.ok hb.look hb.b p0 p1) ?_
  rintro _ rfl
  refine up_use0 (sp_south hb.ok hb.look hb.b p0 p1) ?_
  rintro _ rfl
  simp [V_law_15_w, ix_e, ix_b hb, ix_t]
  refine up_use0 (sp_ltq hb.b.tl) ?_
  rintro _ rfl
  simp [V_law_16_w, ix_e, ix_b hb, ix_t]
  refine up_use0 (sp_terms hb.b.tl) ?_
  rintro _ rfl
  have eE : D.tup [.str (Str.ofString "sum"), prd (ey k b) (csq (trn k p1)), D.tup [.str (Str.ofString "share"), prd (cx b) (D.tup [.str (Str.ofString "wave"), trn k p1]), .int (-1), .int 1]] = est k p1 b := rfl
  have eS : D.tup [.str (Str.ofString "sum"), prd (cx b) (csq (trn k p1)), prd (ey k b) (D.tup [.str (Str.ofString "wave"), trn k p1])] = sth k p1 b := rfl
  rw [eE, eS]
  clear eE eS
  have g1 := g_alt (p0 := p0) hk hb.b h2 h3
  have g2 := g_tq hb.b.ll hb.b.l
  have g3 := g_ner hb.b hc.b (l := 1 + l) (by omega) (by omega)
  have g4 := g_est hk hb.b h2 h3
  have g5 := g_sth hk hb.b h2 h3
  have g6 := g_tq hb.b.tl hb.b.t
  have a7 := a_minus (g_lon hb.b) (g_lon hc.b)
  have lo := g_lon hb.b
  generalize hA : alt k p0 p1 b = A at g1 ⊢
  generalize hB : ner (1 + l) b c = B at g3 ⊢
  generalize hC : est k p1 b = C at g4 ⊢
  generalize hD : sth k p1 b = F at g5 ⊢
  generalize hT : tq b.t = T at g6 ⊢
  generalize hL : tq b.l = L at g2 ⊢
  clear hA hB hC hD hT hL
  simp only [V_law_17_w]
  simp
  have o1 := (g1.le (m := 59) (by omega)).2.2
  have o2 := (g2.le (m := 59) (by omega)).2.2
  have o3 := (g3.le (m := 59) (by omega)).2.2
  have o4 := (g4.le (m := 59) (by omega)).2.2
  have o5 := (g5.le (m := 59) (by omega)).2.2
  have o6 := (g6.le (m := 59) (by omega)).2.2
  refine ⟨⟨o1, o2, o3, o4, o5, o6⟩, ⟨eqD_self 59 _ o1, eqD_self 59 _ o2, eqD_self 59 _ o3, eqD_self 59 _ o4, eqD_self 59 _ o5, eqD_self 59 _ o6⟩, ?_⟩
  have all : ∀ z ∈ [A, L, B, C, F, T], GG 20 113 z := by
    simp
    exact ⟨g1.le (by omega), g2.le (by omega), g3.le (by omega), g4.le (by omega), g5.le (by omega), g6.le (by omega)⟩
  refine lcD_list (fun z : D => z) (fun _ => D.bl true) [A, L, B, C, F, T] [] (fun z hz S R a => ?_) (by simp [lineMax]) ?_
  · simp
    refine up_q (all z hz) ?_
    refine up_use0 sp_is ?_
    rintro _ rfl
    exact a
  refine fAll_bls (ns := [true, true, true, true, true, true]) ?_
  simp
  simp [V_law_18_w]
  refine up_use0 (sp_llon hb.look hb.b) ?_
  rintro _ rfl
  refine up_use0 (sp_llon hc.look hc.b) ?_
  rintro _ rfl
  simp [V_law_19_w]
  refine up_use0 (sp_elong hb.ok hc.ok hb.look hb.b hc.look hc.b) ?_
  rintro _ rfl
  have lc := g_lon hc.b
  have ol := (lo.le (m := 60) (by omega)).2.2
  refine ⟨(a7.le (by omega)).2.2, ⟨(lo.le (m := 59) (by omega)).2.2, (lc.le (m := 59) (by omega)).2.2⟩, eqD_self 60 _ (a7.le (by omega)).2.2, ?_⟩
  refine up_use0 (sp_lon hb.ok hb.look hb.b) ?_
  rintro _ rfl
  refine ⟨ol, ol, eqD_self 60 _ ol, ?_⟩
  refine up_a (a7.le (by omega)) ?_
  simp
  simp only [V_law_20_w]
  simp
  have fgtk : fgt [0, 1, 4, 7, 9, 10, 11, 12, 13, 14, 15, 16, 17, 18] [.v (.scr ns), .v .st, .v k.e, .v (.tup [.int p0, .int p1]), .v (.lst (ys.map D.str)), .v (.str x), .v (.str y), .v (.int (1 + l)), .v (.str (reprD k.e)), .v (cx b), .v (ey k b), .v (ez k b), .v (trn k p1), .o (.lst [A, L, B, C, F, T]), .o (.lst [A, L, B, C, F, T]), .v (.tup [.str "minus", lon b, lon c]), .no, .no, .no] = [.no, .no, .v k.e, .v (.tup [.int p0, .int p1]), .no, .v (.str x), .v (.str y), .no, .v (.str (reprD k.e)), .no, .no, .no, .no, .no, .no, .no, .no, .no, .no] := rfl
  refine forL_inv (fun i ρ => ρ = [.no, .no, .v k.e, .v (.tup [.int p0, .int p1]), .no, .v (.str x), .v (.str y), .no, .v (.str (reprD k.e)), .no, .no, .no, .no, .no, .no, .no, .no, .no, .no]) fgtk ?_ ?_
  · rintro i z ρ nx hz rfl hn
    obtain ⟨hi, rfl⟩ := rngx_get hz
    simp [V_law_L1_0_w]
    refine up_use0 (sp_ref (by omega) (by omega) _ n1 n2 hc.ok hc.len (.inl ⟨look_odd hk n3, rfl⟩)) ?_
    rintro _ rfl
    simp
    simp only [V_law_L1_1_w]
    simp
    have l2 : V_law_L1_2 (fun e x => False) { nx := nx, rt := fun d => d = D.bl true, bk := V_law_21 (fun e x => False) { nx := fun x => False, rt := fun d => d = D.bl true }, ct := nx } [.no, .no, .v k.e, .v (.tup [.int p0, .int p1]), .no, .v (.str x), .v (.str y), .no, .v (.str (reprD k.e)), .no, .no, .no, .no, .no, .no, .no, .v (.int i), .no, .no] := by
      have l3 : V_law_L1_3 (fun e x => False) { nx := nx, rt := fun d => d = D.bl true, bk := V_law_21 (fun e x => False) { nx := fun x => False, rt := fun d => d = D.bl true }, ct := nx } [.no, .no, .v k.e, .v (.tup [.int p0, .int p1]), .no, .v (.str x), .v (.str y), .no, .v (.str (reprD k.e)), .no, .no, .no, .no, .no, .no, .no, .v (.int i), .no, .no] := by
        simp only [V_law_L1_3_w]
        simp
        exact hn _ rfl
      simp only [V_law_L1_2_w]
      simp
      refine ite2' (fun c' => ?_) fun _ => l3
      refine up_use0 (sp_ref (by omega) (by omega) _ n1 n2 q1 q2 (.inl ⟨look_odd hk n3, rfl⟩)) ?_
      rintro _ rfl
      simp
      exact l3
    refine ite2' (fun c' => ?_) fun _ => l2
    refine up_use0 (sp_ref (by omega) (by omega) _ hb.ok hb.len q1 q2 (.inr ⟨by omega, ⟨b, hb⟩, look_odd hk q3, rfl⟩)) ?_
    rintro _ rfl
    simp
    exact l2
  · rintro ρ rfl
    simp only [V_law_21_w]
    simp
    refine sky_r hk fun okr => ?_
    simp
    exact okr
end K14

/-! DMut: own lists and dicts changed. -/
namespace DL
open PySem L2 PyProof.Rows
theorem gOL_out {o : Option Sl} {Q : List D → Prop} (h : gOL o Q) : ∃ xs, o = some (.o (.lst xs)) ∧ Q xs := by
  unfold gOL at h
  split at h
  · exact ⟨_, rfl, h⟩
  · exact h.elim
theorem gOD_out {o : Option Sl} {Q : List (DL.Key × D) → Prop} (h : gOD o Q) : ∃ xs, o = some (.o (.dk xs)) ∧ Q xs := by
  unfold gOD at h
  split at h
  · exact ⟨_, rfl, h⟩
  · exact h.elim
theorem gOL_in {o : Option Sl} {Q : List D → Prop} {xs : List D} (e : o = some (.o (.lst xs))) (h : Q xs) : gOL o Q := by rw [e]; exact h
theorem gOD_in {o : Option Sl} {Q : List (DL.Key × D) → Prop} {xs : List (DL.Key × D)} (e : o = some (.o (.dk xs))) (h : Q xs) : gOD o Q := by rw [e]; exact h
theorem gI_out {d : D} {Q : Int → Prop} (h : gI d Q) : ∃ k, d = .int k ∧ Q k := by
  cases d <;> first | exact ⟨_, rfl, h⟩ | exact h.elim
theorem gK_out {d : D} {Q : DL.Key → Prop} (h : gK d Q) : ∃ k, d = dKey k ∧ Q k := by
  cases d <;> first | exact ⟨.inl _, rfl, h⟩ | exact ⟨.inr _, rfl, h⟩ | exact h.elim
theorem gK_in {k : DL.Key} {Q : DL.Key → Prop} (h : Q k) : gK (dKey k) Q := by cases k <;> exact h
theorem gSm_out {α : Type} {o : Option α} {Q : α → Prop} (h : gSm o Q) : ∃ k, o = some k ∧ Q k := by
  cases o with
  | none => exact h.elim
  | some k => exact ⟨k, rfl, h⟩
theorem gSm_in {α : Type} {o : Option α} {Q : α → Prop} {k : α} (e : o = some k) (h : Q k) : gSm o Q := by rw [e]; exact h
section
variable {K : Fg} {cl : Cl} {W : WX} {F0 H0 F H F' H' : Hp} {σ : L2.St} {ρ : DL.Env}
theorem Reps.set {F : Hp} {v : V} {d : D} (h : Rep K cl F v d) : ∀ (n : Nat) {vs : List V} {ds : List D}, Reps K cl F vs ds → Reps K cl F (vs.set n v) (ds.set n d)
  | _, _, _, .nil => .nil
  | 0, _, _, .cons _ r => .cons h r
  | n + 1, _, _, .cons x r => .cons x (Reps.set h n r)
theorem Reps.erase {F : Hp} : ∀ (n : Nat) {vs : List V} {ds : List D}, Reps K cl F vs ds → Reps K cl F (vs.eraseIdx n) (ds.eraseIdx n)
  | _, _, _, .nil => .nil
  | 0, _, _, .cons _ r => r
  | n + 1, _, _, .cons x r => .cons x (Reps.erase n r)
theorem Reps.rev {F : Hp} {vs : List V} {ds : List D} (r : Reps K cl F vs ds) : Reps K cl F vs.reverse ds.reverse := by
  induction ds generalizing vs with
  | nil => cases r; exact .nil
  | cons d ds ih =>
    cases r with
    | cons h r =>
      rw [List.reverse_cons, List.reverse_cons]
      exact (ih r).append (.cons h .nil)
theorem Reps.dropLast {F : Hp} {vs : List V} {ds : List D} (r : Reps K cl F vs ds) : Reps K cl F vs.dropLast ds.dropLast := by
  rw [List.dropLast_eq_take, List.dropLast_eq_take, r.length]
  exact r.take _
/-- xs[i], read for += -/
def rGetL (K : Fg) : V → V → Hp → VK → Prop := fun x y H Q => ∃ p xs i v, x = .ref p ∧ y = .int i ∧ H p = some (.lst xs) ∧ L2.atI xs i = some v ∧ Q v H
/-- an own list's method over the heap -/
structure RfM (K : Fg) (cl : Cl) (r : V → List V → Hp → VK → Prop) (f : List D → List D → (List D → Prop) → Prop) : Prop where
  mono : ∀ xs ys (P P' : List D → Prop), (∀ d, P d → P' d) → f xs ys P → f xs ys P'
  ok : ∀ F H a vs us xs ys (Q : VK), Same F H → H a = some (.lst vs) → F a = none → Reps K cl F vs xs → Reps K cl F us ys → f xs ys (fun zs => ∀ ws, Reps K cl F ws zs → Q .non (upd H a (.lst ws))) → r (.ref a) us H Q
theorem rfs_lop {i : Nat} {r : V → List V → Hp → VK → Prop} {f : List D → List D → (List D → Prop) → Prop} {ta : TA} {t : DA} (m : RfM K cl r f) (ha : RfA K cl W ta t) : RfS K cl W (tDrop (tBM K "list" r (tVar i) ta)) (sLop f i t) where
  mono2 := fun E E' A B ρ hE l q => by
    obtain ⟨xs, e, q⟩ := gOL_out q
    exact gOL_in e (ha.mono2 E E' ρ _ _ hE (fun ys q => m.mono xs ys _ _ (fun zs q => l.nx _ q) q) q)
  ok := fun F0 H0 F H σ ρ E B A hh le ld q => by
    obtain ⟨xs, e, q⟩ := gOL_out q
    obtain ⟨a, ea, n0, nf, vs, ho, rr⟩ := hh.ownAt e
    refine ⟨.ref a, ea, .inl ⟨rfl, vs, SqL.of ho⟩, ?_⟩
    refine ha.ok F0 H0 F H σ ρ E _ hh le (ha.mono E ρ _ _ (fun ys q us F1 H1 g1 r1 => ?_) q)
    have e1 := g1.k _ _ ho
    refine m.ok F1 H1 a vs us xs ys _ g1.s e1 (g1.keepNone ho nf) (rr.mono g1.f) r1 (m.mono xs ys _ _ (fun zs q ws rw => ?_) q)
    exact ld.nx _ _ _ _ ((hh.grow g1).mut (d' := .lst zs) ea e ⟨ws, upd_same, rw⟩) q
theorem rfs_lop0 {i : Nat} {r : V → List V → Hp → VK → Prop} {f : List D → List D → (List D → Prop) → Prop} (m : RfM K cl r f) : RfS K cl W (tDrop (tBM0 K "list" r (tVar i))) (sLop f i aNil) where
  mono2 := (rfs_lop (W := W) (i := i) m rfa_nil).mono2
  ok := fun F0 H0 F H σ ρ E B A hh le ld q => (rfs_lop (W := W) (i := i) m rfa_nil).ok F0 H0 F H σ ρ E B A hh le ld q
theorem rfm_ext : RfM K cl rExtend lExt where
  mono := fun xs ys P P' h q => by
    match ys, q with
    | [.lst zs], q => exact ⟨q.1, h _ q.2⟩
  ok := fun F H a vs us xs ys Q s e f r1 r2 q => by
    match ys, q, r2 with
    | [.lst zs], q, .cons (.lst (a := b) (vs := ws) eb rb) .nil =>
      refine ⟨a, b, vs, ws, rfl, rfl, e, s _ _ eb, ?_, q.2 _ (r1.append rb)⟩
      rw [r1.length, rb.length, ← line_eq]
      exact q.1
theorem rfm_ins : RfM K cl (fun x vs H Q => ∃ (l : Addr) (xs : List V) (i : Int) (y : V), x = .ref l ∧ vs = [.int i, y] ∧ H l = some (.lst xs) ∧ xs.length < sizeLine ∧ 0 ≤ i ∧ i < 2 ^ 63 ∧ Q .non (upd H l (.lst (xs.take i.toNat ++ [y] ++ xs.drop i.toNat)))) lIns where
  mono := fun xs ys P P' h q => by
    match ys, q with
    | [.int k, y], q => exact ⟨q.1, h _ q.2⟩
  ok := fun F H a vs us xs ys Q s e f r1 r2 q => by
    match ys, q, r2 with
    | [.int k, y], q, .cons (.int _) (.cons ry .nil) =>
      refine ⟨a, vs, k, _, rfl, rfl, e, ?_, q.1.2.1, q.1.2.2, q.2 _ (((r1.take _).append (.cons ry .nil)).append (r1.drop _))⟩
      rw [r1.length, ← line_eq]
      exact q.1.1
theorem rfm_rev : RfM K cl rReverse lRev where
  mono := fun xs ys P P' h q => ⟨q.1, h _ q.2⟩
  ok := fun F H a vs us xs ys Q s e f r1 r2 q => by
    obtain ⟨rfl, q⟩ := q
    cases r2
    exact ⟨a, vs, rfl, rfl, e, q _ r1.rev⟩
theorem rfm_clr : RfM K cl rClear lClr where
  mono := fun xs ys P P' h q => ⟨q.1, h _ q.2⟩
  ok := fun F H a vs us xs ys Q s e f r1 r2 q => by
    obtain ⟨rfl, q⟩ := q
    cases r2
    exact ⟨a, vs, rfl, rfl, e, q _ .nil⟩
/-- pop by both readings -/
def rPopU : V → List V → Hp → VK → Prop := fun x vs H Q => rPop x vs H Q ∨ rPopAt x vs H Q
theorem lPop_mono {xs ys : List D} {P P' : D → List D → Prop} (h : ∀ d zs, P d zs → P' d zs) (q : lPop xs ys P) : lPop xs ys P' := by
  match ys, q with
  | [], q =>
    obtain ⟨y, e, q⟩ := gSm_out q
    exact gSm_in e (h _ _ q)
  | [.int k], q =>
    obtain ⟨hk, q⟩ := q
    obtain ⟨j, e, q⟩ := gSm_out q
    obtain ⟨y, e2, q⟩ := gSm_out q
    exact ⟨hk, gSm_in e (gSm_in e2 (h _ _ q))⟩
theorem pop_ok {F H : Hp} {a : Addr} {vs us : List V} {xs ys : List D} {Q : VK} (e : H a = some (.lst vs)) (r1 : Reps K cl F vs xs) (r2 : Reps K cl F us ys)
    (q : lPop xs ys fun y zs => ∀ v ws, Rep K cl F v y → Reps K cl F ws zs → Q v (upd H a (.lst ws))) : rPopU (.ref a) us H Q := by
  match ys, q, r2 with
  | [], q, .nil =>
    obtain ⟨y, e1, q⟩ := gSm_out q
    obtain ⟨v, e2, rv⟩ := r1.get e1
    exact .inl ⟨a, vs, v, rfl, rfl, e, by rw [r1.length]; exact e2, q v _ rv r1.dropLast⟩
  | [.int k], q, .cons (.int _) .nil =>
    obtain ⟨hk, q⟩ := q
    obtain ⟨j, e1, q⟩ := gSm_out q
    obtain ⟨y, e2, q⟩ := gSm_out q
    obtain ⟨v, e3, rv⟩ := r1.get e2
    have e1' : L2.ixN vs.length k = some j := by rw [r1.length]; exact e1
    exact .inr ⟨a, vs, k, j, v, rfl, rfl, e, hk.1, hk.2, (ixN_seq e1').1, e3, q v _ rv (r1.erase j)⟩
theorem mt_popU {X : Cx} : MtR X "list.pop" rPopU := MtR.or mt_pop mt_popAt
theorem rfs_pop {i : Nat} {ta : TA} {t : DA} (ha : RfA K cl W ta t) : RfS K cl W (tDrop (tBM K "list" rPopU (tVar i) ta)) (sPop i t) where
  mono2 := fun E E' A B ρ hE l q => by
    obtain ⟨xs, e, q⟩ := gOL_out q
    exact gOL_in e (ha.mono2 E E' ρ _ _ hE (fun ys q => lPop_mono (fun _ zs q => l.nx _ q) q) q)
  ok := fun F0 H0 F H σ ρ E B A hh le ld q => by
    obtain ⟨xs, e, q⟩ := gOL_out q
    obtain ⟨a, ea, n0, nf, vs, ho, rr⟩ := hh.ownAt e
    refine ⟨.ref a, ea, .inl ⟨rfl, vs, SqL.of ho⟩, ?_⟩
    refine ha.ok F0 H0 F H σ ρ E _ hh le (ha.mono E ρ _ _ (fun ys q us F1 H1 g1 r1 => ?_) q)
    have e1 := g1.k _ _ ho
    refine pop_ok e1 (rr.mono g1.f) r1 (lPop_mono (fun y zs q v ws rv rw => ?_) q)
    exact ld.nx _ _ _ _ ((hh.grow g1).mut (d' := .lst zs) ea e ⟨ws, upd_same, rw⟩) q
theorem rfs_pop0 {i : Nat} : RfS K cl W (tDrop (tBM0 K "list" rPopU (tVar i))) (sPop i aNil) where
  mono2 := (rfs_pop (K := K) (cl := cl) (W := W) (i := i) rfa_nil).mono2
  ok := fun F0 H0 F H σ ρ E B A hh le ld q => (rfs_pop (K := K) (cl := cl) (W := W) (i := i) rfa_nil).ok F0 H0 F H σ ρ E B A hh le ld q
theorem rfs_popTo {i j : Nat} {ta : TA} {t : DA} (ha : RfA K cl W ta t) : RfS K cl W (tAsg (tBM K "list" rPopU (tVar i) ta) (L2.gName j)) (sPopTo i j t) where
  mono2 := fun E E' A B ρ hE l q => by
    obtain ⟨xs, e, q⟩ := gOL_out q
    exact gOL_in e (ha.mono2 E E' ρ _ _ hE (fun ys q => lPop_mono (fun _ zs q => l.nx _ q) q) q)
  ok := fun F0 H0 F H σ ρ E B A hh le ld q => by
    obtain ⟨xs, e, q⟩ := gOL_out q
    obtain ⟨a, ea, n0, nf, vs, ho, rr⟩ := hh.ownAt e
    refine ⟨.ref a, ea, .inl ⟨rfl, vs, SqL.of ho⟩, ?_⟩
    refine ha.ok F0 H0 F H σ ρ E _ hh le (ha.mono E ρ _ _ (fun ys q us F1 H1 g1 r1 => ?_) q)
    have e1 := g1.k _ _ ho
    refine pop_ok e1 (rr.mono g1.f) r1 (lPop_mono (fun y zs q v ws rv rw => ?_) q)
    exact ld.nx _ _ _ _ (((hh.grow g1).mut (d' := .lst zs) ea e ⟨ws, upd_same, rw⟩).set rv) q
theorem rfs_popTo0 {i j : Nat} : RfS K cl W (tAsg (tBM0 K "list" rPopU (tVar i)) (L2.gName j)) (sPopTo i j aNil) where
  mono2 := (rfs_popTo (K := K) (cl := cl) (W := W) (i := i) (j := j) rfa_nil).mono2
  ok := fun F0 H0 F H σ ρ E B A hh le ld q => (rfs_popTo (K := K) (cl := cl) (W := W) (i := i) (j := j) rfa_nil).ok F0 H0 F H σ ρ E B A hh le ld q
theorem rfs_popApp {i : Nat} {ta : TA} {t : DA} (ha : RfA K cl W ta t) : RfS K cl W (tDrop (tBM K "list" rAppend (tVar i) (tCons (tBM K "list" rPopU (tVar i) ta) tNil))) (sPopApp i t) where
  mono2 := fun E E' A B ρ hE l q => by
    obtain ⟨xs, e, q⟩ := gOL_out q
    exact gOL_in e (ha.mono2 E E' ρ _ _ hE (fun ys q => lPop_mono (fun _ zs q => ⟨q.1, l.nx _ q.2⟩) q) q)
  ok := fun F0 H0 F H σ ρ E B A hh le ld q => by
    obtain ⟨xs, e, q⟩ := gOL_out q
    obtain ⟨a, ea, n0, nf, vs, ho, rr⟩ := hh.ownAt e
    refine ⟨.ref a, ea, .inl ⟨rfl, vs, SqL.of ho⟩, .ref a, ea, .inl ⟨rfl, vs, SqL.of ho⟩, ?_⟩
    refine ha.ok F0 H0 F H σ ρ E _ hh le (ha.mono E ρ _ _ (fun ys q us F1 H1 g1 r1 => ?_) q)
    have e1 := g1.k _ _ ho
    refine pop_ok e1 (rr.mono g1.f) r1 (lPop_mono (fun y zs q v ws rv rw => ?_) q)
    refine ⟨a, ws, v, rfl, rfl, upd_same, by rw [rw.length, ← line_eq]; exact q.1, ?_⟩
    have h1 := ((hh.grow g1).mut (d' := .lst (zs ++ [y])) (o := .lst (ws ++ [v])) ea e ⟨ws ++ [v], upd_same, rw.append (.cons rv .nil)⟩)
    rw [upd_upd]
    exact ld.nx _ _ _ _ h1 q.2
theorem rfs_setIx {i : Nat} {ta tb : TE} {p q : DT} (ha : RfE K cl W ta p) (hb : RfE K cl W tb q) : RfS K cl W (tAsg tb (gSub (tVar i) ta rSetL)) (sSetIx i p q) where
  mono2 := fun E E' A B ρ hE l q => by
    obtain ⟨xs, e, q⟩ := gOL_out q
    refine gOL_in e (hb.mono2 E E' ρ _ _ hE (fun y q => ha.mono2 E E' ρ _ _ hE (fun k q => ?_) q) q)
    obtain ⟨k, rfl, q⟩ := gI_out q
    obtain ⟨j, ej, q⟩ := gSm_out q
    exact gSm_in ej (l.nx _ q)
  ok := fun F0 H0 F H σ ρ E B A hh le ld q => by
    obtain ⟨xs, e, q⟩ := gOL_out q
    obtain ⟨a, ea, n0, nf, vs, ho, rr⟩ := hh.ownAt e
    refine hb.ok F0 H0 F H σ ρ E _ hh le (hb.mono E ρ _ _ (fun y q v F1 H1 g1 r1 => ?_) q)
    refine ⟨.ref a, ea, ?_⟩
    refine ha.ok F0 H0 F1 H1 σ ρ E _ (hh.grow g1) le (ha.mono E ρ _ _ (fun k q u F2 H2 g2 r2 => ?_) q)
    obtain ⟨k, rfl, q⟩ := gI_out q
    obtain ⟨j, ej, q⟩ := gSm_out q
    cases r2
    have g := g1.trans g2
    have ej' : L2.ixN vs.length k = some j := by rw [rr.length]; exact ej
    refine ⟨a, vs, k, j, rfl, rfl, g.k _ _ ho, ej', ?_⟩
    exact ld.nx _ _ _ _ ((hh.grow g).mut (d' := .lst (xs.set j y)) ea e ⟨vs.set j v, upd_same, Reps.set (r1.mono g2.f) j (rr.mono g.f)⟩) q
theorem rfs_augIx {i : Nat} {ta tb : TE} {p q : DT} (ha : RfE K cl W ta p) (hb : RfE K cl W tb q) {r : TIp} {f : D → D → DK → Prop} (o : RfIp K cl r f) : RfS K cl W (tAugS (tVar i) ta tb (rGetL K) r rSetL) (sAugIx f i p q) where
  mono2 := fun E E' A B ρ hE l q => by
    obtain ⟨xs, e, q⟩ := gOL_out q
    refine gOL_in e (ha.mono2 E E' ρ _ _ hE (fun k q => ?_) q)
    obtain ⟨k, rfl, q⟩ := gI_out q
    obtain ⟨j, ej, q⟩ := gSm_out q
    obtain ⟨x, ex, q⟩ := gSm_out q
    exact gSm_in ej (gSm_in ex (hb.mono2 E E' ρ _ _ hE (fun y q => o.mono x y _ _ (fun z q => l.nx _ q) q) q))
  ok := fun F0 H0 F H σ ρ E B A hh le ld q => by
    obtain ⟨xs, e, q⟩ := gOL_out q
    obtain ⟨a, ea, n0, nf, vs, ho, rr⟩ := hh.ownAt e
    refine ⟨.ref a, ea, ?_⟩
    refine ha.ok F0 H0 F H σ ρ E _ hh le (ha.mono E ρ _ _ (fun k q u F2 H2 g2 r2 => ?_) q)
    obtain ⟨k, rfl, q⟩ := gI_out q
    obtain ⟨j, ej, q⟩ := gSm_out q
    obtain ⟨x, ex, q⟩ := gSm_out q
    cases r2
    have ej' : L2.ixN vs.length k = some j := by rw [rr.length]; exact ej
    obtain ⟨v, ev, rv⟩ := rr.get ex
    refine ⟨a, vs, k, v, rfl, rfl, g2.k _ _ ho, by unfold L2.atI; rw [ej']; exact ev, ?_⟩
    refine hb.ok F0 H0 F2 H2 σ ρ E _ (hh.grow g2) le (hb.mono E ρ _ _ (fun y q w F3 H3 g3 r3 => ?_) q)
    refine o.ok F3 H3 v w x y _ g3.s ((rv.mono g2.f).mono g3.f) r3 (o.mono x y _ _ (fun z q v' F' H' g' r' => ?_) q)
    have g := (g2.trans g3).trans g'
    refine ⟨a, vs, k, j, rfl, rfl, g.k _ _ ho, ej', ?_⟩
    exact ld.nx _ _ _ _ ((hh.grow g).mut (d' := .lst (xs.set j z)) ea e ⟨vs.set j v', upd_same, Reps.set r' j (rr.mono g.f)⟩) q
/-! own dicts -/
theorem KReps.any {F : Hp} (k : DL.Key) : ∀ {ws : List (L2.Key × V)} {kvs : List (DL.Key × D)}, KReps K cl F ws kvs → (ws.any fun kv => decide (kv.1 = k)) = (kvs.any fun kv => decide (kv.1 = k))
  | _, _, .nil => rfl
  | _, _, .cons _ r => by rw [List.any_cons, List.any_cons, KReps.any k r]
theorem KReps.map {F : Hp} {v : V} {d : D} (k : DL.Key) (h : Rep K cl F v d) : ∀ {ws : List (L2.Key × V)} {kvs : List (DL.Key × D)}, KReps K cl F ws kvs → KReps K cl F (ws.map fun kv => if kv.1 = k then (kv.1, v) else kv) (kvs.map fun kv => if kv.1 = k then (kv.1, d) else kv)
  | _, _, .nil => .nil
  | _, _, .cons (k := j) h2 r => by
    rw [List.map_cons, List.map_cons]
    by_cases e : j = k
    · simp only [e, if_true]
      exact .cons h (KReps.map k h r)
    · simp only [e, if_false]
      exact .cons h2 (KReps.map k h r)
theorem KReps.app {F : Hp} : ∀ {ws us : List (L2.Key × V)} {kvs js : List (DL.Key × D)}, KReps K cl F ws kvs → KReps K cl F us js → KReps K cl F (ws ++ us) (kvs ++ js)
  | _, _, _, _, .nil, r => r
  | _, _, _, _, .cons h r, r2 => .cons h (r.app r2)
theorem KReps.put {F : Hp} {v : V} {d : D} (k : DL.Key) (h : Rep K cl F v d) {ws : List (L2.Key × V)} {kvs : List (DL.Key × D)} (r : KReps K cl F ws kvs) : KReps K cl F (putK ws k v) (putD kvs k d) := by
  unfold putK putD
  rw [r.any k]
  split
  · exact r.map k h
  · exact r.app (.cons h .nil)
theorem rep_key {F : Hp} {v : V} {k : DL.Key} (h : Rep K cl F v (dKey k)) : v = kV k := by
  cases k with
  | inl i => cases h; rfl
  | inr x => cases h; rfl
theorem rfn_newK : RfN K cl W tDNewK dNewK where
  mono2 := fun E E' ρ P P' hE h q => h _ q
  ok := fun F0 H0 F H σ ρ E Q hh le q p hp => q p F _ (Gr.h hh.g.s (same_upd hp)) hp (hh.g.s.free hp) ⟨[], upd_same, .nil⟩
theorem small_line {n : Nat} (h : n < 1000000) : n < sizeLine := by rw [sizeLine_eq]; omega
theorem rfs_putK {i : Nat} {ta tb : TE} {p q : DT} (ha : RfE K cl W ta p) (hb : RfE K cl W tb q) : RfS K cl W (sDPut (tVar i) ta tb) (sPutK i p q) where
  mono2 := fun E E' A B ρ hE l q => by
    obtain ⟨xs, e, q⟩ := gOD_out q
    refine gOD_in e (hb.mono2 E E' ρ _ _ hE (fun y q => ha.mono2 E E' ρ _ _ hE (fun k q => ?_) q) q)
    obtain ⟨k, rfl, qk⟩ := gK_out q
    have q := qk
    exact gK_in ⟨q.1, l.nx _ q.2⟩
  ok := fun F0 H0 F H σ ρ E B A hh le ld q => by
    obtain ⟨xs, e, q⟩ := gOD_out q
    obtain ⟨a, ea, n0, nf, vs, ho, rr⟩ := hh.ownAt e
    refine hb.ok F0 H0 F H σ ρ E _ hh le (hb.mono E ρ _ _ (fun y q v F1 H1 g1 r1 => ?_) q)
    refine ⟨.ref a, ea, ?_⟩
    refine ha.ok F0 H0 F1 H1 σ ρ E _ (hh.grow g1) le (ha.mono E ρ _ _ (fun k q u F2 H2 g2 r2 => ?_) q)
    obtain ⟨k, rfl, qk⟩ := gK_out q
    have q := qk
    have g := g1.trans g2
    refine ⟨a, upd H2 a (.dK (putK vs k v)), rfl, ?_⟩
    rw [rep_key r2]
    refine ⟨DPut.k (g.k _ _ ho) (by rw [rr.length]; exact small_line q.1), ?_⟩
    exact ld.nx _ _ _ _ ((hh.grow g).mut (d' := .dk (putD xs k y)) ea e ⟨putK vs k v, upd_same, (rr.mono g.f).put k (r1.mono g2.f)⟩) q.2
theorem oGet_out {o : Option D} {Q : DK} (h : oGet o Q) : ∃ d, o = some d ∧ Q d := by
  cases o with
  | none => exact h.elim
  | some d => exact ⟨d, rfl, h⟩
theorem oGet_in {o : Option D} {Q : DK} {d : D} (e : o = some d) (h : Q d) : oGet o Q := by rw [e]; exact h
theorem rfe_ixK {i : Nat} {ta : TE} {p : DT} (ha : RfE K cl W ta p) : RfE K cl W (tDGet (tVar i) ta) (dIxK i p) where
  mono2 := fun E E' ρ P P' hE h q => by
    obtain ⟨xs, e, q⟩ := gOD_out q
    refine gOD_in e (ha.mono2 E E' ρ _ _ hE (fun k q => ?_) q)
    obtain ⟨k, rfl, qk⟩ := gK_out q
    have q := qk
    obtain ⟨d, ed, q⟩ := oGet_out q
    exact gK_in (oGet_in ed (h _ q))
  ok := fun F0 H0 F H σ ρ E Q hh le q => by
    obtain ⟨xs, e, q⟩ := gOD_out q
    obtain ⟨a, ea, n0, nf, vs, ho, rr⟩ := hh.ownAt e
    refine ⟨.ref a, ea, ?_⟩
    refine ha.ok F0 H0 F H σ ρ E _ hh le (ha.mono E ρ _ _ (fun k q u F2 H2 g2 r2 => ?_) q)
    obtain ⟨k, rfl, qk⟩ := gK_out q
    have q := qk
    obtain ⟨d, ed, q⟩ := oGet_out q
    rcases rr.look k with ⟨z, _⟩ | ⟨v, d', z1, z2, z3⟩
    · rw [z] at ed; cases ed
    · rw [ed] at z1
      cases z1
      refine ⟨a, v, rfl, ?_, q v F2 H2 g2 (z3.mono g2.f)⟩
      rw [rep_key r2, ← z2]
      exact DGet.k (g2.k _ _ ho)
theorem gDk_out {d : D} {Q : List (DL.Key × D) → Prop} (h : gDk d Q) : ∃ kvs, d = .dk kvs ∧ Q kvs := by
  cases d <;> first | exact ⟨_, rfl, h⟩ | exact h.elim
theorem rfe_getK1 {ta tb : TE} {p q : DT} (ha : RfE K cl W ta p) (hb : RfE K cl W tb q) : RfE K cl W (tDGet1 ta tb) (dGetK1 p q) where
  mono2 := fun E E' ρ P P' hE h q => ha.mono2 E E' ρ _ _ hE (fun x q => by
    obtain ⟨kvs, rfl, q⟩ := gDk_out q
    refine hb.mono2 E E' ρ _ _ hE (fun k q => ?_) q
    obtain ⟨k, rfl, qk⟩ := gK_out q
    have q := qk
    exact gK_in (h _ q)) q
  ok := fun F0 H0 F H σ ρ E Q hh le q => by
    refine ha.ok F0 H0 F H σ ρ E _ hh le (ha.mono E ρ _ _ (fun x q v F1 H1 g1 r1 => ?_) q)
    obtain ⟨kvs, rfl, q⟩ := gDk_out q
    cases r1 with
    | dk e1 rr =>
      refine ⟨_, rfl, .inl ⟨_, .inl (g1.s _ _ e1)⟩, ?_⟩
      refine hb.ok F0 H0 F1 H1 σ ρ E _ (hh.grow g1) le (hb.mono E ρ _ _ (fun k q u F2 H2 g2 r2 => ?_) q)
      obtain ⟨k, rfl, qk⟩ := gK_out q
      have q := qk
      rw [rep_key r2]
      refine ⟨_, DGet.k (g2.k _ _ (g1.s _ _ e1)), ?_⟩
      rcases rr.look k with ⟨z1, z2⟩ | ⟨v, d', z1, z2, z3⟩
      · rw [z1] at q
        rw [z2]
        exact q .non F2 H2 (g1.trans g2) .non
      · rw [z1] at q
        rw [z2]
        exact q v F2 H2 (g1.trans g2) (z3.mono g2.f)
theorem rfe_getK2 {ta tb tc : TE} {p q r : DT} (ha : RfE K cl W ta p) (hb : RfE K cl W tb q) (hc : RfE K cl W tc r) : RfE K cl W (tDGet2 ta tb tc) (dGetK2 p q r) where
  mono2 := fun E E' ρ P P' hE h q => ha.mono2 E E' ρ _ _ hE (fun x q => by
    obtain ⟨kvs, rfl, q⟩ := gDk_out q
    refine hb.mono2 E E' ρ _ _ hE (fun k q => hc.mono2 E E' ρ _ _ hE (fun z q => ?_) q) q
    obtain ⟨k, rfl, qk⟩ := gK_out q
    have q := qk
    exact gK_in (h _ q)) q
  ok := fun F0 H0 F H σ ρ E Q hh le q => by
    refine ha.ok F0 H0 F H σ ρ E _ hh le (ha.mono E ρ _ _ (fun x q v F1 H1 g1 r1 => ?_) q)
    obtain ⟨kvs, rfl, q⟩ := gDk_out q
    cases r1 with
    | dk e1 rr =>
      refine ⟨_, rfl, .inl ⟨_, .inl (g1.s _ _ e1)⟩, ?_⟩
      refine hb.ok F0 H0 F1 H1 σ ρ E _ (hh.grow g1) le (hb.mono E ρ _ _ (fun k q u F2 H2 g2 r2 => ?_) q)
      refine hc.ok F0 H0 F2 H2 σ ρ E _ ((hh.grow g1).grow g2) le (hc.mono E ρ _ _ (fun z q y F3 H3 g3 r3 => ?_) q)
      obtain ⟨k, rfl, qk⟩ := gK_out q
      have q := qk
      rw [rep_key r2]
      have g := (g1.trans g2).trans g3
      refine ⟨_, DGet.k (g3.k _ _ (g2.k _ _ (g1.s _ _ e1))), ?_⟩
      rcases rr.look k with ⟨z1, z2⟩ | ⟨v, d', z1, z2, z3⟩
      · rw [z1] at q
        rw [z2]
        exact q y F3 H3 g r3
      · rw [z1] at q
        rw [z2]
        exact q v F3 H3 g ((z3.mono g2.f).mono g3.f)
end
/-! ### the rules over syntax -/
section
variable {X : Cx} {K : Fg} {cl : Cl} {W : WX} {pos : Pos}
theorem get_L : PGet X (rGetL X.K) := by
  intro pins s σ H x y v u Q I rx ry h
  obtain ⟨p, xs, i, z, rfl, rfl, hq, he, q⟩ := h
  cases rx
  obtain ⟨t, rfl⟩ := ry
  obtain ⟨its, r, pl, hz⟩ := I.list (SqL.of hq)
  obtain ⟨j, h1, h2, h3, h4, h5⟩ := atI_get he
  obtain ⟨w, ew, rw'⟩ := r.get h2
  have hl := r.length
  have hn := line63
  have fin : EP X pins σ Q w s := ⟨z, H, I, rw', q⟩
  by_cases h0 : 0 ≤ i
  · have hj : i.toNat = j := by
      rw [seqIndex_of h0 h5] at h1
      exact Option.some.inj h1
    exact wpAny_getItem_list pl.isList h0 (by omega) (by rw [hj]; simpa using ew) fin
  · have hj : (i + (its.toArray.size : Int)).toNat = j := by
      rw [seqIndex_neg (by omega) h4] at h1
      rw [List.size_toArray, ← hl]
      exact Option.some.inj h1
    exact wpAny_getItem_list_neg pl.isList (by omega) (by rw [List.size_toArray] <;> omega) (by omega) (by rw [hj]; simpa using ew) fin
/-- the premises of a call of an own name's method -/
theorem vs_lop1 {i : Nat} {x : Str} {m : Str} {id : String} {r : V → List V → Hp → VK → Prop} {f : List D → List D → (List D → Prop) → Prop} {e : Expr} {es : List Expr} {te : TA} {t : DA} {p1 apos cpos : Pos} (slot : Slot "list" m id) (hty : typeOf (.builtin id) = pure (.type "method_descriptor")) (hm : MtR X id r) (o : RfM K cl r f) (he : VA X K cl W (e :: es) te t) (hN : X.N[i]? = some x := by rfl)
    (hv : Vis X.env.scope x := by first | exact Or.inl rfl | exact Or.inr (Or.inl rfl) | exact Or.inr (Or.inr rfl)) (hd : (x == ("__debug__" : Str)) = false := by decide)
    (hcd : (x == ("__classdict__" : Str)) = false := by decide) (hs1 : starEach (e :: es) X.env = (false, eval e X.env) :: starEach es X.env := by rfl)
    (hbase : attributeBase (.Name x p1) m X.env (eval (.Name x p1) X.env) = eval (.Name x p1) X.env := by rfl)
    (hfew : ((backTo cpos (starEach (e :: es) X.env)).all (fun x => !x.1) && (backToKw cpos (keywordEach [] X.env)).all (fun x => x.1.isSome)
      && decide ((e :: es).length + ([] : List Keyword).length + (if ([] : List Keyword).isEmpty then 0 else 1) < 30)) = true := by rfl)
    (hline : (apos.endLine == cpos.line) = true := by rfl) (hplain : (backTo cpos (starEach es X.env)).any (·.1) = false := by rfl)
    (hs : swapsWith (.Call (.Attribute (.Name x p1) m apos) (e :: es) [] cpos) none pos.line X.env = pure false := by rfl) :
    VS X K cl W (.Expr (.Call (.Attribute (.Name x p1) m apos) (e :: es) [] cpos) pos) (tDrop (tBM K "list" r (tVar i) te)) (sLop f i t) := by
  obtain rfl := he.hK
  exact ⟨ps_expr (pe_bm PySem.F.plainAttrs_list slot hty hm (pe_var hN hv hd hcd) he.pe hbase hfew hline hs1 hplain) hs, rfs_lop o he.rf, rfl⟩
theorem vs_lop0 {i : Nat} {x : Str} {p1 apos cpos : Pos} {m : Str} {id : String} {r : V → List V → Hp → VK → Prop} {f : List D → List D → (List D → Prop) → Prop} (slot : Slot "list" m id) (hty : typeOf (.builtin id) = pure (.type "method_descriptor")) (hm : MtR X id r) (o : RfM K cl r f) (hK : X.K = K := by rfl) (hN : X.N[i]? = some x := by rfl) (hv : Vis X.env.scope x := by first | exact Or.inl rfl | exact Or.inr (Or.inl rfl) | exact Or.inr (Or.inr rfl)) (hd : (x == ("__debug__" : Str)) = false := by decide)
    (hcd : (x == ("__classdict__" : Str)) = false := by decide)
    (hbase : attributeBase (.Name x p1) m X.env (eval (.Name x p1) X.env) = eval (.Name x p1) X.env := by rfl) (hline : (apos.endLine == cpos.line) = true := by rfl)
    (hs : swapsWith (.Call (.Attribute (.Name x p1) m apos) [] [] cpos) none pos.line X.env = pure false := by rfl) :
    VS X K cl W (.Expr (.Call (.Attribute (.Name x p1) m apos) [] [] cpos) pos) (tDrop (tBM0 K "list" r (tVar i))) (sLop f i aNil) := by
  obtain rfl := hK
  exact ⟨ps_expr (pe_bm0 PySem.F.plainAttrs_list slot hty hm (pe_var hN hv hd hcd) hbase hline) hs, rfs_lop0 o, rfl⟩
theorem vs_pop1 {i : Nat} {x : Str} {p1 apos cpos : Pos} {e : Expr} {es : List Expr} {te : TA} {t : DA} (he : VA X K cl W (e :: es) te t) (hN : X.N[i]? = some x := by rfl) (hv : Vis X.env.scope x := by first | exact Or.inl rfl | exact Or.inr (Or.inl rfl) | exact Or.inr (Or.inr rfl)) (hd : (x == ("__debug__" : Str)) = false := by decide)
    (hcd : (x == ("__classdict__" : Str)) = false := by decide) (hs1 : starEach (e :: es) X.env = (false, eval e X.env) :: starEach es X.env := by rfl)
    (hbase : attributeBase (.Name x p1) "pop" X.env (eval (.Name x p1) X.env) = eval (.Name x p1) X.env := by rfl)
    (hfew : ((backTo cpos (starEach (e :: es) X.env)).all (fun x => !x.1) && (backToKw cpos (keywordEach [] X.env)).all (fun x => x.1.isSome)
      && decide ((e :: es).length + ([] : List Keyword).length + (if ([] : List Keyword).isEmpty then 0 else 1) < 30)) = true := by rfl)
    (hline : (apos.endLine == cpos.line) = true := by rfl) (hplain : (backTo cpos (starEach es X.env)).any (·.1) = false := by rfl)
    (hs : swapsWith (.Call (.Attribute (.Name x p1) "pop" apos) (e :: es) [] cpos) none pos.line X.env = pure false := by rfl) : VS X K cl W (.Expr (.Call (.Attribute (.Name x p1) "pop" apos) (e :: es) [] cpos) pos) (tDrop (tBM K "list" rPopU (tVar i) te)) (sPop i t) := by
  obtain rfl := he.hK
  exact ⟨ps_expr (pe_bm PySem.F.plainAttrs_list PySem.F.slot_list_pop PySem.F.type_list_pop mt_popU (pe_var hN hv hd hcd) he.pe hbase hfew hline hs1 hplain) hs, rfs_pop he.rf, rfl⟩
theorem vs_pop0 {i : Nat} {x : Str} {p1 apos cpos : Pos} (hK : X.K = K := by rfl) (hN : X.N[i]? = some x := by rfl) (hv : Vis X.env.scope x := by first | exact Or.inl rfl | exact Or.inr (Or.inl rfl) | exact Or.inr (Or.inr rfl)) (hd : (x == ("__debug__" : Str)) = false := by decide)
    (hcd : (x == ("__classdict__" : Str)) = false := by decide) (hbase : attributeBase (.Name x p1) "pop" X.env (eval (.Name x p1) X.env) = eval (.Name x p1) X.env := by rfl)
    (hline : (apos.endLine == cpos.line) = true := by rfl)
    (hs : swapsWith (.Call (.Attribute (.Name x p1) "pop" apos) [] [] cpos) none pos.line X.env = pure false := by rfl) : VS X K cl W (.Expr (.Call (.Attribute (.Name x p1) "pop" apos) [] [] cpos) pos) (tDrop (tBM0 K "list" rPopU (tVar i))) (sPop i aNil) := by
  obtain rfl := hK
  exact ⟨ps_expr (pe_bm0 PySem.F.plainAttrs_list PySem.F.slot_list_pop PySem.F.type_list_pop mt_popU (pe_var hN hv hd hcd) hbase hline) hs, rfs_pop0, rfl⟩
theorem vs_popTo1 {i : Nat} {x : Str} {p1 apos cpos : Pos} {j : Nat} {y : Str} {p2 : Pos} {e : Expr} {es : List Expr} {te : TA} {t : DA} (hND : X.N.Nodup) (he : VA X K cl W (e :: es) te t) (hN : X.N[i]? = some x := by rfl) (hv : Vis X.env.scope x := by first | exact Or.inl rfl | exact Or.inr (Or.inl rfl) | exact Or.inr (Or.inr rfl)) (hd : (x == ("__debug__" : Str)) = false := by decide)
    (hcd : (x == ("__classdict__" : Str)) = false := by decide) (hs1 : starEach (e :: es) X.env = (false, eval e X.env) :: starEach es X.env := by rfl)
    (hbase : attributeBase (.Name x p1) "pop" X.env (eval (.Name x p1) X.env) = eval (.Name x p1) X.env := by rfl)
    (hfew : ((backTo cpos (starEach (e :: es) X.env)).all (fun x => !x.1) && (backToKw cpos (keywordEach [] X.env)).all (fun x => x.1.isSome)
      && decide ((e :: es).length + ([] : List Keyword).length + (if ([] : List Keyword).isEmpty then 0 else 1) < 30)) = true := by rfl)
    (hline : (apos.endLine == cpos.line) = true := by rfl) (hplain : (backTo cpos (starEach es X.env)).any (·.1) = false := by rfl) (hj : X.N[j]? = some y := by rfl) (hx : Loc X.env.scope y := by first | exact Or.inl rfl | exact Or.inr rfl) (hf : X.fn y = true ∨ X.env.scope.names.lookup y = some .local := by first | exact .inl rfl | exact .inr rfl | assumption)
    (hs : swapsWith (.Call (.Attribute (.Name x p1) "pop" apos) (e :: es) [] cpos) (some (.Name y p2)) pos.line X.env = pure false := by rfl) : VS X K cl W (.Assign [.Name y p2] (.Call (.Attribute (.Name x p1) "pop" apos) (e :: es) [] cpos) pos) (tAsg (tBM K "list" rPopU (tVar i) te) (L2.gName j)) (sPopTo i j t) := by
  obtain rfl := he.hK
  exact ⟨ps_set hND hj hx (pe_bm PySem.F.plainAttrs_list PySem.F.slot_list_pop PySem.F.type_list_pop mt_popU (pe_var hN hv hd hcd) he.pe hbase hfew hline hs1 hplain) hs hf, rfs_popTo he.rf, rfl⟩
theorem vs_popTo0 {i : Nat} {x : Str} {p1 apos cpos : Pos} {j : Nat} {y : Str} {p2 : Pos} (hND : X.N.Nodup) (hK : X.K = K := by rfl) (hN : X.N[i]? = some x := by rfl) (hv : Vis X.env.scope x := by first | exact Or.inl rfl | exact Or.inr (Or.inl rfl) | exact Or.inr (Or.inr rfl)) (hd : (x == ("__debug__" : Str)) = false := by decide)
    (hcd : (x == ("__classdict__" : Str)) = false := by decide) (hbase : attributeBase (.Name x p1) "pop" X.env (eval (.Name x p1) X.env) = eval (.Name x p1) X.env := by rfl)
    (hline : (apos.endLine == cpos.line) = true := by rfl) (hj : X.N[j]? = some y := by rfl) (hx : Loc X.env.scope y := by first | exact Or.inl rfl | exact Or.inr rfl) (hf : X.fn y = true ∨ X.env.scope.names.lookup y = some .local := by first | exact .inl rfl | exact .inr rfl | assumption)
    (hs : swapsWith (.Call (.Attribute (.Name x p1) "pop" apos) [] [] cpos) (some (.Name y p2)) pos.line X.env = pure false := by rfl) : VS X K cl W (.Assign [.Name y p2] (.Call (.Attribute (.Name x p1) "pop" apos) [] [] cpos) pos) (tAsg (tBM0 K "list" rPopU (tVar i)) (L2.gName j)) (sPopTo i j aNil) := by
  obtain rfl := hK
  exact ⟨ps_set hND hj hx (pe_bm0 PySem.F.plainAttrs_list PySem.F.slot_list_pop PySem.F.type_list_pop mt_popU (pe_var hN hv hd hcd) hbase hline) hs hf, rfs_popTo0, rfl⟩
theorem vs_popApp {i : Nat} {x : Str} {p1 apos cpos : Pos} {q1 qa qc : Pos} {e : Expr} {es : List Expr} {te : TA} {t : DA} (he : VA X K cl W (e :: es) te t) (hN : X.N[i]? = some x := by rfl) (hv : Vis X.env.scope x := by first | exact Or.inl rfl | exact Or.inr (Or.inl rfl) | exact Or.inr (Or.inr rfl)) (hd : (x == ("__debug__" : Str)) = false := by decide)
    (hcd : (x == ("__classdict__" : Str)) = false := by decide) (hs1 : starEach (e :: es) X.env = (false, eval e X.env) :: starEach es X.env := by rfl)
    (hbase : attributeBase (.Name x p1) "pop" X.env (eval (.Name x p1) X.env) = eval (.Name x p1) X.env := by rfl)
    (hfew : ((backTo cpos (starEach (e :: es) X.env)).all (fun x => !x.1) && (backToKw cpos (keywordEach [] X.env)).all (fun x => x.1.isSome)
      && decide ((e :: es).length + ([] : List Keyword).length + (if ([] : List Keyword).isEmpty then 0 else 1) < 30)) = true := by rfl)
    (hline : (apos.endLine == cpos.line) = true := by rfl) (hplain : (backTo cpos (starEach es X.env)).any (·.1) = false := by rfl)
    (hsA : starEach [(Expr.Call (.Attribute (.Name x p1) "pop" apos) (e :: es) [] cpos)] X.env = (false, eval (Expr.Call (.Attribute (.Name x p1) "pop" apos) (e :: es) [] cpos) X.env) :: starEach [] X.env := by rfl)
    (hbaseA : attributeBase (.Name x q1) "append" X.env (eval (.Name x q1) X.env) = eval (.Name x q1) X.env := by rfl)
    (hfewA : ((backTo qc (starEach [(Expr.Call (.Attribute (.Name x p1) "pop" apos) (e :: es) [] cpos)] X.env)).all (fun x => !x.1) && (backToKw qc (keywordEach [] X.env)).all (fun x => x.1.isSome)
      && decide ([(Expr.Call (.Attribute (.Name x p1) "pop" apos) (e :: es) [] cpos)].length + ([] : List Keyword).length + (if ([] : List Keyword).isEmpty then 0 else 1) < 30)) = true := by rfl)
    (hlineA : (qa.endLine == qc.line) = true := by rfl) (hplainA : (backTo qc (starEach [] X.env)).any (·.1) = false := by rfl)
    (hs : swapsWith (.Call (.Attribute (.Name x q1) "append" qa) [(Expr.Call (.Attribute (.Name x p1) "pop" apos) (e :: es) [] cpos)] [] qc) none pos.line X.env = pure false := by rfl) :
    VS X K cl W (.Expr (.Call (.Attribute (.Name x q1) "append" qa) [(Expr.Call (.Attribute (.Name x p1) "pop" apos) (e :: es) [] cpos)] [] qc) pos) (tDrop (tBM K "list" rAppend (tVar i) (tCons (tBM K "list" rPopU (tVar i) te) tNil))) (sPopApp i t) := by
  obtain rfl := he.hK
  exact ⟨ps_expr (pe_bm PySem.F.plainAttrs_list PySem.F.slot_list_append PySem.F.type_list_append mt_append (pe_var hN hv hd hcd) (pa_cons (pe_bm PySem.F.plainAttrs_list PySem.F.slot_list_pop PySem.F.type_list_pop mt_popU (pe_var hN hv hd hcd) he.pe hbase hfew hline hs1 hplain) pa_nil hsA) hbaseA hfewA hlineA hsA hplainA) hs, rfs_popApp he.rf, rfl⟩
theorem vs_setIx {i : Nat} {x : Str} {p1 p2 : Pos} {a b : Expr} {ta tb : TE} {p q : DT} (ha : VE X K cl W a ta p) (hb : VE X K cl W b tb q) (hN : X.N[i]? = some x := by rfl) (hv : Vis X.env.scope x := by first | exact Or.inl rfl | exact Or.inr (Or.inl rfl) | exact Or.inr (Or.inr rfl)) (hd : (x == ("__debug__" : Str)) = false := by decide)
    (hcd : (x == ("__classdict__" : Str)) = false := by decide)
    (hs : swapsWithSole [.Subscript (.Name x p1) a p2] b pos.line X.env = pure false := by rfl) (hw : swappedStores [.Subscript (.Name x p1) a p2] b X.env = pure none := by rfl)
    (h1 : (assignEach [.Subscript (.Name x p1) a p2] X.env).map (·.2) = [assign (.Subscript (.Name x p1) a p2) X.env] := by rfl)
    (h2 : ∀ v, assign (.Subscript (.Name x p1) a p2) X.env v = (do
      let ov ← holding [v] (eval (.Name x p1) X.env)
      let iv ← holding [v, ov] (eval a X.env)
      standAt p2
      holding [v, ov, iv] (setItem ov iv v)
      release [v, ov, iv] []) := by intro _; rfl) :
    VS X K cl W (.Assign [.Subscript (.Name x p1) a p2] b pos) (tAsg tb (gSub (tVar i) ta rSetL)) (sSetIx i p q) := by
  obtain rfl := ha.hK
  exact ⟨ps_asg hb.pe (pg_sub (pe_var hN hv hd hcd) ha.pe set_list h2) hs hw h1, rfs_setIx ha.rf hb.rf, rfl⟩
theorem vs_augIxAdd {i : Nat} {x : Str} {p1 p2 : Pos} {a b : Expr} {ta tb : TE} {p q : DT} (ha : VE X K cl W a ta p) (hb : VE X K cl W b tb q) (hN : X.N[i]? = some x := by rfl) (hv : Vis X.env.scope x := by first | exact Or.inl rfl | exact Or.inr (Or.inl rfl) | exact Or.inr (Or.inr rfl)) (hd : (x == ("__debug__" : Str)) = false := by decide)
    (hcd : (x == ("__classdict__" : Str)) = false := by decide)
    (h2 : ∀ ov iv new, augStore a ov iv new = (do holding [new, ov, iv] (setItem ov iv new); release [new, ov, iv] []; pure .next) := by intros; rfl) :
    VS X K cl W (.AugAssign (.Subscript (.Name x p1) a p2) .Add b pos) (tAugS (tVar i) ta tb (rGetL K) (ipI fun i j => i + j) rSetL) (sAugIx oAddI i p q) := by
  obtain rfl := ha.hK
  exact ⟨ps_augS (pe_var hN hv hd hcd) ha.pe get_L hb.pe ip_add set_list h2, rfs_augIx ha.rf hb.rf (rf_ipI (fun _ _ _ => rfl) fun x y Q q => by cases x <;> cases y <;> first | exact ⟨_, _, rfl, rfl⟩ | exact q.elim), rfl⟩
theorem vs_augIxSub {i : Nat} {x : Str} {p1 p2 : Pos} {a b : Expr} {ta tb : TE} {p q : DT} (ha : VE X K cl W a ta p) (hb : VE X K cl W b tb q) (hN : X.N[i]? = some x := by rfl) (hv : Vis X.env.scope x := by first | exact Or.inl rfl | exact Or.inr (Or.inl rfl) | exact Or.inr (Or.inr rfl)) (hd : (x == ("__debug__" : Str)) = false := by decide)
    (hcd : (x == ("__classdict__" : Str)) = false := by decide)
    (h2 : ∀ ov iv new, augStore a ov iv new = (do holding [new, ov, iv] (setItem ov iv new); release [new, ov, iv] []; pure .next) := by intros; rfl) :
    VS X K cl W (.AugAssign (.Subscript (.Name x p1) a p2) .Sub b pos) (tAugS (tVar i) ta tb (rGetL K) (ipI fun i j => i - j) rSetL) (sAugIx oSub i p q) := by
  obtain rfl := ha.hK
  exact ⟨ps_augS (pe_var hN hv hd hcd) ha.pe get_L hb.pe ip_sub set_list h2, rfs_augIx ha.rf hb.rf (rf_ipI (fun _ _ _ => rfl) fun x y Q q => by cases x <;> cases y <;> first | exact ⟨_, _, rfl, rfl⟩ | exact q.elim), rfl⟩
theorem vn_newK (hK : X.K = K := by rfl) : VN X K cl W (.Dict [] [] pos) tDNewK dNewK := by
  obtain rfl := hK
  exact ⟨pe_dnewK, rfn_newK, rfl⟩
theorem vs_putK {i : Nat} {x : Str} {p1 p2 : Pos} {a b : Expr} {ta tb : TE} {p q : DT} (hu : X.A.units + 65 < cLine) (ha : VE X K cl W a ta p) (hb : VE X K cl W b tb q) (hN : X.N[i]? = some x := by rfl) (hv : Vis X.env.scope x := by first | exact Or.inl rfl | exact Or.inr (Or.inl rfl) | exact Or.inr (Or.inr rfl)) (hd : (x == ("__debug__" : Str)) = false := by decide)
    (hcd : (x == ("__classdict__" : Str)) = false := by decide)
    (hs : swapsWith b (some (.Subscript (.Name x p1) a p2)) pos.line X.env = pure false := by rfl) :
    VS X K cl W (.Assign [.Subscript (.Name x p1) a p2] b pos) (sDPut (tVar i) ta tb) (sPutK i p q) := by
  obtain rfl := ha.hK
  exact ⟨ps_dput (by omega) (pe_var hN hv hd hcd) ha.pe hb.pe hs, rfs_putK ha.rf hb.rf, rfl⟩
theorem ve_ixK {i : Nat} {x : Str} {p1 : Pos} {b : Expr} {tb : TE} {q : DT} (hu : X.A.units + 65 < cLine) (hb : VE X K cl W b tb q) (hs : NoSl b := by exact fun _ _ => rfl) (hN : X.N[i]? = some x := by rfl) (hv : Vis X.env.scope x := by first | exact Or.inl rfl | exact Or.inr (Or.inl rfl) | exact Or.inr (Or.inr rfl)) (hd : (x == ("__debug__" : Str)) = false := by decide)
    (hcd : (x == ("__classdict__" : Str)) = false := by decide) :
    VE X K cl W (.Subscript (.Name x p1) b pos) (tDGet (tVar i) tb) (dIxK i q) := by
  obtain rfl := hb.hK
  exact ⟨pe_dget (by omega) (pe_var hN hv hd hcd) hb.pe hs, rfe_ixK hb.rf, rfl⟩
theorem ve_getK1 {apos : Pos} {a b : Expr} {ta tb : TE} {p q : DT} (hu : X.A.units + 65 < cLine) (ha : VE X K cl W a ta p) (hb : VE X K cl W b tb q) (m : M1 X a "get" apos b pos := by exact ⟨rfl, rfl, rfl, rfl⟩) :
    VE X K cl W (.Call (.Attribute a "get" apos) [b] [] pos) (tDGet1 ta tb) (dGetK1 p q) := by
  obtain rfl := ha.hK
  exact ⟨pe_dget1 (by omega) ha.pe hb.pe m, rfe_getK1 ha.rf hb.rf, rfl⟩
theorem ve_getK2 {apos : Pos} {a b c : Expr} {ta tb tc : TE} {p q r : DT} (hu : X.A.units + 65 < cLine) (ha : VE X K cl W a ta p) (hb : VE X K cl W b tb q) (hc : VE X K cl W c tc r) (m : M2 X a "get" apos b c pos := by exact ⟨rfl, rfl, rfl, rfl⟩) :
    VE X K cl W (.Call (.Attribute a "get" apos) [b, c] [] pos) (tDGet2 ta tb tc) (dGetK2 p q r) := by
  obtain rfl := ha.hK
  exact ⟨pe_dget2 (by omega) ha.pe hb.pe hc.pe m, rfe_getK2 ha.rf hb.rf hc.rf, rfl⟩
/-! dict displays -/
structure PReps (K : Fg) (cl : Cl) (F : Hp) (ps : List (V × V)) (ds : List (D × D)) : Prop where
  a : Reps K cl F (ps.map (·.1)) (ds.map (·.1))
  b : Reps K cl F (ps.map (·.2)) (ds.map (·.2))
structure RfP (K : Fg) (cl : Cl) (W : WX) (trs : List (TE × TE)) (t : DPs) : Prop where
  mono2 : ∀ E E' ρ (P P' : List (D × D) → Prop), (∀ e ρ, E e ρ → E' e ρ) → (∀ d, P d → P' d) → t E ρ P → t E' ρ P'
  ok : ∀ F0 H0 F H σ ρ E (Q : List (V × V) → Hp → Prop), Hold K cl F0 H0 F H σ ρ → LinkE K cl F0 H0 W E → t E ρ (fun ds => ∀ ps F' H', Gr F H F' H' → PReps K cl F' ps ds → Q ps H') → tPairs trs σ H Q
theorem RfP.mono {trs : List (TE × TE)} {t : DPs} (h : RfP K cl W trs t) (E : EK) (ρ : DL.Env) (P P' : List (D × D) → Prop) (f : ∀ d, P d → P' d) (q : t E ρ P) : t E ρ P' := h.mono2 E E ρ P P' (fun _ _ z => z) f q
theorem rfp_nil : RfP K cl W [] pNil where
  mono2 := fun E E' ρ P P' hE h q => h _ q
  ok := fun F0 H0 F H σ ρ E Q hh _ q => q [] F H (Gr.refl hh.g.s) ⟨.nil, .nil⟩
theorem rfp_cons {ta tb : TE} {a b : DT} {trs : List (TE × TE)} {r : DPs} (ha : RfE K cl W ta a) (hb : RfE K cl W tb b) (hr : RfP K cl W trs r) : RfP K cl W ((ta, tb) :: trs) (pCons a b r) where
  mono2 := fun E E' ρ P P' hE h q => ha.mono2 E E' ρ _ _ hE (fun x q => hb.mono2 E E' ρ _ _ hE (fun y q => hr.mono2 E E' ρ _ _ hE (fun ps q => h _ q) q) q) q
  ok := fun F0 H0 F H σ ρ E Q hh le q => by
    refine ha.ok F0 H0 F H σ ρ E _ hh le (ha.mono E ρ _ _ (fun x q v F1 H1 g1 r1 => ?_) q)
    refine hb.ok F0 H0 F1 H1 σ ρ E _ (hh.grow g1) le (hb.mono E ρ _ _ (fun y q u F2 H2 g2 r2 => ?_) q)
    refine hr.ok F0 H0 F2 H2 σ ρ E _ ((hh.grow g1).grow g2) le (hr.mono E ρ _ _ (fun ps q us F3 H3 g3 r3 => ?_) q)
    exact q _ F3 H3 ((g1.trans g2).trans g3) ⟨.cons ((r1.mono g2.f).mono g3.f) r3.a, .cons (r2.mono g3.f) r3.b⟩
theorem preps_keys {F : Hp} : ∀ {ds : List (D × D)} {ps : List (V × V)} {kvs : List (DL.Key × D)}, PReps K cl F ps ds → keyV ds = some kvs → ∃ ws : List (L2.Key × V), ps = ws.map (fun kv => (kV kv.1, kv.2)) ∧ KReps K cl F ws kvs
  | [], [], kvs, _, e => by
    cases e
    exact ⟨[], rfl, .nil⟩
  | [], _ :: _, kvs, r, e => by cases r.a
  | (k, d) :: ds, [], kvs, r, e => by cases r.a
  | (k, d) :: ds, (u, v) :: ps, kvs, ⟨.cons ra rra, .cons rb rrb⟩, e => by
    unfold keyV at e
    cases ek : keyOf k with
    | none => rw [ek] at e; cases e
    | some j =>
      cases er : keyV ds with
      | none => rw [ek, er] at e; cases e
      | some js =>
        rw [ek, er] at e
        cases e
        obtain ⟨ws, e1, r1⟩ := preps_keys ⟨rra, rrb⟩ er
        have hk : k = dKey j := by
          cases k <;> first | (cases ek; rfl) | cases ek
        rw [hk] at ra
        have eu : u = kV j := rep_key ra
        exact ⟨(j, v) :: ws, by rw [List.map_cons, ← e1, eu], .cons rb r1⟩
theorem KReps.merges {F : Hp} : ∀ {ws : List (L2.Key × V)} {kvs : List (DL.Key × D)} {us : List (L2.Key × V)} {js : List (DL.Key × D)}, KReps K cl F ws kvs → KReps K cl F us js → KReps K cl F (mergeK us ws) (kvs.foldl (fun acc p => putD acc p.1 p.2) js)
  | _, _, _, _, .nil, r0 => r0
  | _, _, _, _, .cons (k := k) h r1, r2 => by
    have z := KReps.merges r1 (r2.put k h)
    exact z
theorem rfn_disp {trs : List (TE × TE)} {t : DPs} (h : RfP K cl W trs t) : RfN K cl W (tDisp trs) (dDisp t) where
  mono2 := fun E E' ρ P P' hE hh q => h.mono2 E E' ρ _ _ hE (fun ps q => by
    obtain ⟨kvs, e, q⟩ := gSm_out q
    exact gSm_in e ⟨q.1, hh _ q.2⟩) q
  ok := fun F0 H0 F H σ ρ E Q hh le q p hp => by
    have g0 : Gr F H F (upd H p (.dK [])) := Gr.h hh.g.s (same_upd hp)
    refine h.ok F0 H0 F _ σ ρ E _ (hh.grow g0) le (h.mono E ρ _ _ (fun ds q ps F1 H1 g1 r1 => ?_) q)
    obtain ⟨kvs, e, q⟩ := gSm_out q
    obtain ⟨ws, rfl, rk⟩ := preps_keys r1 e
    have e1 : H1 p = some (.dK []) := g1.k _ _ upd_same
    have fp : F1 p = none := g1.keepNone upd_same (hh.g.s.free hp)
    refine ⟨e1, ws, rfl, ?_, ?_⟩
    · have := r1.a.length
      simp only [List.length_map] at this
      omega
    · refine q.2 p F1 _ ⟨g1.f, fun b o z => ?_, fun b o z => ?_, fun b x y => ?_⟩ hp fp ⟨_, upd_same, KReps.merges rk .nil⟩
      · have hb : b ≠ p := ne_of_none z hp
        rw [upd_ne hb]
        exact g1.k _ _ (by rw [upd_ne hb]; exact z)
      · have hb : b ≠ p := ne_of_none z fp
        rw [upd_ne hb]
        exact g1.s _ _ z
      · have := g1.n b x y
        by_cases hb : b = p
        · subst hb; exact hp
        · rwa [upd_ne hb] at this
structure VPr (X : Cx) (K : Fg) (cl : Cl) (W : WX) (pos : Pos) (ks : List (Option Expr)) (vs : List Expr) (trs : List (TE × TE)) (t : DPs) : Prop where
  pe : PPs X pos ks vs trs
  rf : RfP K cl W trs t
  hK : X.K = K
theorem vpr_nil (hK : X.K = K := by rfl) : VPr X K cl W pos [] [] [] pNil := by
  obtain rfl := hK
  exact ⟨pps_nil, rfp_nil, rfl⟩
theorem vpr_cons {k v : Expr} {ks : List (Option Expr)} {vs : List Expr} {ta tb : TE} {a b : DT} {trs : List (TE × TE)} {r : DPs} (ha : VE X K cl W k ta a) (hb : VE X K cl W v tb b) (hr : VPr X K cl W pos ks vs trs r) : VPr X K cl W pos (some k :: ks) (v :: vs) ((ta, tb) :: trs) (pCons a b r) := by
  obtain rfl := ha.hK
  exact ⟨pps_cons ha.pe hb.pe hr.pe, rfp_cons ha.rf hb.rf hr.rf, rfl⟩
theorem vn_disp {ks : List (Option Expr)} {vs : List Expr} {trs : List (TE × TE)} {t : DPs} (h : VPr X K cl W pos ks vs trs t) (hall : ks.all (·.isSome) = true := by rfl) (hl : ks.length = vs.length := by rfl) (h0 : ks ≠ [] := by simp) (h15 : ks.length ≤ 15 := by decide) : VN X K cl W (.Dict ks vs pos) (tDisp trs) (dDisp t) := by
  obtain rfl := h.hK
  exact ⟨pe_disp h.pe hall hl h0 h15, rfn_disp h.rf, rfl⟩
end
end DL

set_option maxHeartbeats 2000000
/-! DExc: an own error class over ValueError whose __init__ says super().__init__(..) and keeps its arguments. -/
namespace DL
open PySem L2 PyProof.Rows
/-- the scope of such an __init__: parameters, the class's cell, globals -/
structure IScope (ps : List Str) (sc : Scope) : Prop where
  kind : sc.kind = .function
  co : sc.isCoroutine = false
  gen : sc.isGenerator = false
  nd : ps.Nodup
  par : ∀ x ∈ ps, sc.names.lookup x = some .local
  nocell : ∀ x ∈ sc.names, x.2 ≠ .cell
  fr : ∀ x ∈ sc.names, x.2 = .free → x.1 = ("__class__" : Str)
  cls : sc.names.lookup ("__class__" : Str) = some .free
  sup : sc.names.lookup ("super" : Str) = some .globalImplicit
theorem upd_own {H : Hp} {a : Addr} {o : HO} (h : H a = some o) : upd H a o = H := by
  funext p
  by_cases e : p = a
  · rw [e, upd_same, h]
  · rw [upd_ne e]
/-- the context of its body -/
def cxI (P : Program) (w : World) (K : Fg) (mg : Str → Option Value) (base : Heap) (N : List Str) (qual : Str) (scope : Scope) (f : Addr) (cd : Value) (cc : Addr) (A : Around) (outer : List PySem.Env) (s : Shared) (H : Hp) (E : XK) : Cx where
  prog := P
  w := w
  K := K
  mg := mg
  base := base
  A := A.deeper (PySem.W.ksEnv qual scope s.heap.objs.size f cd cc)
  N := N
  s_0 := s
  H_0 := H
  env := PySem.W.ksEnv qual scope s.heap.objs.size f cd cc
  outer := outer
  stack := PySem.W.ksEnv qual scope s.heap.objs.size f cd cc :: outer
  ex := []
  calm := true
  fn := fun _ => false
  pn := []
  xe := fun e s' => wpAny (model P w) (A.deeper (PySem.W.ksEnv qual scope s.heap.objs.size f cd cc)) (leaving (PySem.W.ksEnv qual scope s.heap.objs.size f cd cc) e) (fun _ s'' => L2.CX P w outer H s E e s'') (fun e' s'' => L2.CX P w outer H s E e' s'') s'
theorem rev_look : ∀ {ps : List Str} {us : List Value} {i : Nat} {y : Str} {u : Value}, ps.Nodup → ps[i]? = some y → us[i]? = some u → (ps.zip us).reverse.lookup y = some u := by
  intro ps us i y u nd h1 h2
  have key : ∀ (l : List (Str × Value)), (l.map (·.1)).Nodup → (y, u) ∈ l → l.lookup y = some u := by
    intro l
    induction l with
    | nil => intro _ h; cases h
    | cons p r ih =>
      intro nd h
      obtain ⟨a, b⟩ := p
      simp only [List.map_cons, List.nodup_cons] at nd
      rw [List.lookup_cons]
      by_cases e : y = a
      · subst e
        have : b = u := by
          rcases List.mem_cons.mp h with z | z
          · cases z; rfl
          · exact absurd (List.mem_map_of_mem (f := (·.1)) z) nd.1
        simp [this]
      · have z : (y == a) = false := by simpa using e
        rw [z]
        rcases List.mem_cons.mp h with z | z
        · cases z; exact absurd rfl e
        · exact ih nd.2 z
  have sub : ∀ (ps : List Str) (us : List Value), ps.Nodup → ((ps.zip us).map (·.1)).Nodup := by
    intro ps
    induction ps with
    | nil => intro us _; simp
    | cons p r ih =>
      intro us nd
      cases us with
      | nil => simp
      | cons u us =>
        simp only [List.zip_cons_cons, List.map_cons, List.nodup_cons] at nd ⊢
        refine ⟨fun z => nd.1 ?_, ih us nd.2⟩
        obtain ⟨q, hq, e⟩ := List.mem_map.mp z
        rw [← e]
        exact (List.of_mem_zip hq).1
  apply key
  · rw [List.map_reverse]
    exact List.pairwise_reverse.mpr ((sub ps us nd).imp fun h z => h z.symm)
  · rw [List.mem_reverse, List.mem_iff_getElem?]
    exact ⟨i, List.getElem?_zip_eq_some.mpr ⟨h1, h2⟩⟩
section
variable {P : Program} {w : World} {K : Fg} {mg : Str → Option Value} {base : Heap} {ps : List Str} {qual : Str} {sc : Scope} {f cc C : Addr} {cd : Value} {A : Around} {outer : List PySem.Env} {s : Shared} {H : Hp} {E : XK}
/-- at its start -/
theorem inv_init {us : List Value} {vs : List V} {h1 : Heap} {tk : Nat} {cl : Value} {cld : Option Addr} {csl : Array (Option Value)} (S : IScope ps sc) (hd : A.handled = none) (e0 : Env0 P w K mg base A outer s H) (hl : vs.length = ps.length) (r : Vals vs us)
    (hcell : K.lookup cc = some ⟨cl, cld, .cell (some (.ref C)), csl⟩) (hns : h1.Ns s.heap.objs.size fun y => (ps.zip us).reverse.lookup y) (hk : ∀ b o, s.heap.get? b = some o → h1.get? b = some o) :
    Inv (cxI P w K mg base ps qual sc f cd cc A outer s H E) [] (vs.map some) H { s with heap := h1, toks := tk } := by
  have hc := e0.mod.kin _ _ hcell
  have hc1 := e0.bs _ _ hc
  have noA : ∀ b : Addr, b ∉ (cxI P w K mg base ps qual sc f cd cc A outer s H E).ex := fun b z => absurd (show b ∈ ([] : List Addr) from z) (by simp)
  have one : ∀ x c, (cxI P w K mg base ps qual sc f cd cc A outer s H E).env.cells.lookup x = some c → x = ("__class__" : Str) ∧ c = cc := fun x c z => by
    have z' : ([(("__class__" : Str), cc)] : List (Str × Addr)).lookup x = some c := z
    rw [List.lookup_cons] at z'
    cases e : x == ("__class__" : Str) with
    | true =>
      rw [e] at z'
      exact ⟨by simpa using e, (Option.some.inj z').symm⟩
    | false => rw [e] at z'; cases z'
  refine ⟨⟨e0.mod, S.kind, rfl, rfl, Nat.le_refl _, fun y z c h1 h2 => (one _ _ h1).1.trans (one _ _ h2).1.symm, fun y hy => ?_, fun y c h _ => Bool.noConfusion h, fun _ => hd, Around.frames_deeper e0.frames, .inr ⟨rfl, rfl⟩, fun b z => absurd z (noA b), e0.bs, e0.bsz, fun b _ _ => noA b, fun b z => absurd z (noA b), e0.funs, e0.frf⟩,
    rfl, e0.bare, Un.kept hk, ⟨_, hns, fun i y v h1 h2 h3 => ?_⟩, fun y c h => ?_, e0.hok.fresh (Nat.le_refl _), fun y c h => ?_, fun p hp => absurd (show p ∈ ([] : List (Addr × Obj)) from hp) (by simp), e0.hok.kept hk, ?_⟩
  · have hy : sc.names.lookup y = some .cell ∨ sc.names.lookup y = some .free := hy
    rcases hy with hy | hy
    · exact absurd rfl (S.nocell _ (PySem.mem_of_lookup hy))
    · have e := S.fr _ (PySem.mem_of_lookup hy) rfl
      subst e
      exact ⟨cc, rfl⟩
  · rw [List.getElem?_map] at h2
    cases e : vs[i]? with
    | none => rw [e] at h2; cases h2
    | some a =>
      rw [e] at h2
      cases h2
      obtain ⟨u, hu, rv⟩ := r.get e
      exact ⟨u, rv, .inl ⟨S.par y (List.mem_of_getElem? h1), rev_look S.nd h1 hu⟩⟩
  · obtain ⟨rfl, rfl⟩ := one _ _ h
    exact ⟨_, _, hk _ _ hc1.1, rfl⟩
  · obtain ⟨rfl, rfl⟩ := one _ _ h
    exact hc1.2
  · show (vs.map some).length = ps.length
    rw [List.length_map, hl]
/-- what the written part says of such a class and its __init__ -/
structure ErrC (P : Program) (K : Fg) (C cc cda f : Addr) (fd : FuncData) : Prop where
  oex : OexC K C
  file : ∃ cl od vs sl fi tf, K.lookup cda = some ⟨cl, od, .fields vs, sl⟩ ∧ vs[2]? = some (.str fi tf) ∧ (P.main.file == fi) = true
  fn : ∃ oc od osl, K.lookup f = some ⟨oc, od, .func fd, osl⟩
  cell : ∃ cl od sl, K.lookup cc = some ⟨cl, od, .cell (some (.ref C)), sl⟩
  top : (P.main.scope.names.lookup ("super" : Str)).isSome = false
  opq : PySem.W.nsIn K cStatics "thirdparty.any" = some none
  sup : PySem.W.ks_superIn K C C "__init__" = some (some (.builtin "ValueError.__init__"))
  sub : PySem.W.subIn K (.ref C) (.type "ValueError") = some true
  mro : PySem.W.mroIn K C (.ref C) = some true
/-- the call of the wrapper that super().__init__ is -/
theorem call_mw {X : Cx} {pins : List (Addr × Obj)} {σ : L2.St} {u a : Addr} {us : List Value} {Q : Value → Shared → Prop} (T : OexC X.K C) (I : Inv X pins σ H s) (e : H a = some (exo a C none)) (hu : s.heap.get? u = some (PySem.W.kxs_mw "ValueError.__init__" a)) (hl : us.length ≤ sizeLine)
    (h : ∀ s', Inv X pins σ H s' → Q .none s') : wpAny (model X.prog X.w) X.A (call (.ref u) us) Q X.xe s := by
  obtain ⟨nm, qn, N, bs, bm, sn, sub, ab, col, dd, k0, k1, k2, k3, k5, hC, hbm⟩ := T.cls
  obtain ⟨t1, ho⟩ := exo_at I.hok e
  have hC' := I.kIn _ _ hC
  obtain ⟨hp, g, d, tk, os⟩ := s
  refine wpAny_call (codeAny_of_tree ?_)
  show wpAny _ X.A.in1 (callAny (.ref u) { pos := us, kw := [] }) _ _ _
  simp only [callAny]
  refine wpAny_bind (wpAny_load hu ?_)
  simp only [PySem.W.kxs_mw, show (Value.type "method-wrapper" == Value.type "method" || Value.type "method-wrapper" == Value.type "builtin_function_or_method" || Value.type "method-wrapper" == Value.type "method-wrapper") = true by decide, if_true]
  refine PySem.W.KFB.if_so (by decide) ?_
  refine wpAny_bind (PySem.W.check_bound_init F.excBase_ValueError.toExcCallFacts hC' ho rfl ?_)
  refine wpAny_bind (wpAny_pure (wpAny_pure ⟨plainId_quiet F.excBase_ValueError.init.plain _, codeAny_builtin F.excBase_ValueError.initEntry ?_⟩))
  refine PySem.W.exc_init_tree (cls := .ref C) (t0 := t1) (dv := none) (c2 := .none) (c3 := .none) (b4 := .bool false) ho hl fun h' k hx ht => ?_
  have J := I.write (t' := tk) (x := a) (e := a) (o := exo a C none) (by rw [e]; exact True.intro) (.inl rfl) k ⟨_, hx⟩ (exo_ok hx)
  rw [upd_own e] at J
  exact h _ J
/-- super().__init__(e) as a statement -/
theorem super_init {s0 : Shared} {H0 : Hp} {pins : List (Addr × Obj)} {σ : L2.St} {a cda : Addr} {name : Str} {params : Arguments} {body bd : List Stmt} {kV doc pm ct : Value} {an : Option Addr} {ar : Arg} {e : Expr} {te : TE} {p0 p1 p2 p3 p4 : Pos} {pl : Sem Bool} {R : Hp → Prop}
    (S : IScope ps sc) (T : ErrC P K C cc cda f (PySem.W.ksFn name qual params body sc .none kV doc pm an (.ref cda) ct cc))
    (hpar : (params.posonlyargs ++ params.args).head? = some ar) (hN : ps[0]? = some ar.arg) (hm : mg ("super" : Str) = none)
    (I : Inv (cxI P w K mg base ps qual sc f (.ref cda) cc A outer s0 H0 E) pins σ H s) (hs : σ[0]? = some (some (.ref a))) (ha : H a = some (exo a C none)) (he : PE (cxI P w K mg base ps qual sc f (.ref cda) cc A outer s0 H0 E) e te) (q : te σ H fun _ H1 => H1 a = some (exo a C none) ∧ R H1)
    (heval : eval (.Call (.Attribute (.Call (.Name "super" p0) [] [] p1) "__init__" p2) [e] [] p3) (PySem.W.ksEnv qual sc s0.heap.objs.size f (.ref cda) cc) = (do
      let ov ← attributeBase (.Call (.Name "super" p0) [] [] p1) "__init__" (PySem.W.ksEnv qual sc s0.heap.objs.size f (.ref cda) cc) (eval (.Call (.Name "super" p0) [] [] p1) (PySem.W.ksEnv qual sc s0.heap.objs.size f (.ref cda) cc))
      standAt p2.atName
      let (g, first) ← holding [ov] (getMethod ov "__init__" pl)
      callWith p3 g first (backTo p3 (starEach [e] (PySem.W.ksEnv qual sc s0.heap.objs.size f (.ref cda) cc))) []) := by rfl)
    (hint : interactive (PySem.W.ksEnv qual sc s0.heap.objs.size f (.ref cda) cc) = false := by rfl) (hsw : swapsWith (.Call (.Attribute (.Call (.Name "super" p0) [] [] p1) "__init__" p2) [e] [] p3) none p4.line (PySem.W.ksEnv qual sc s0.heap.objs.size f (.ref cda) cc) = pure false := by rfl)
    (hst : starEach [e] (PySem.W.ksEnv qual sc s0.heap.objs.size f (.ref cda) cc) = (false, eval e (PySem.W.ksEnv qual sc s0.heap.objs.size f (.ref cda) cc)) :: starEach [] (PySem.W.ksEnv qual sc s0.heap.objs.size f (.ref cda) cc) := by rfl) :
    _root_.PySem.wpAt (model P w) (A.deeper (PySem.W.ksEnv qual sc s0.heap.objs.size f (.ref cda) cc)) (.func bd (PySem.W.ksEnv qual sc s0.heap.objs.size f (.ref cda) cc)) (exec (.Expr (.Call (.Attribute (.Call (.Name "super" p0) [] [] p1) "__init__" p2) [e] [] p3) p4) (PySem.W.ksEnv qual sc s0.heap.objs.size f (.ref cda) cc))
      (fun fl s' => fl = Flow.next ∧ ∃ H', Inv (cxI P w K mg base ps qual sc f (.ref cda) cc A outer s0 H0 E) pins σ H' s' ∧ R H') (cxI P w K mg base ps qual sc f (.ref cda) cc A outer s0 H0 E).xe s := by
  refine ks_wpAt_Expr_any ?_ hint hsw
  refine ks_wpAt_MethodCall (pl := pl) ?_ heval
  have X := I.kIn
  obtain ⟨cl1, od1, vs1, sl1, fi, tf, hcda, hv2, hfile⟩ := T.file
  obtain ⟨oc, od, osl, hf⟩ := T.fn
  obtain ⟨cl2, od2, sl2, hcc⟩ := T.cell
  obtain ⟨nm, qn, N, bs, bm, sn, sub, ab, col, dd, k0, k1, k2, k3, k5, hC, hbm⟩ := T.oex.cls
  have hcl : PySem.W.clsIn K C = some { name := nm, bases := bs, mro := .ref C :: bm, ns := N, qualname := qn, hasDict := true, slotNames := sn, subclasses := sub, abstract := ab, collection := col, hasDel := false } := by unfold PySem.W.clsIn; rw [hC] <;> rfl
  obtain ⟨t1, ho⟩ := exo_at I.hok ha
  obtain ⟨m, hns, hloc⟩ := I.loc
  have hself : m ar.arg = some (.ref a) := by
    have hmem := List.mem_of_getElem? hN
    obtain ⟨u, ru, lk⟩ := hloc 0 ar.arg _ hN hs (.inl (S.par _ hmem))
    rcases lk with ⟨_, z⟩ | ⟨z | z, _⟩
    · rw [z]
      obtain rfl : u = Value.ref a := ru
      rfl
    · have z' : sc.names.lookup ar.arg = some .cell := z
      rw [S.par _ hmem] at z'
      cases z'
    · have z' : sc.names.lookup ar.arg = some .free := z
      rw [S.par _ hmem] at z'
      cases z'
  have hxC : a ≠ C := fun z => by
    have z2 := X _ _ hC
    rw [← z, ho] at z2
    cases z2
  have hb := I.bs _ _ (I.mod.kin _ _ hC)
  refine ks_wpAt_super_base (env := PySem.W.ksEnv qual sc s0.heap.objs.size f (.ref cda) cc) S.sup S.cls (by decide) rfl (X _ _ hf) rfl hpar rfl (X _ _ hcda) rfl hv2 hfile T.top ?_
  obtain ⟨mb, hmb, hbl⟩ := I.mod.blt
  refine PySem.W.ks_loadName_global S.kind S.sup (Calls.loadGlobal_builtin (env := PySem.W.ksEnv qual sc s0.heap.objs.size f (.ref cda) cc) (I.mod.glob.keeps I.bk) hm (hmb.keeps I.bk) ((hbl _ (by decide)).trans (by decide +kernel)) ⟨rfl, ?_⟩)
  refine wpAny_loadName_free S.kind S.cls rfl ⟨_, X _ _ hcc, rfl⟩ ?_
  refine wpAny_loadName_local S.kind (S.par _ (List.mem_of_getElem? hN)) hns hself ?_
  have hD2 : (excClassObj nm qn C N bs bm true sn sub ab col dd k0 k1 k2 k3 k5 "ValueError.__new__").data = .cls { name := nm, bases := bs, mro := .ref C :: bm, ns := N, qualname := qn, hasDict := true, slotNames := sn, subclasses := sub, abstract := ab, collection := col, hasDel := false } := rfl
  obtain ⟨hp, g, d, tk, os⟩ := s
  refine ks_wpAny_isType_cls (X _ _ hC) hD2 ⟨rfl, ?_⟩
  refine ks_wpAny_call_super (X _ _ hC) hD2 ho rfl (fun c z => by cases z) (PySem.W.looks_mroIn X T.mro) (fun h1 eso k1 => ?_)
  have I1 := I.kept (t' := tk) k1
  obtain ⟨t2, ho2⟩ := exo_at I1.hok ha
  have X1 := I1.kIn
  have Ia : PySem.W.InstAt h1 a { cls := .ref C, dict := none, data := .fields #[.ref t2, .none, .none, .none, .bool false, .none] } C none := ⟨ho2, rfl, rfl, trivial⟩
  have hm2 := T.sup
  unfold PySem.W.ks_superIn at hm2
  rw [hcl] at hm2
  refine PySem.W.kxs_getMethod PySem.W.kxs_ValueError eso (PySem.W.looks_opaque X1 T.opq) (l₀ := .ref C :: bm) ?_ rfl X1 hm2 (Ia.type.andThen (PySem.W.looks_subIn X1 T.sub)) hxC (by decide) ?_
  · exact fun A Q E s k q => wpAny_bind ((PySem.W.looks_clsIn X1 hcl) A _ E s k (wpAny_pure q))
  have k2 : ∀ b o, h1.get? b = some o → (h1.push (PySem.W.kxs_mw "ValueError.__init__" a)).get? b = some o := fun b o z => Heap.get?_push_of_some _ z
  have I2 := I1.kept (t' := tk + 1) k2
  have hu : (h1.push (PySem.W.kxs_mw "ValueError.__init__" a)).get? h1.objs.size = some (PySem.W.kxs_mw "ValueError.__init__" a) := Heap.get?_push_size _ rfl
  have I3 := I2.pins_of (pins' := (h1.objs.size, PySem.W.kxs_mw "ValueError.__init__" a) :: pins) fun p hp => by
    rcases List.mem_cons.mp hp with rfl | hp
    · exact ⟨hu, I1.hok.fresh (Nat.le_refl _), Nat.ne_of_gt I1.lt, I1.nofs (Nat.le_refl _), fun v z => by cases z⟩
    · exact I2.pin p (List.mem_append_right _ hp)
  refine PySem.W.kxs_callWith (i := "ValueError.__init__") (x := a) (by rw [hst]; rfl) ?_
  rw [hst]
  refine Calls.evalArgs_plain (Calls.spliced_cons (thn (he.run _ _ σ H _ I3 q) fun u s4 ⟨v, H4, I4, r4, ha4, qR⟩ => Calls.spliced_nil ?_))
  have hu4 := (I4.pin _ (List.mem_append_right _ List.mem_cons_self)).1
  have J4 := I4.pins_of (pins' := pins) fun p hp => I4.pin p (List.mem_append_right _ (List.mem_cons_of_mem _ hp))
  exact ⟨hu4, call_mw T.oex J4 ha4 hu4 (by show 1 ≤ sizeLine; rw [sizeLine_eq]; omega) fun s' J => ⟨rfl, H4, J, qR⟩⟩
end
/-- the promise of such an __init__: its arguments, texts and small numbers, are kept under the names fs -/
def okArg : V → Prop
  | .str x => x.length ≤ 1000 ∧ (PySem.reprText x).length ≤ 100000
  | .int i => i.natAbs.log2 < 1920
  | _ => False
def spI (K : Fg) (C : Addr) (fs : List Str) : Sp := fun vs H Q _ => ∃ (a : Addr) (us : List V), vs = .ref a :: us ∧ us.length = fs.length ∧ (∀ u ∈ us, okArg u) ∧ H a = some (exo a C none) ∧
  ∀ d, H d = none → d ≠ a → Q .non (upd (upd H d (exd d (fs.zip us).reverse)) a (exo a C (some d)))
section
variable {P : Program} {w : World} {K : Fg} {mg : Str → Option Value} {base : Heap} {ps : List Str} {qual : Str} {sc : Scope} {f cc C : Addr} {cda : Addr}
/-- THE RULE for such an __init__ -/
theorem init_ok {name : Str} {params : Arguments} {rest : List Stmt} {kV doc pm ct : Value} {an : Option Addr} {ar : Arg} {e : Expr} {p0 p1 p2 p3 p4 : Pos} {pl : Addr → Sem Bool} {fs : List Str} {k : Nat}
    (S : IScope ps sc) (T : ErrC P K C cc cda f (PySem.W.ksFn name qual params (.Expr (.Call (.Attribute (.Call (.Name "super" p0) [] [] p1) "__init__" p2) [e] [] p3) p4 :: rest) sc .none kV doc pm an (.ref cda) ct cc)) (hcd : PySem.W.codeIn K (.ref cda) qual = true)
    (hpar : (params.posonlyargs ++ params.args).head? = some ar) (hN : ps[0]? = some ar.arg) (hm : mg ("super" : Str) = none) (hfs : ps.length = fs.length + 1)
    (hbody : ∀ (A : Around) (outer : List PySem.Env) (s : Shared) (H : Hp) (E : XK) (a : Addr) (us : List V) (D : Ends), us.length = fs.length → (∀ u ∈ us, okArg u) → H a = some (exo a C none) → (∀ d, H d = none → d ≠ a → D.nx (some (.ref a) :: us.map some) (upd (upd H d (exd d (fs.zip us).reverse)) a (exo a C (some d)))) →
      ∃ te t, PE (cxI P w K mg base ps qual sc f (.ref cda) cc A outer s H E) e te ∧ PSs (cxI P w K mg base ps qual sc f (.ref cda) cc A outer s H E) rest t ∧ te (some (.ref a) :: us.map some) H fun _ H1 => H1 a = some (exo a C none) ∧ t D (some (.ref a) :: us.map some) H1)
    (heval : ∀ L : Addr, eval (.Call (.Attribute (.Call (.Name "super" p0) [] [] p1) "__init__" p2) [e] [] p3) (PySem.W.ksEnv qual sc L f (.ref cda) cc) = (do
      let ov ← attributeBase (.Call (.Name "super" p0) [] [] p1) "__init__" (PySem.W.ksEnv qual sc L f (.ref cda) cc) (eval (.Call (.Name "super" p0) [] [] p1) (PySem.W.ksEnv qual sc L f (.ref cda) cc))
      standAt p2.atName
      let (g, first) ← holding [ov] (getMethod ov "__init__" (pl L))
      callWith p3 g first (backTo p3 (starEach [e] (PySem.W.ksEnv qual sc L f (.ref cda) cc))) []) := by intro _; rfl)
    (hint : ∀ L : Addr, interactive (PySem.W.ksEnv qual sc L f (.ref cda) cc) = false := by intro _; rfl) (hsw : ∀ L : Addr, swapsWith (.Call (.Attribute (.Call (.Name "super" p0) [] [] p1) "__init__" p2) [e] [] p3) none p4.line (PySem.W.ksEnv qual sc L f (.ref cda) cc) = pure false := by intro _; rfl)
    (hst : ∀ L : Addr, starEach [e] (PySem.W.ksEnv qual sc L f (.ref cda) cc) = (false, eval e (PySem.W.ksEnv qual sc L f (.ref cda) cc)) :: starEach [] (PySem.W.ksEnv qual sc L f (.ref cda) cc) := by intro _; rfl) :
    FnOk P w K mg base (L2.CX P w) (k + 1) f (PySem.W.ksFn name qual params (.Expr (.Call (.Attribute (.Call (.Name "super" p0) [] [] p1) "__init__" p2) [e] [] p3) p4 :: rest) sc .none kV doc pm an (.ref cda) ct cc) ps (spI K C fs) := by
  refine ⟨fun vs H Q E h => ?_, fun A outer s H args us vs Q E hr e0 hb r hsp => ?_⟩
  · obtain ⟨a, us, rfl, hl, _⟩ := h
    rw [List.length_cons, hl, hfs]
  obtain ⟨a, ws, rfl, hl, hok, ha, hq⟩ := hsp
  obtain ⟨oc, od, osl, hf⟩ := T.fn
  obtain ⟨cl2, od2, sl2, hcc⟩ := T.cell
  have KX : K.In s.heap := e0.mod.kin.keeps fun b o z => (e0.bs b o z).1
  have lim : s.heap.NoLimit := e0.mod.nolimit.keeps fun b o z => (e0.bs b o z).1
  refine ks_codeAny_call_defAt (binds := ps.zip us) hr.depth (KX _ _ hf) rfl lim (PySem.W.codeRec_of KX hcd) rfl hb S.nocell (fun x hx => S.par _ (List.of_mem_zip hx).1) (fun h1 hns hk => ?_) S.co S.gen S.kind
  have hlv : (V.ref a :: ws).length = ps.length := by rw [List.length_cons, hl, hfs]
  have I : Inv (cxI P w K mg base ps qual sc f (.ref cda) cc A outer s H E) [] ((V.ref a :: ws).map some) H { s with heap := h1, toks := s.toks + (ps.zip us).length } := inv_init S hr.hd e0 hlv r hcc hns hk
  obtain ⟨te, t, he, ht, q⟩ := hbody A outer s H E a ws { nx := fun _ H' => Q .non H', rt := Q } hl hok ha fun d hd ne => hq d hd ne
  refine ks_wpAt_execs_cons (ks_wpAt_mono (super_init (bd := _) S T hpar hN hm I rfl ha he q (heval _) (hint _) (hsw _) (hst _)) (fun fl s' hs => ?_) fun _ _ z => z)
  obtain ⟨rfl, H1, I1, q1⟩ := hs
  have fin : ∀ {σ' : L2.St} {H' : Hp} {v : V} {u : Value} {s' : Shared}, Inv (cxI P w K mg base ps qual sc f (.ref cda) cc A outer s H E) [] σ' H' s' → RelV v u → Q v H' → CE outer P w H s Q u s' :=
    fun {σ' H' v u s'} J rv q => ⟨v, H', J.os, J.bare, J.base, J.hok, rv, q⟩
  refine ks_wpAt_mono (wpAt_of_wpAny (ht.run [] s' _ H1 _ I1 q1)) (fun fl s2 hs => ?_) fun e s2 hs => hs
  cases fl with
  | ret u =>
    obtain ⟨v, σ', H', J, rv, q⟩ := hs
    exact fin J rv q
  | next =>
    obtain ⟨σ', H', J, q⟩ := hs
    exact fin (v := V.non) (u := Value.none) J rfl q
  | brk =>
    obtain ⟨_, _, _, q⟩ := hs
    exact False.elim q
  | cont =>
    obtain ⟨_, _, _, q⟩ := hs
    exact False.elim q
/-- self.f = its argument, once and twice -/
theorem ost_1 {fn : Str} {a : Addr} {u : V} {H : Hp} {D : Ends} (T : OexC K C) (hno : PySem.W.findIn K (.ref C) fn = some none) (ha : H a = some (exo a C none)) (q : ∀ d, H d = none → d ≠ a → D.nx [some (.ref a), some u] (upd (upd H d (exd d [(fn, u)])) a (exo a C (some d)))) :
    tOst K fn (tVar 0) (tVar 1) D [some (.ref a), some u] H := ⟨u, rfl, .ref a, rfl, a, C, rfl, T, hno, .inl ⟨ha, q⟩⟩
theorem ost_2 {fn gn : Str} {a : Addr} {u v : V} {H : Hp} {D : Ends} (T : OexC K C) (h1 : PySem.W.findIn K (.ref C) fn = some none) (h2 : PySem.W.findIn K (.ref C) gn = some none) (ha : H a = some (exo a C none)) (q : ∀ d, H d = none → d ≠ a → D.nx [some (.ref a), some u, some v] (upd (upd H d (exd d [(gn, v), (fn, u)])) a (exo a C (some d)))) :
    tSeq (tOst K fn (tVar 0) (tVar 1)) (tOst K gn (tVar 0) (tVar 2)) D [some (.ref a), some u, some v] H := by
  refine ⟨u, rfl, .ref a, rfl, a, C, rfl, T, h1, .inl ⟨ha, fun d hd ne => ?_⟩⟩
  refine ⟨v, rfl, .ref a, rfl, a, C, rfl, T, h2, .inr ⟨d, [(fn, u)], upd_same, ?_, by simp, ?_⟩⟩
  · rw [upd_ne ne]
    exact upd_same
  · have := q d hd ne
    have e : upd (upd (upd H d (exd d [(fn, u)])) a (exo a C (some d))) d (exd d [(gn, v), (fn, u)]) = upd (upd H d (exd d [(gn, v), (fn, u)])) a (exo a C (some d)) := by
      funext p
      by_cases hp : p = d
      · subst hp
        rw [upd_same, upd_ne ne, upd_same]
      · rw [upd_ne hp]
        by_cases hq : p = a
        · subst hq
          rw [upd_same, upd_same]
        · rw [upd_ne hq, upd_ne hq, upd_ne hp, upd_ne hp]
    rw [e]
    exact this
end
end DL

set_option maxHeartbeats 2000000
/-! DTry: own errors raised and caught. -/
namespace DL
open PySem L2 PyProof.Rows
section
variable {K : Fg} {cl : Cl} {W : WX}
theorem okD_arg {F : Hp} {v : V} {d : D} (r : Rep K cl F v d) (h : okE d) : okArg v := by
  cases r with
  | str x => exact ⟨h.1, Nat.le_trans (PySem.StrLaws.reprText_len x h.2) (by have := h.1; omega)⟩
  | int i => exact h
  | _ => exact h.elim
theorem reps_ok {F : Hp} : ∀ {vs : List V} {ds : List D}, Reps K cl F vs ds → (∀ d ∈ ds, okE d) → ∀ v ∈ vs, okArg v
  | _, _, .nil, _, v, hv => by cases hv
  | _, _, .cons h r, q, v, hv => by
    rcases List.mem_cons.mp hv with z | z
    · subst z
      exact okD_arg h (q _ List.mem_cons_self)
    · exact reps_ok r (fun d hd => q d (List.mem_cons_of_mem _ hd)) v z
theorem freps_zip {F : Hp} : ∀ (fs : List Str) {vs : List V} {ds : List D}, Reps K cl F vs ds → FReps K cl F (fs.zip vs) (fs.zip ds)
  | [], _, _, _ => by rw [List.zip_nil_left, List.zip_nil_left]; exact .nil
  | _ :: _, _, _, .nil => by rw [List.zip_nil_right, List.zip_nil_right]; exact .nil
  | _ :: fs, _, _, .cons h r => .cons h (freps_zip fs r)
theorem FReps.append {F : Hp} {ws us : List (Str × V)} {ds es : List (Str × D)} (r : FReps K cl F ws ds) (q : FReps K cl F us es) : FReps K cl F (ws ++ us) (ds ++ es) := by
  induction ds generalizing ws with
  | nil => cases r; exact q
  | cons d ds ih => cases r with
    | cons h r => exact .cons h (ih r)
theorem FReps.reverse {F : Hp} {ws : List (Str × V)} {ds : List (Str × D)} (r : FReps K cl F ws ds) : FReps K cl F ws.reverse ds.reverse := by
  induction ds generalizing ws with
  | nil => cases r; exact .nil
  | cons d ds ih => cases r with
    | cons h r =>
      rw [List.reverse_cons, List.reverse_cons]
      exact (ih r).append (.cons h .nil)
theorem rfs_raise {c : String} {C : Addr} {fs : List Str} {ta : TA} {t : DA} (hC : cl.nm c = some C) (hl : fs.length ≤ 900) (ha : RfA K cl W ta t) :
    RfS K cl W (fun _ σ H => tMkO C (spI K C fs) [] ta σ H fun v d H' => W v d σ H') (sRaise c fs t) where
  mono2 := fun E E' A B ρ hE l q => ha.mono2 E E' ρ _ _ hE (fun xs q => ⟨q.1, q.2.1, hE _ _ q.2.2⟩) q
  ok := fun F0 H0 F H σ ρ E B A hh le ld q => by
    refine ha.ok F0 H0 F H σ ρ E _ hh le (ha.mono E ρ _ _ (fun xs q vs F1 H1 g1 r1 => ?_) q)
    obtain ⟨q1, q2, q3⟩ := q
    have hv : vs.length = fs.length := by rw [r1.length, q1]
    refine ⟨by rw [hv]; omega, fun a hn => ⟨a, vs, by rw [List.append_nil], hv, reps_ok r1 q2, upd_same, fun d hd ne => ?_⟩⟩
    have hd1 : H1 d = none := by rwa [upd_ne ne] at hd
    refine ⟨rfl, d, (fs.zip vs).reverse, upd_same, by rw [upd_ne ne]; exact upd_same, hd1, ?_⟩
    have g2 : Gr F1 H1 (upd F1 d (.xd (fs.zip vs).reverse)) (upd (del (upd (upd (upd H1 a (exo a C none)) d (exd d (fs.zip vs).reverse)) a (exo a C (some d))) a) d (.xd (fs.zip vs).reverse)) := by
      have same : ∀ p o, H1 p = some o → (upd (del (upd (upd (upd H1 a (exo a C none)) d (exd d (fs.zip vs).reverse)) a (exo a C (some d))) a) d (.xd (fs.zip vs).reverse)) p = some o := fun p o e => by
        have n1 : p ≠ a := ne_of_none e hn
        have n2 : p ≠ d := ne_of_none e hd1
        rw [upd_ne n2, del_ne n1, upd_ne n1, upd_ne n2, upd_ne n1]
        exact e
      refine ⟨same_upd (g1.s.free hd1), fun p o e => same p o e, fun p o e => ?_, fun p x y => ?_⟩
      · by_cases hp : p = d
        · subst hp
          rw [upd_same] at e ⊢
          exact e
        · rw [upd_ne hp] at e
          exact same p o (g1.s _ _ e)
      · by_cases hp : p = d
        · subst hp; exact hd1
        · rw [upd_ne hp] at x
          exact absurd y x
    exact le _ ρ σ _ _ _ _ (hh.grow (g1.trans g2)) q3 ⟨C, hC, rfl, _, upd_same, (freps_zip fs (r1.mono g2.f)).reverse⟩
theorem rfs_try {ms os : List String} {c : Value} {tb : WX → TS} {ts : TS} {b s : DS} (hms : ∀ m ∈ ms, ∀ C, cl.nm m = some C → PySem.W.exmOne K (.ref C) c = some true) (hos : ∀ m ∈ os, ∀ C, cl.nm m = some C → PySem.W.exmOne K (.ref C) c = some false)
    (hb : ∀ W : WX, RfS K cl W (tb W) b) (hs : RfS K cl (fun _ _ _ _ => False) ts s) : RfS K cl W (fun D σ H => tb (wOnly K c (fun _ _ _ => ts) W D) D σ H) (sTry ms os b s) where
  mono2 := fun E E' A B ρ hE l q => (hb W).mono2 _ _ A B ρ (fun e ρ' q => by
    have q : if e.cls ∈ ms then s noE A ρ' else e.cls ∈ os ∧ E e ρ' := q
    show if e.cls ∈ ms then s noE B ρ' else e.cls ∈ os ∧ E' e ρ'
    split
    · rename_i h
      rw [if_pos h] at q
      exact hs.mono noE A B ρ' l q
    · rename_i h
      rw [if_neg h] at q
      exact ⟨q.1, hE _ _ q.2⟩) l q
  ok := fun F0 H0 F H σ ρ E B A hh le ld q => by
    refine (hb _).ok F0 H0 F H σ ρ _ B A hh (fun err ρ' σ' F' H' v dx h' q re => ?_) ld q
    have q : if err.cls ∈ ms then s noE B ρ' else err.cls ∈ os ∧ E err ρ' := q
    obtain ⟨C, n, rfl, _⟩ := id re
    by_cases hm : err.cls ∈ ms
    · rw [if_pos hm] at q
      exact ⟨true, hms _ hm C n, fun _ a ha => hs.ok F0 H0 F' H' σ' ρ' noE B A h' (fun _ _ _ _ _ _ _ _ z _ => z.elim) ld q, fun z => by cases z⟩
    · rw [if_neg hm] at q
      exact ⟨false, hos _ q.1 C n, (fun z => by cases z), fun _ => le _ ρ' σ' F' H' _ dx h' q.2 re⟩
theorem rfs_tryR {m : String} {os : List String} {i : Nat} {f : Str} {C : Addr} {tb : WX → TS} {b : DS} (hC : cl.nm m = some C) (hms : PySem.W.exmOne K (.ref C) (.ref C) = some true) (hos : ∀ m ∈ os, ∀ D, cl.nm m = some D → PySem.W.exmOne K (.ref D) (.ref C) = some false) (hf : cl.fr = false)
    (hb : ∀ W : WX, RfS K cl W (tb W) b) : RfS K cl W (fun D σ H => tb (wAs K (.ref C) i (fun a v d => tRet (tXf a v d C f (tVar i))) W D) D σ H) (sTryR m os i f b) where
  mono2 := fun E E' A B ρ hE l q => (hb W).mono2 _ _ A B ρ (fun e ρ' q => by
    have q : if e.cls = m then i < ρ'.length ∧ (match e.fs.lookup f with | some d => A.rt d | none => False) else e.cls ∈ os ∧ E e ρ' := q
    show if e.cls = m then i < ρ'.length ∧ (match e.fs.lookup f with | some d => B.rt d | none => False) else e.cls ∈ os ∧ E' e ρ'
    split
    · rename_i h
      rw [if_pos h] at q
      refine ⟨q.1, ?_⟩
      have q := q.2
      cases z : e.fs.lookup f with
      | none => rw [z] at q; exact q
      | some d => rw [z] at q; exact l.rt d q
    · rename_i h
      rw [if_neg h] at q
      exact ⟨q.1, hE _ _ q.2⟩) l q
  ok := fun F0 H0 F H σ ρ E B A hh le ld q => by
    refine (hb _).ok F0 H0 F H σ ρ _ B A hh (fun err ρ' σ' F' H' v dx h' q re => ?_) ld q
    have q : if err.cls = m then i < ρ'.length ∧ (match err.fs.lookup f with | some d => B.rt d | none => False) else err.cls ∈ os ∧ E err ρ' := q
    obtain ⟨C', n, rfl, hx⟩ := id re
    by_cases hm : err.cls = m
    · rw [if_pos hm] at q
      obtain ⟨qi, q⟩ := q
      rw [hm, hC] at n
      cases n
      refine ⟨true, hms, fun _ a ha => ⟨.ref a, List.getElem?_set_self (by rw [h'.len]; exact qi), rfl, rfl, ?_⟩, fun z => by cases z⟩
      cases dx with
      | none =>
        have hx : err.fs = [] := hx
        rw [hx] at q
        exact q.elim
      | some d =>
        obtain ⟨ws, hx1, hx2⟩ := hx
        rcases hx2.look f with ⟨z, _⟩ | ⟨v, y, z1, z2, z3⟩
        · rw [z] at q; exact q.elim
        · rw [z1] at q
          exact ⟨d, ws, v, rfl, h'.g.s _ _ hx1, z2, ld.rt F' H' v y h'.g (fun _ => z3) (fun z => by rw [hf] at z; cases z) q⟩
    · rw [if_neg hm] at q
      exact ⟨false, hos _ q.1 C' n, (fun z => by cases z), fun _ => le _ ρ' σ' F' H' _ dx h' q.2 re⟩
end
section
variable {X : Cx} {K : Fg} {cl : Cl} {W : WX}
theorem vs_raise {c : String} {C fI : Addr} {fs : List Str} {k : Nat} {fd : FuncData} {ps : List Str} {x : Str} {e : Expr} {es : List Expr} {p cp pos : Pos} {t : TA} {q : DA} (T : OexC X.K C) (iC : PySem.W.findIn X.K (.ref C) "__init__" = some (some (.ref fI))) (tI : PySem.W.typeIn X.K (.ref fI) = some (.type "function"))
    (F1 : FnOk X.prog X.w X.K X.mg X.base (L2.CX X.prog X.w) k fI fd ps (spI X.K C fs)) (hr : Room (k + 1) X.A) (hb : Binds X.K fd ps []) (hg : Gl X x) (hm : X.mg x = some (.ref C)) (hC : cl.nm c = some C) (tk : Takes X W) (hc : X.calm = true) (ha : VA X K cl W (e :: es) t q)
    (hl : fs.length ≤ 900 := by decide) (hdb : (x == ("__debug__" : Str)) = false := by decide) (he : starEach (e :: es) X.env = (false, eval e X.env) :: starEach es X.env := by rfl) (hpl : (backTo cp (starEach es X.env)).any (·.1) = false := by rfl) :
    VS X K cl W (.Raise (some (.Call (.Name x p) (e :: es) [] cp)) none pos) (fun _ σ H => tMkO C (spI K C fs) [] t σ H fun v d H' => W v d σ H') (sRaise c fs q) := by
  obtain rfl := ha.hK
  exact ⟨ps_raise hc tk (pmk_oex T iC tI F1 hr hb .nil pass_no hg hm ha.pe hdb he hpl), rfs_raise hC hl ha.rf, rfl⟩
/-- some wish takes what W says -/
theorem any_takes {X : Cx} (hs : X.stack = X.env :: X.outer) (hf : X.env.frame = some X.env.locals) (W : WX) : ∃ (pn : List (Addr × Obj)) (xe : Value → Shared → Prop), Takes (X.tr pn xe) W ∧ PassesOwn (model X.prog X.w) X.A X.env xe := by
  refine ⟨[], fun e s₁ => wpAny (model X.prog X.w) X.A (noteFrame e X.env) (fun _ s₂ => wpAny (model X.prog X.w) X.A (setFlight e none) (fun _ _ => True) (fun _ _ => True) s₂) (fun _ _ => True) s₁, fun u s' xx => ?_, PassesOwn.looking (K := (fun e s₂ => wpAny (model X.prog X.w) X.A (setFlight e none) (fun _ _ => True) (fun _ _ => True) s₂)) (E₁ := fun _ _ => True)⟩
  obtain ⟨a, B, sI, pins', σ', H', cls, d, rfl, J', nb, up, sky, na, os, ag, w⟩ := xx
  have hfr : X.A.frames = some (X.env :: X.outer) := by
    have := J'.ok.frames
    rw [← hs]
    exact this
  have sky' : Sky B (X.env :: X.outer) a (Zc cls d) X.env.locals s'.heap := by rw [← hs]; exact sky
  show wpAny (model X.prog X.w) X.A (noteFrame (.ref a) X.env) (fun _ s₂ => wpAny (model X.prog X.w) X.A (setFlight (.ref a) none) (fun _ _ => True) (fun _ _ => True) s₂) (fun _ _ => True) s'
  exact Sky.land (Q := fun _ _ => True) Zc.steady hfr hf sky' fun h3 fl3 up3 => True.intro
theorem vs_try {ms os : List String} {x : Str} {c : Value} {body suite : List Stmt} {b₀ : Stmt} {np pos pos' : Pos} {tb : WX → TS} {ts : TS} {b s : DS} (hs : X.stack = X.env :: X.outer) (hf : X.env.frame = some X.env.locals) (hc : Names X x c) (tk : Takes X W)
    (hms : ∀ m ∈ ms, ∀ C, cl.nm m = some C → PySem.W.exmOne K (.ref C) c = some true) (hos : ∀ m ∈ os, ∀ C, cl.nm m = some C → PySem.W.exmOne K (.ref C) c = some false)
    (hb : ∀ (W : WX) (pn : List (Addr × Obj)) (xe : Value → Shared → Prop), Takes (X.tr pn xe) W → PassesOwn (model X.prog X.w) X.A X.env xe → VSs (X.tr pn xe) K cl W body (tb W) b)
    (hsu : ∀ (a : Addr) (oe : Obj) (pn : List (Addr × Obj)), VSs (X.suite a ((a, oe) :: pn)) K cl (fun _ _ _ _ => False) (b₀ :: suite) ts s) (hK : X.K = K := by rfl) :
    VS X K cl W (.Try body [.ExceptHandler (some (.Name x np)) none (b₀ :: suite) pos'] [] [] pos) (fun D σ H => tb (wOnly K c (fun _ _ _ => ts) W D) D σ H) (sTry ms os b s) := by
  obtain rfl := hK
  exact ⟨ps_try_only hs hf hc tk (fun W pn xe t p => (hb W pn xe t p).pe) (fun a oe v d pn _ _ => (hsu a oe pn).pe), rfs_try hms hos (fun W => (any_takes hs hf W).elim fun pn z => z.elim fun xe z => (hb W pn xe z.1 z.2).rf) (hsu 0 ⟨.none, none, .cell none, #[]⟩ []).rf, rfl⟩
theorem vs_tryR {m : String} {os : List String} {i : Nat} {f n x : Str} {C : Addr} {body : List Stmt} {np np2 pa pr pos pos' : Pos} {tb : WX → TS} {b : DS} (hs : X.stack = X.env :: X.outer) (hf : X.env.frame = some X.env.locals) (hN : X.N.Nodup) (hi : X.N[i]? = some n) (hln : X.env.kindOf n = some .local) (hc : Names X x (.ref C)) (tk : Takes X W)
    (hC : cl.nm m = some C) (T : XfC K C) (hno : PySem.W.findIn K (.ref C) f = some none) (hms : PySem.W.exmOne K (.ref C) (.ref C) = some true) (hos : ∀ m ∈ os, ∀ D, cl.nm m = some D → PySem.W.exmOne K (.ref D) (.ref C) = some false) (hfr : cl.fr = false)
    (hb : ∀ (W : WX) (pn : List (Addr × Obj)) (xe : Value → Shared → Prop), Takes (X.tr pn xe) W → PassesOwn (model X.prog X.w) X.A X.env xe → VSs (X.tr pn xe) K cl W body (tb W) b)
    (hdb : (n == ("__debug__" : Str)) = false := by decide) (hcd : (n == ("__classdict__" : Str)) = false := by decide) (hab : attributeBase (.Name n np2) f X.env (eval (.Name n np2) X.env) = eval (.Name n np2) X.env := by rfl) (hK : X.K = K := by rfl) :
    VS X K cl W (.Try body [.ExceptHandler (some (.Name x np)) (some n) [.Return (some (.Attribute (.Name n np2) f pa)) pr] pos'] [] [] pos) (fun D σ H => tb (wAs K (.ref C) i (fun a v d => tRet (tXf a v d C f (tVar i))) W D) D σ H) (sTryR m os i f b) := by
  obtain rfl := hK
  exact ⟨ps_try_as hs hf hN hi hln hc tk (fun W pn xe t p => (hb W pn xe t p).pe) (fun a oe v d pn hz hv => pss_one (ps_ret (pe_xf T hno hz hv (pe_var hi (.inl hln) hdb hcd) hab))), rfs_tryR hC hms hos hfr (fun W => (any_takes hs hf W).elim fun pn z => z.elim fun xe z => (hb W pn xe z.1 z.2).rf), rfl⟩
end
/-- whether an except clause takes it -/
theorem exm_mk {K : Fg} {cls : Value} {C : Addr} {b : Bool} (h1 : PySem.W.subIn K (.ref C) (.type "BaseException") = some true) (h2 : PySem.W.isClsIn K C = true) (h3 : PySem.W.typeIn K (.ref C) = some (.type "type")) (h4 : PySem.W.subIn K cls (.ref C) = some b) : PySem.W.exmOne K cls (.ref C) = some b := by
  unfold PySem.W.exmOne PySem.W.kitCls
  unfold PySem.W.isClsIn at h2
  simp only [h1, h2, h3, h4, beq_self_eq_true, Bool.and_self, if_true]
section
variable {P : Program} {w : World} {K : Fg} {mg : Str → Option Value} {base : Heap} {qual : Str} {sc : Scope} {fa cc C cda : Addr}
theorem int_text_len {a : Int} (h : a.natAbs.log2 < 1920) : (Str.ofString (toString a)).length ≤ 1921 := by
  have := PySem.int_text_length_le (a := a) (k := 1920) (by decide) h
  rw [PySem.ofString_length]
  exact this
/-- a text's or a number's part of an f-string -/
theorem js_str {x : Str} {ts : List TE} {acc : Str} {σ : L2.St} {H : Hp} {Q : Str → Hp → Prop} {n m : Nat} (ha : acc.length ≤ n) (hx : x.length ≤ m) (hn : n + m ≤ 16777216) (q : ∀ acc' : Str, acc'.length ≤ n + m → tJs ts acc' σ H Q) : tJs (tC (.str x) :: ts) acc σ H Q :=
  have e : (acc ++ x).length ≤ n + m := by rw [PySem.strLen_append]; omega
  ⟨x, rfl, by rw [sizeLine_eq]; omega, q _ e⟩
theorem js_fmtR {u : V} {i : Nat} {ts : List TE} {acc : Str} {σ : L2.St} {H : Hp} {Q : Str → Hp → Prop} {n : Nat} (hu : okArg u) (hi : σ[i]? = some (some u)) (ha : acc.length ≤ n) (hn : n + 100000 ≤ 16777216) (q : ∀ acc' : Str, acc'.length ≤ n + 100000 → tJs ts acc' σ H Q) : tJs (tFmtR (tVar i) :: ts) acc σ H Q := by
  refine ⟨u, hi, ?_⟩
  cases u with
  | str x =>
    have hx : x.length ≤ 1000 ∧ (PySem.reprText x).length ≤ 100000 := hu
    have e : (acc ++ PySem.reprText x).length ≤ n + 100000 := by rw [PySem.strLen_append]; omega
    exact .inl ⟨x, rfl, by rw [sizeLine_eq]; omega, _, rfl, by rw [sizeLine_eq]; omega, q _ e⟩
  | int j =>
    have hj : j.natAbs.log2 < 1920 := hu
    have l := int_text_len hj
    have e : (acc ++ (toString j : Str)).length ≤ n + 100000 := by rw [PySem.strLen_append]; omega
    exact .inr ⟨j, rfl, hj, _, rfl, by rw [sizeLine_eq]; omega, q _ e⟩
  | _ => exact hu.elim
theorem js_fmt {u : V} {i : Nat} {ts : List TE} {acc : Str} {σ : L2.St} {H : Hp} {Q : Str → Hp → Prop} {n : Nat} (hu : okArg u) (hi : σ[i]? = some (some u)) (ha : acc.length ≤ n) (hn : n + 100000 ≤ 16777216) (q : ∀ acc' : Str, acc'.length ≤ n + 100000 → tJs ts acc' σ H Q) : tJs (tFmt (tVar i) :: ts) acc σ H Q := by
  refine ⟨u, hi, ?_⟩
  cases u with
  | str x =>
    have hx : x.length ≤ 1000 ∧ (PySem.reprText x).length ≤ 100000 := hu
    have e : (acc ++ x).length ≤ n + 100000 := by rw [PySem.strLen_append]; omega
    exact .inl ⟨x, rfl, by rw [sizeLine_eq]; omega, _, rfl, by rw [sizeLine_eq]; omega, q _ e⟩
  | int j =>
    have hj : j.natAbs.log2 < 1920 := hu
    have l := int_text_len hj
    have e : (acc ++ (toString j : Str)).length ≤ n + 100000 := by rw [PySem.strLen_append]; omega
    exact .inr ⟨j, rfl, hj, _, rfl, by rw [sizeLine_eq]; omega, q _ e⟩
  | _ => exact hu.elim
theorem err1R {name : Str} {params : Arguments} {kV doc pm ct : Value} {an : Option Addr} {ar : Arg} {x pre : Str} {j0 : Nat} {p0 p1 p2 p3 p4 q4 q0a q0b q0c r0a r0b r0c r0d : Pos} {k : Nat} {pl : Addr → Sem Bool}
    (S : IScope ["self", x] sc) (T : ErrC P K C cc cda fa (PySem.W.ksFn name qual params (.Expr (.Call (.Attribute (.Call (.Name "super" p0) [] [] p1) "__init__" p2) [.JoinedStr [.Constant (.str pre) j0 q0a, .FormattedValue (.Name x q0b) 114 none q0c] q4] [] p3) p4 :: [.Assign [.Attribute (.Name "self" r0a) x r0b] (.Name x r0c) r0d]) sc .none kV doc pm an (.ref cda) ct cc)) (hcd : PySem.W.codeIn K (.ref cda) qual = true) (hpar : (params.posonlyargs ++ params.args).head? = some ar) (har : ar.arg = ("self" : Str)) (hm : mg ("super" : Str) = none) (hno0 : PySem.W.findIn K (.ref C) x = some none) (hp0 : pre.length ≤ 1000) (hd0 : (x == ("__debug__" : Str)) = false) (hc0 : (x == ("__classdict__" : Str)) = false) (heval : ∀ L : Addr, eval (.Call (.Attribute (.Call (.Name "super" p0) [] [] p1) "__init__" p2) [.JoinedStr [.Constant (.str pre) j0 q0a, .FormattedValue (.Name x q0b) 114 none q0c] q4] [] p3) (PySem.W.ksEnv qual sc L fa (.ref cda) cc) = (do
      let ov ← attributeBase (.Call (.Name "super" p0) [] [] p1) "__init__" (PySem.W.ksEnv qual sc L fa (.ref cda) cc) (eval (.Call (.Name "super" p0) [] [] p1) (PySem.W.ksEnv qual sc L fa (.ref cda) cc))
      standAt p2.atName
      let (g, first) ← holding [ov] (getMethod ov "__init__" (pl L))
      callWith p3 g first (backTo p3 (starEach [.JoinedStr [.Constant (.str pre) j0 q0a, .FormattedValue (.Name x q0b) 114 none q0c] q4] (PySem.W.ksEnv qual sc L fa (.ref cda) cc))) []) := by intro _; rfl) :
    FnOk P w K mg base (L2.CX P w) (k + 1) fa (PySem.W.ksFn name qual params (.Expr (.Call (.Attribute (.Call (.Name "super" p0) [] [] p1) "__init__" p2) [.JoinedStr [.Constant (.str pre) j0 q0a, .FormattedValue (.Name x q0b) 114 none q0c] q4] [] p3) p4 :: [.Assign [.Attribute (.Name "self" r0a) x r0b] (.Name x r0c) r0d]) sc .none kV doc pm an (.ref cda) ct cc) ["self", x] (spI K C [x]) := by
  refine init_ok S T hcd hpar (by rw [har]; rfl) hm rfl (fun A outer s H E a us D hl hok ha q => ?_) (heval := heval) (hint := fun L => by show (sc.kind == .module && _) = false; rw [S.kind]; rfl)
  obtain ⟨u, rfl⟩ := List.length_eq_one_iff.mp hl
  refine ⟨_, _, pe_joined (.cons pe_str (.cons (pe_fmtR (pe_var (i := 1) rfl (.inl (S.par _ (by simp))) hd0 hc0)) .nil)), (pss_one (ps_ost (pe_var (i := 0) rfl (.inl (S.par _ (by simp))) (by decide) (by decide)) (pe_var (i := 1) rfl (.inl (S.par _ (by simp))) hd0 hc0))), ?_⟩
  exact js_str (n := 0) (m := 1000) (Nat.le_refl _) hp0 (by omega) fun a1 h1 => js_fmtR (hok u (by simp)) rfl h1 (by omega) fun a2 h2 => ⟨ha, ost_1 T.oex hno0 ha q⟩
theorem err1N {name : Str} {params : Arguments} {kV doc pm ct : Value} {an : Option Addr} {ar : Arg} {x pre : Str} {j0 : Nat} {p0 p1 p2 p3 p4 q4 q0a q0b q0c r0a r0b r0c r0d : Pos} {k : Nat} {pl : Addr → Sem Bool}
    (S : IScope ["self", x] sc) (T : ErrC P K C cc cda fa (PySem.W.ksFn name qual params (.Expr (.Call (.Attribute (.Call (.Name "super" p0) [] [] p1) "__init__" p2) [.JoinedStr [.Constant (.str pre) j0 q0a, .FormattedValue (.Name x q0b) (-1) none q0c] q4] [] p3) p4 :: [.Assign [.Attribute (.Name "self" r0a) x r0b] (.Name x r0c) r0d]) sc .none kV doc pm an (.ref cda) ct cc)) (hcd : PySem.W.codeIn K (.ref cda) qual = true) (hpar : (params.posonlyargs ++ params.args).head? = some ar) (har : ar.arg = ("self" : Str)) (hm : mg ("super" : Str) = none) (hno0 : PySem.W.findIn K (.ref C) x = some none) (hp0 : pre.length ≤ 1000) (hd0 : (x == ("__debug__" : Str)) = false) (hc0 : (x == ("__classdict__" : Str)) = false) (heval : ∀ L : Addr, eval (.Call (.Attribute (.Call (.Name "super" p0) [] [] p1) "__init__" p2) [.JoinedStr [.Constant (.str pre) j0 q0a, .FormattedValue (.Name x q0b) (-1) none q0c] q4] [] p3) (PySem.W.ksEnv qual sc L fa (.ref cda) cc) = (do
      let ov ← attributeBase (.Call (.Name "super" p0) [] [] p1) "__init__" (PySem.W.ksEnv qual sc L fa (.ref cda) cc) (eval (.Call (.Name "super" p0) [] [] p1) (PySem.W.ksEnv qual sc L fa (.ref cda) cc))
      standAt p2.atName
      let (g, first) ← holding [ov] (getMethod ov "__init__" (pl L))
      callWith p3 g first (backTo p3 (starEach [.JoinedStr [.Constant (.str pre) j0 q0a, .FormattedValue (.Name x q0b) (-1) none q0c] q4] (PySem.W.ksEnv qual sc L fa (.ref cda) cc))) []) := by intro _; rfl) :
    FnOk P w K mg base (L2.CX P w) (k + 1) fa (PySem.W.ksFn name qual params (.Expr (.Call (.Attribute (.Call (.Name "super" p0) [] [] p1) "__init__" p2) [.JoinedStr [.Constant (.str pre) j0 q0a, .FormattedValue (.Name x q0b) (-1) none q0c] q4] [] p3) p4 :: [.Assign [.Attribute (.Name "self" r0a) x r0b] (.Name x r0c) r0d]) sc .none kV doc pm an (.ref cda) ct cc) ["self", x] (spI K C [x]) := by
  refine init_ok S T hcd hpar (by rw [har]; rfl) hm rfl (fun A outer s H E a us D hl hok ha q => ?_) (heval := heval) (hint := fun L => by show (sc.kind == .module && _) = false; rw [S.kind]; rfl)
  obtain ⟨u, rfl⟩ := List.length_eq_one_iff.mp hl
  refine ⟨_, _, pe_joined (.cons pe_str (.cons (pe_fmt (pe_var (i := 1) rfl (.inl (S.par _ (by simp))) hd0 hc0)) .nil)), (pss_one (ps_ost (pe_var (i := 0) rfl (.inl (S.par _ (by simp))) (by decide) (by decide)) (pe_var (i := 1) rfl (.inl (S.par _ (by simp))) hd0 hc0))), ?_⟩
  exact js_str (n := 0) (m := 1000) (Nat.le_refl _) hp0 (by omega) fun a1 h1 => js_fmt (hok u (by simp)) rfl h1 (by omega) fun a2 h2 => ⟨ha, ost_1 T.oex hno0 ha q⟩
theorem err2R {name : Str} {params : Arguments} {kV doc pm ct : Value} {an : Option Addr} {ar : Arg} {x y pre mid : Str} {j0 j1 : Nat} {p0 p1 p2 p3 p4 q4 q0a q0b q0c r0a r0b r0c r0d q1a q1b q1c r1a r1b r1c r1d : Pos} {k : Nat} {pl : Addr → Sem Bool}
    (S : IScope ["self", x, y] sc) (T : ErrC P K C cc cda fa (PySem.W.ksFn name qual params (.Expr (.Call (.Attribute (.Call (.Name "super" p0) [] [] p1) "__init__" p2) [.JoinedStr [.Constant (.str pre) j0 q0a, .FormattedValue (.Name x q0b) 114 none q0c, .Constant (.str mid) j1 q1a, .FormattedValue (.Name y q1b) 114 none q1c] q4] [] p3) p4 :: [.Assign [.Attribute (.Name "self" r0a) x r0b] (.Name x r0c) r0d, .Assign [.Attribute (.Name "self" r1a) y r1b] (.Name y r1c) r1d]) sc .none kV doc pm an (.ref cda) ct cc)) (hcd : PySem.W.codeIn K (.ref cda) qual = true) (hpar : (params.posonlyargs ++ params.args).head? = some ar) (har : ar.arg = ("self" : Str)) (hm : mg ("super" : Str) = none) (hno0 : PySem.W.findIn K (.ref C) x = some none) (hp0 : pre.length ≤ 1000) (hd0 : (x == ("__debug__" : Str)) = false) (hc0 : (x == ("__classdict__" : Str)) = false) (hno1 : PySem.W.findIn K (.ref C) y = some none) (hp1 : mid.length ≤ 1000) (hd1 : (y == ("__debug__" : Str)) = false) (hc1 : (y == ("__classdict__" : Str)) = false) (heval : ∀ L : Addr, eval (.Call (.Attribute (.Call (.Name "super" p0) [] [] p1) "__init__" p2) [.JoinedStr [.Constant (.str pre) j0 q0a, .FormattedValue (.Name x q0b) 114 none q0c, .Constant (.str mid) j1 q1a, .FormattedValue (.Name y q1b) 114 none q1c] q4] [] p3) (PySem.W.ksEnv qual sc L fa (.ref cda) cc) = (do
      let ov ← attributeBase (.Call (.Name "super" p0) [] [] p1) "__init__" (PySem.W.ksEnv qual sc L fa (.ref cda) cc) (eval (.Call (.Name "super" p0) [] [] p1) (PySem.W.ksEnv qual sc L fa (.ref cda) cc))
      standAt p2.atName
      let (g, first) ← holding [ov] (getMethod ov "__init__" (pl L))
      callWith p3 g first (backTo p3 (starEach [.JoinedStr [.Constant (.str pre) j0 q0a, .FormattedValue (.Name x q0b) 114 none q0c, .Constant (.str mid) j1 q1a, .FormattedValue (.Name y q1b) 114 none q1c] q4] (PySem.W.ksEnv qual sc L fa (.ref cda) cc))) []) := by intro _; rfl) :
    FnOk P w K mg base (L2.CX P w) (k + 1) fa (PySem.W.ksFn name qual params (.Expr (.Call (.Attribute (.Call (.Name "super" p0) [] [] p1) "__init__" p2) [.JoinedStr [.Constant (.str pre) j0 q0a, .FormattedValue (.Name x q0b) 114 none q0c, .Constant (.str mid) j1 q1a, .FormattedValue (.Name y q1b) 114 none q1c] q4] [] p3) p4 :: [.Assign [.Attribute (.Name "self" r0a) x r0b] (.Name x r0c) r0d, .Assign [.Attribute (.Name "self" r1a) y r1b] (.Name y r1c) r1d]) sc .none kV doc pm an (.ref cda) ct cc) ["self", x, y] (spI K C [x, y]) := by
  refine init_ok S T hcd hpar (by rw [har]; rfl) hm rfl (fun A outer s H E a us D hl hok ha q => ?_) (heval := heval) (hint := fun L => by show (sc.kind == .module && _) = false; rw [S.kind]; rfl)
  obtain ⟨u, v, rfl⟩ : ∃ u v, us = [u, v] := by
    match us, hl with
    | [u, v], _ => exact ⟨u, v, rfl⟩
  refine ⟨_, _, pe_joined (.cons pe_str (.cons (pe_fmtR (pe_var (i := 1) rfl (.inl (S.par _ (by simp))) hd0 hc0)) (.cons pe_str (.cons (pe_fmtR (pe_var (i := 2) rfl (.inl (S.par _ (by simp))) hd1 hc1)) .nil)))), (pss_cons (ps_ost (pe_var (i := 0) rfl (.inl (S.par _ (by simp))) (by decide) (by decide)) (pe_var (i := 1) rfl (.inl (S.par _ (by simp))) hd0 hc0)) (pss_one (ps_ost (pe_var (i := 0) rfl (.inl (S.par _ (by simp))) (by decide) (by decide)) (pe_var (i := 2) rfl (.inl (S.par _ (by simp))) hd1 hc1)))), ?_⟩
  exact js_str (n := 0) (m := 1000) (Nat.le_refl _) hp0 (by omega) fun a1 h1 => js_fmtR (hok u (by simp)) rfl h1 (by omega) fun a2 h2 => js_str (m := 1000) h2 hp1 (by omega) fun a3 h3 => js_fmtR (hok v (by simp)) rfl h3 (by omega) fun a4 h4 => ⟨ha, ost_2 T.oex hno0 hno1 ha q⟩
end
end DL

set_option maxHeartbeats 2000000
/-! DDict: an own dict's keys walked by a comprehension. -/
namespace DL
open PySem L2 PyProof.Rows
section
variable {K : Fg} {cl : Cl} {W : WX}
/-- while the dict is locked -/
theorem rfn_lcK {i : Nat} {js vs : List Nat} {g : TG} {d : DG} {tt : TT} {t : DB} {te : TE} {e : DT} (hg : RfG K cl js g d) (hn : NoO d) (hjs : ∀ j ∈ js, j ∈ vs)
    (ht : RfB K cl (fun _ _ _ _ => False) tt t) (he : RfE K cl (fun _ _ _ _ => False) te e) : RfN K cl W (tLockE (tLc (iKeys (tVar i)) g tt te vs)) (dLc (iKeyO i) d t e vs) where
  mono2 := fun E E' ρ P P' hE h q => by
    have go : ∀ (xs : List D) (ρ : DL.Env) (acc : List D) (Q Q' : List D → Prop), (∀ r, Q r → Q' r) → lcL d t e ρ xs acc Q → lcL d t e ρ xs acc Q' := by
      intro xs
      induction xs with
      | nil => intro ρ acc Q Q' hQ q; exact hQ _ q
      | cons x r ih =>
        intro ρ acc Q Q' hQ q
        refine hg.mono x ρ _ _ (fun ρ' q => ht.mono noE ρ' _ _ (fun k q => ?_) q) q
        cases k with
        | true => exact he.mono noE ρ' _ _ (fun y q => ⟨q.1, ih ρ _ Q Q' hQ q.2⟩) q
        | false => exact ih ρ _ Q Q' hQ q
    have q : iKeyO i E ρ fun xs => lcL d t e (noOwn (wipeE ρ vs)) xs [] fun r => P (.lst r) := q
    show iKeyO i E' ρ fun xs => lcL d t e (noOwn (wipeE ρ vs)) xs [] fun r => P' (.lst r)
    unfold iKeyO at q ⊢
    cases ez : ρ[i]? with
    | none => rw [ez] at q; exact q.elim
    | some s =>
      rw [ez] at q
      cases s with
      | no => exact q.elim
      | v d => exact q.elim
      | o d => cases d <;> first | exact go _ _ _ _ _ (fun r q => h _ q) q | exact q.elim
  ok := fun F0 H0 F H σ ρ E Q hh le q => by
    have q : iKeyO i E ρ fun xs => lcL d t e (noOwn (wipeE ρ vs)) xs [] fun r => ∀ p F' H', Gr F H F' H' → H p = none → F' p = none → Own K cl F' H' p (.lst r) → Q (.ref p) H' := q
    unfold iKeyO at q
    cases ez : ρ[i]? with
    | none => rw [ez] at q; exact q.elim
    | some s =>
      rw [ez] at q
      cases s with
      | no => exact q.elim
      | v d => exact q.elim
      | o dd =>
        cases dd with
        | dk kvs =>
          obtain ⟨a, ea, n0, nf, ws, ho, rr⟩ := hh.ownAt ez
          obtain ⟨rk, rk2⟩ := kreps_keys rr
          have lks : (kvs.map fun kv => keyD kv.1).length = kvs.length := List.length_map ..
          have lws : ws.length = kvs.length := by
            have := congrArg List.length rk2
            simpa using this
          have q : lcL d t e (noOwn (wipeE ρ vs)) (kvs.map fun kv => keyD kv.1) [] fun r => ∀ p F' H', Gr F H F' H' → H p = none → F' p = none → Own K cl F' H' p (.lst r) → Q (.ref p) H' := q
          revert rk lks q
          generalize (kvs.map fun kv => keyD kv.1) = ks
          intro rk lks q
          refine ⟨a, .dK ws, ho, trivial, fun od => ?_⟩
          have hlk : (upd H a (.frz od (.dK ws))) a = some (.frz od (.dK ws)) := upd_same
          refine ⟨.ref a, ea, a, od, rfl, .inl ⟨ws, hlk, ?_⟩⟩
          intro D0 hD0
          have hDa : D0 ≠ a := fun z => by rw [z, hlk] at hD0; cases hD0
          have hD : H D0 = none := by rwa [upd_ne hDa] at hD0
          -- locked
          have s1 : Same F (upd H a (.frz od (.dK ws))) := fun b u z => by
            rw [upd_ne (ne_of_none z nf)]
            exact hh.g.s b u z
          have h1 : Hold K cl F (upd H a (.frz od (.dK ws))) F (upd H a (.frz od (.dK ws))) (L2.wipe σ vs) (noOwn (wipeE ρ vs)) := by
            have hb := hh.wipe (vs := vs)
            obtain ⟨θ, hs, hd⟩ := hb.sl
            refine ⟨Gr.refl s1, hb.len, θ, fun j s z => ?_, fun j k dj dk z _ => absurd z (noOwn_o j dj), fun j a d _ z => absurd z (noOwn_o j d)⟩
            have := hs j s z
            cases s with
            | no => trivial
            | v d => exact this
            | o d => exact absurd z (noOwn_o j d)
          have hF1 : F D0 = none := hh.g.s.free hD
          have leN : ∀ {A B : Hp}, LinkE K cl A B (fun _ _ _ _ => False) noE := fun {A B} err ρ σ F H c dx _ z _ => z.elim
          have fin : ∀ r F' H' D1, Gr F (upd H a (.frz od (.dK ws))) F' H' → (upd H a (.frz od (.dK ws))) D1 = none → F' D1 = none → Own K cl F' H' D1 (.lst r) → (∀ p F' H', Gr F H F' H' → H p = none → F' p = none → Own K cl F' H' p (.lst r) → Q (.ref p) H') →
              H' a = some (.frz od (.dK ws)) ∧ Q (.ref D1) (upd H' a (.dK ws)) := fun r F' H' D1 g hD1 hf w k => by
            have ea' := g.k _ _ hlk
            have nD : D1 ≠ a := fun z => by rw [z, hlk] at hD1; cases hD1
            have fa : F' a = none := g.keepNone hlk nf
            obtain ⟨us, hu, ru⟩ := w
            refine ⟨ea', k D1 F' _ ⟨g.f, fun b u z => ?_, fun b u z => ?_, fun p x y => ?_⟩ (by rwa [upd_ne nD] at hD1) hf ⟨us, by rw [upd_ne nD]; exact hu, ru⟩⟩
            · by_cases hb : b = a
              · subst hb
                rw [upd_same]
                rw [ho] at z
                exact z
              · rw [upd_ne hb]
                exact g.k b u (by rw [upd_ne hb]; exact z)
            · rw [upd_ne (ne_of_none z fa)]
              exact g.s b u z
            · have := g.n p x y
              by_cases hp : p = a
              · subst hp
                rw [hlk] at this
                cases this
              · rwa [upd_ne hp] at this
          refine ⟨fun k m H2 => m = kvs.length - k ∧ k ≤ kvs.length ∧ ∃ F2 acc accd, Hold K cl F (upd H a (.frz od (.dK ws))) F2 H2 (L2.wipe σ vs) (noOwn (wipeE ρ vs)) ∧ F2 D0 = none ∧ H2 D0 = some (.lst acc) ∧ Reps K cl F2 acc accd ∧
            lcL d t e (noOwn (wipeE ρ vs)) (ks.drop k) accd (fun r => ∀ p F' H', Gr F H F' H' → H p = none → F' p = none → Own K cl F' H' p (.lst r) → Q (.ref p) H'),
            ⟨kvs.length, by simp, Nat.zero_le _, F, [], [], h1.list (fun i d => noOwn_o i d) hF1 hD0, hF1, upd_same, .nil, q⟩, ?_⟩
          rintro k m H2 ⟨rfl, hk, F2, acc, accd, h2, hF2, hD2, ra, q2⟩
          have lk := h2.g.k _ _ hlk
          by_cases hlt : k < kvs.length
          · have hlt' : k < ks.length := by rw [lks]; exact hlt
            have ed : ks.drop k = ks[k] :: ks.drop (k + 1) := List.drop_eq_getElem_cons hlt'
            rw [ed] at q2
            refine .inr ⟨⟨lk, by omega⟩, fun H' => ∃ F3 acc accd, Hold K cl F (upd H a (.frz od (.dK ws))) F3 H' (L2.wipe σ vs) (noOwn (wipeE ρ vs)) ∧ F3 D0 = none ∧ H' D0 = some (.lst acc) ∧ Reps K cl F3 acc accd ∧
              lcL d t e (noOwn (wipeE ρ vs)) (ks.drop (k + 1)) accd (fun r => ∀ p F' H', Gr F H F' H' → H p = none → F' p = none → Own K cl F' H' p (.lst r) → Q (.ref p) H'), fun H' ⟨F', a', ad', x1, x2, x3, x4, x5⟩ => ⟨kvs.length - (k + 1), by omega, rfl, hlt, F', a', ad', x1, x2, x3, x4, x5⟩, ?_⟩
            rintro x H3 ⟨rfl, kk, vv, hkk, rfl⟩
            have rx : Rep K cl F2 (kV kk) ks[k] := by
              obtain ⟨v, e1, rv⟩ := rk.get (List.getElem?_eq_getElem hlt')
              rw [List.getElem?_map, hkk] at e1
              cases e1
              exact rv.mono h2.g.f
            have q2' := hn.k _ _ _ (fun i d => noOwn_o i d) q2
            refine hg.ok F _ F2 H3 _ _ (kV kk) _ _ h2 rx (hg.mono _ _ _ _ (fun ρ4 q4 σ4 h4 ag => ?_) q2')
            obtain ⟨no4, q4⟩ := q4
            refine ⟨(wipe_same ag hjs).trans ?_, ?_⟩
            · exact wipe_same (vs := vs) (js := vs) (σ := σ) (σ' := L2.wipe σ vs) ⟨wipe_length _ _, fun i hi => wipe_out hi⟩ (fun j hj => hj)
            refine ht.ok F _ F2 H3 σ4 ρ4 noE _ h4 leN (ht.mono noE ρ4 _ _ (fun kb q F4 H4 g4 => ?_) q4)
            have h4' := h2.grow g4
            have n4 : F4 D0 = none := g4.keepNone hD2 hF2
            have e4 : H4 D0 = some (.lst acc) := g4.k _ _ hD2
            cases kb with
            | false => exact ⟨F4, acc, accd, h4', n4, e4, ra.mono g4.f, q⟩
            | true =>
              refine he.ok F _ F4 H4 σ4 ρ4 noE _ (h4.grow g4) leN (he.mono noE ρ4 _ _ (fun y q v F5 H5 g5 r5 => ?_) q)
              have n5 : F5 D0 = none := g5.keepNone e4 n4
              have e5 : H5 D0 = some (.lst acc) := g5.k _ _ e4
              refine ⟨acc, e5, by rw [ra.length, ← line_eq]; exact q.1, F5, acc ++ [v], accd ++ [y], (h4'.grow g5).list (fun i d => noOwn_o i d) n5 hD0, n5, upd_same, ((ra.mono g4.f).mono g5.f).append (.cons r5 .nil), q.2⟩
          · have e : k = kvs.length := by omega
            subst e
            rw [List.drop_of_length_le (by rw [lks]; exact Nat.le_refl _)] at q2
            exact .inl ⟨⟨lk, by omega⟩, fin accd F2 H2 D0 h2.g hD0 hF2 ⟨acc, hD2, ra⟩ q2⟩
        | _ => exact q.elim
end
section
variable {X : Cx} {K : Fg} {cl : Cl} {W : WX} {pos : Pos}
theorem vn_lcK {i : Nat} {x : Str} {px : Pos} {js : List Nat} {elt tg : Expr} {ifs : List Expr} {scope : Scope} {own : List (Str × Nat)} {vs : List Nat} {g : TG} {d : DG} {tt : TT} {t : DB} {te : TE} {e : DT} (hc : X.calm = true) (hN : X.N.Nodup) (ok : BlkOk X.N X.env.scope scope own)
    (hg : ∀ (s : Shared) (H : Hp) (C : Addr) (l : List (Str × Addr)) (fp : List Addr), VT (X.blk s H scope (compEnvC scope l C X.env) fp) K cl js tg g d) (ht : ∀ (s : Shared) (H : Hp) (C : Addr) (l : List (Str × Addr)) (fp : List Addr), VP (X.blk s H scope (compEnvC scope l C X.env) fp) K cl WF ifs tt t)
    (he : ∀ (s : Shared) (H : Hp) (C : Addr) (l : List (Str × Addr)) (fp : List Addr), VE (X.blk s H scope (compEnvC scope l C X.env) fp) K cl WF elt te e) (hi : X.N[i]? = some x := by rfl) (hv : Vis X.env.scope x := by first | exact Or.inl rfl | exact Or.inr (Or.inl rfl) | exact Or.inr (Or.inr rfl)) (hdb : (x == ("__debug__" : Str)) = false := by decide)
    (hcd : (x == ("__classdict__" : Str)) = false := by decide) (hvs : own.map (·.2) = vs := by rfl) (hjs : ∀ j ∈ js, j ∈ own.map (·.2) := by decide) (hs : ∀ y, foldedSetIterable (.Name x px) X.env y = pure y := by intro _; rfl) (hK : X.K = K := by rfl) :
    VN X K cl W (.ListComp elt [⟨tg, .Name x px, ifs, 0⟩] scope pos) (tLockE (tLc (iKeys (tVar i)) g tt te vs)) (dLc (iKeyO i) d t e vs) := by
  obtain rfl := hK
  exact hvs ▸ ⟨pe_lock (pe_lc hc hN (pi_keys (pe_var hi hv hdb hcd)) ok (fun s H C l fp => (hg s H C l fp).pe) (fun s H C l fp => (ht s H C l fp).pe) (fun s H C l fp => (he s H C l fp).pe) hs),
    rfn_lcK (hg X.s_0 X.H_0 0 [] []).rf (hg X.s_0 X.H_0 0 [] []).no hjs (ht X.s_0 X.H_0 0 [] []).rf (he X.s_0 X.H_0 0 [] []).rf, rfl⟩
end
end DL

/-! DMeth: methods of built-in values that leave what they are asked of as it is. -/
namespace DL
open PySem L2 PyProof.Rows
/-- [x] + xs -/
def rCons (r : V → List V → Hp → VK → Prop) : List V → Hp → VK → Prop := fun vs H Q => ∃ x xs, vs = x :: xs ∧ r x xs H Q
section
variable {K : Fg} {cl : Cl} {W : WX}
theorem rCons_out {r : V → List V → Hp → VK → Prop} {x : V} {xs : List V} {H : Hp} {Q : VK} (h : rCons r (x :: xs) H Q) : r x xs H Q := by
  obtain ⟨y, ys, e, q⟩ := h
  injection e with e1 e2
  subst e1 e2
  exact q
theorem tyD_V {F H : Hp} {T : String} {v : V} {d : D} (s : Same F H) (r : Rep K cl F v d) (h : tyD T d) : tyV K T v H := by
  cases r with
  | str z => exact h
  | lst e rr => exact .inl ⟨h, _, SqL.of (s _ _ e)⟩
  | _ => exact h.elim
theorem rfe_mt {T : String} {r : V → List V → Hp → VK → Prop} {f : List D → DK → Prop} {ta : TE} {tr : TA} {p : DT} {q : DA} (o : RfC K cl (rCons r) f) (hp : RfE K cl W ta p) (hr : RfA K cl W tr q) : RfE K cl W (tBM K T r ta tr) (dMt T f p q) where
  mono2 := fun E E' ρ P P' hE h q => hp.mono2 E E' ρ _ _ hE (fun x q => ⟨q.1, hr.mono2 E E' ρ _ _ hE (fun xs q => o.mono _ P P' h q) q.2⟩) q
  ok := fun F0 H0 F H σ ρ E Q hh le q => by
    refine hp.ok F0 H0 F H σ ρ E _ hh le (hp.mono E ρ _ _ (fun x q v F1 H1 g1 r1 => ?_) q)
    refine ⟨tyD_V g1.s r1 q.1, ?_⟩
    refine hr.ok F0 H0 F1 H1 σ ρ E _ (hh.grow g1) le (hr.mono E ρ _ _ (fun y q u F2 H2 g2 r2 => ?_) q.2)
    refine rCons_out (o.ok F2 H2 (v :: u) (x :: y) Q g2.s (.cons (r1.mono g2.f) r2) (o.mono _ _ _ (fun d q v' F' H' g3 r3 => ?_) q))
    exact q v' F' H' ((g1.trans g2).trans g3) r3
theorem rfe_mt0 {T : String} {r : V → List V → Hp → VK → Prop} {f : List D → DK → Prop} {ta : TE} {p : DT} (o : RfC K cl (rCons r) f) (hp : RfE K cl W ta p) : RfE K cl W (tBM0 K T r ta) (dMt T f p aNil) where
  mono2 := fun E E' ρ P P' hE h q => hp.mono2 E E' ρ _ _ hE (fun x q => ⟨q.1, o.mono _ P P' h q.2⟩) q
  ok := fun F0 H0 F H σ ρ E Q hh le q => by
    refine hp.ok F0 H0 F H σ ρ E _ hh le (hp.mono E ρ _ _ (fun x q v F1 H1 g1 r1 => ?_) q)
    refine ⟨tyD_V g1.s r1 q.1, ?_⟩
    refine rCons_out (o.ok F1 H1 [v] [x] Q g1.s (.cons r1 .nil) (o.mono _ _ _ (fun d q v' F' H' g3 r3 => ?_) q.2))
    exact q v' F' H' (g1.trans g3) r3
theorem Reps.get2 {F : Hp} : ∀ {vs : List V} {ds : List D} {j : Nat} {d : D}, Reps K cl F vs ds → ds[j]? = some d → ∃ v, vs[j]? = some v ∧ Rep K cl F v d
  | _, _, 0, d, .cons r _, e => ⟨_, rfl, by simp at e; exact e ▸ r⟩
  | _, _, j + 1, d, .cons _ rr, e => by
    simp at e
    obtain ⟨v, h1, h2⟩ := rr.get2 e
    exact ⟨v, by simpa using h1, h2⟩
theorem Reps.getV {F : Hp} : ∀ {vs : List V} {ds : List D} {j : Nat} {v : V}, Reps K cl F vs ds → vs[j]? = some v → ∃ d, ds[j]? = some d ∧ Rep K cl F v d
  | _, _, 0, d, .cons r _, e => ⟨_, rfl, by simp at e; exact e ▸ r⟩
  | _, _, j + 1, d, .cons _ rr, e => by
    simp at e
    obtain ⟨v, h1, h2⟩ := rr.getV e
    exact ⟨v, by simpa using h1, h2⟩
theorem all_get {xs : List D} {j : Nat} {z : D} (h : xs.all isFlat = true) (e : xs[j]? = some z) : isFlat z = true := List.all_eq_true.mp h z (List.mem_of_getElem? e)
theorem rf_index : RfC K cl (rCons (rIndex K)) fIndex where
  mono := fun x P P' h q => by
    match x, q with
    | [.lst l, y], ⟨q1, q2, j, q3, q4, q5⟩ => exact ⟨q1, q2, j, q3, q4, h _ q5⟩
  ok := fun F H v x Q s r q => by
    match x, q, r with
    | [.lst l, y], ⟨q1, q2, j, ⟨z, q3, q3'⟩, q4, q5⟩, .cons (.lst e rr) (.cons rb .nil) =>
      obtain ⟨vz, g1, g2⟩ := rr.get2 q3
      refine ⟨_, _, rfl, _, _, _, j, vz, rfl, rfl, SqL.of (s _ _ e), rb.flat1 q1, rr.flat q2, g1, ?_, fun m z' hm hz => ?_, q5 _ F H (Gr.refl s) (.int _)⟩
      · rw [eqV_D g2 rb (all_get q2 q3) q1]
        exact q3'
      · obtain ⟨d, h1, h2⟩ := rr.getV hz
        rw [eqV_D h2 rb (all_get q2 h1) q1]
        exact q4 m d hm h1
/-! texts -/
theorem strs_reps {F : Hp} : ∀ {ds : List D} {ys : List Str} {vs : List V}, strsOf ds = some ys → Reps K cl F vs ds → vs = ys.map V.str
  | [], ys, vs, h, r => by
    cases r
    cases h
    rfl
  | .str x :: ds, ys, vs, h, r => by
    unfold strsOf at h
    cases e : strsOf ds with
    | none => rw [e] at h; cases h
    | some zs =>
      rw [e] at h
      cases h
      cases r with
      | cons hx rr =>
        cases hx
        rw [strs_reps e rr]
        rfl
  | .non :: _, _, _, h, _ => by cases h
  | .bl _ :: _, _, _, h, _ => by cases h
  | .int _ :: _, _, _, h, _ => by cases h
  | .tup _ :: _, _, _, h, _ => by cases h
  | .lst _ :: _, _, _, h, _ => by cases h
  | .dk _ :: _, _, _, h, _ => by cases h
  | .ins _ _ :: _, _, _, h, _ => by cases h
  | .scr _ :: _, _, _, h, _ => by cases h
  | .st :: _, _, _, h, _ => by cases h
theorem rf_s2b {g : Str → Str → Bool} : RfC K cl (rCons fun x xs H Q => ∃ a b, x = .str a ∧ xs = [.str b] ∧ Q (.bl (g a b)) H) (fS2 fun a b => .bl (g a b)) where
  mono := fun x P P' h q => by
    match x, q with
    | [.str a, .str b], q => exact h _ q
  ok := fun F H v x Q s r q => by
    match x, q, r with
    | [.str a, .str b], q, .cons (.str _) (.cons (.str _) .nil) => exact ⟨_, _, rfl, a, b, rfl, rfl, q _ F H (Gr.refl s) (.bl _)⟩
theorem rf_s2i {g : Str → Str → Int} : RfC K cl (rCons fun x xs H Q => ∃ a b, x = .str a ∧ xs = [.str b] ∧ Q (.int (g a b)) H) (fS2 fun a b => .int (g a b)) where
  mono := fun x P P' h q => by
    match x, q with
    | [.str a, .str b], q => exact h _ q
  ok := fun F H v x Q s r q => by
    match x, q, r with
    | [.str a, .str b], q, .cons (.str _) (.cons (.str _) .nil) => exact ⟨_, _, rfl, a, b, rfl, rfl, q _ F H (Gr.refl s) (.int _)⟩
theorem rf_s1b {C : Str → Prop} {g : Str → Bool} : RfC K cl (rCons fun x xs H Q => ∃ a, x = .str a ∧ xs = [] ∧ C a ∧ Q (.bl (g a)) H) (fS1 C fun a => .bl (g a)) where
  mono := fun x P P' h q => by
    match x, q with
    | [.str a], q => exact ⟨q.1, h _ q.2⟩
  ok := fun F H v x Q s r q => by
    match x, q, r with
    | [.str a], q, .cons (.str _) .nil => exact ⟨_, _, rfl, a, rfl, rfl, q.1, q.2 _ F H (Gr.refl s) (.bl _)⟩
theorem rf_s1s {C : Str → Prop} {g : Str → Str} : RfC K cl (rCons fun x xs H Q => ∃ a, x = .str a ∧ xs = [] ∧ C a ∧ Q (.str (g a)) H) (fS1 C fun a => .str (g a)) where
  mono := fun x P P' h q => by
    match x, q with
    | [.str a], q => exact ⟨q.1, h _ q.2⟩
  ok := fun F H v x Q s r q => by
    match x, q, r with
    | [.str a], q, .cons (.str _) .nil => exact ⟨_, _, rfl, a, rfl, rfl, q.1, q.2 _ F H (Gr.refl s) (.str _)⟩
theorem rf_split : RfC K cl (rCons fun x xs H Q => ∃ a b, x = .str a ∧ xs = [.str b] ∧ (b.length == 0) = false ∧ a.length + 2 ≤ sizeLine ∧ rNewStrs (Txt.split a b) H Q) fSplit where
  mono := fun x P P' h q => by
    match x, q with
    | [.str a, .str b], q => exact ⟨q.1, q.2.1, h _ q.2.2⟩
  ok := fun F H v x Q s r q => by
    match x, q, r with
    | [.str a, .str b], q, .cons (.str _) (.cons (.str _) .nil) =>
      exact ⟨_, _, rfl, a, b, rfl, rfl, q.1, q.2.1, fun p hp => q.2.2 _ (upd F p _) _ (Gr.new s hp) (.lst upd_same (reps_strs))⟩
theorem rf_join : RfC K cl (rCons fun x xs H Q => ∃ a p, ∃ ys : List Str, x = .str a ∧ xs = [.ref p] ∧ (SqL K H p (ys.map V.str) ∨ SqT K H p (ys.map V.str)) ∧ (ys.map (·.length)).sum + ys.length * a.length ≤ 16777216 ∧ Q (.str (Txt.join a ys)) H) fJoin where
  mono := fun x P P' h q => by
    match x, q with
    | [.str a, .lst l], q =>
      simp only [fJoin] at q ⊢
      cases e : strsOf l with
      | none => rw [e] at q; exact q.elim
      | some ys => rw [e] at q; exact ⟨q.1, h _ q.2⟩
  ok := fun F H v x Q s r q => by
    match x, q, r with
    | [.str a, .lst l], q, .cons (.str _) (.cons (.lst e rr) .nil) =>
      simp only [fJoin] at q
      cases e1 : strsOf l with
      | none => rw [e1] at q; exact q.elim
      | some ys =>
        rw [e1] at q
        have ev := strs_reps e1 rr
        subst ev
        exact ⟨_, _, rfl, a, _, ys, rfl, rfl, .inl (SqL.of (s _ _ e)), q.1, q.2 _ F H (Gr.refl s) (.str _)⟩
end
/-! the rows -/
section
variable {X : Cx} {K : Fg} {cl : Cl} {W : WX} {pos : Pos}
theorem ve_mt {T id : String} {m : Str} {r : V → List V → Hp → VK → Prop} {f : List D → DK → Prop} {o e : Expr} {es : List Expr} {to : TE} {t : TA} {p : DT} {q : DA} {apos : Pos}
    (pa : PlainAttrs T) (slot : Slot T m id) (hty : typeOf (.builtin id) = pure (.type "method_descriptor")) (hm : MtR X id r) (rf : RfC X.K cl (rCons r) f) (ho : VE X K cl W o to p) (ha : VA X K cl W (e :: es) t q)
    (hbase : attributeBase o m X.env (eval o X.env) = eval o X.env := by rfl)
    (hfew : ((backTo pos (starEach (e :: es) X.env)).all (fun x => !x.1) && (backToKw pos (keywordEach [] X.env)).all (fun x => x.1.isSome)
      && decide ((e :: es).length + ([] : List Keyword).length + (if ([] : List Keyword).isEmpty then 0 else 1) < 30)) = true := by rfl)
    (hline : (apos.endLine == pos.line) = true := by rfl) (hs : starEach (e :: es) X.env = (false, eval e X.env) :: starEach es X.env := by rfl) (hplain : (backTo pos (starEach es X.env)).any (·.1) = false := by rfl) :
    VE X K cl W (.Call (.Attribute o m apos) (e :: es) [] pos) (tBM K T r to t) (dMt T f p q) := by
  obtain rfl := ho.hK
  exact ⟨pe_bm pa slot hty hm ho.pe ha.pe hbase hfew hline hs hplain, rfe_mt rf ho.rf ha.rf, rfl⟩
theorem ve_mt0 {T id : String} {m : Str} {r : V → List V → Hp → VK → Prop} {f : List D → DK → Prop} {o : Expr} {to : TE} {p : DT} {apos : Pos}
    (pa : PlainAttrs T) (slot : Slot T m id) (hty : typeOf (.builtin id) = pure (.type "method_descriptor")) (hm : MtR X id r) (rf : RfC X.K cl (rCons r) f) (ho : VE X K cl W o to p)
    (hbase : attributeBase o m X.env (eval o X.env) = eval o X.env := by rfl) (hline : (apos.endLine == pos.line) = true := by rfl) :
    VE X K cl W (.Call (.Attribute o m apos) [] [] pos) (tBM0 K T r to) (dMt T f p aNil) := by
  obtain rfl := ho.hK
  exact ⟨pe_bm0 pa slot hty hm ho.pe hbase hline, rfe_mt0 rf ho.rf, rfl⟩
end
end DL

/-! DFmt: f-strings, with and without 02d. -/
namespace DL
open PySem L2 PyProof.Rows
section
open PySem.Builtin
theorem gives_cut {a : Int} {t : Tok} {n : Nat} {k : String → Sem Fin} {m : Made} (g : Gives (k "int") m) : Gives (typeNameOfCut n (.int a t) >>= k) m :=
  fun prog w A R s q => wpAny_bind (wpAny_typeNameOfCut_int (g prog w A R s q))
theorem gives_ret {x y : Str} (h : x = y) : Gives (retStr x) (.str y) := by
  subst h
  exact .of_eq rfl
def spec02 : Str := "02d"
theorem gives_02 {a : Int} (t u : Tok) (h0 : 0 ≤ a) (h1 : a < 100) : Gives («int.__format__» ⟨[.int a t, .str spec02 u], []⟩) (.str (two a)) := by
  obtain ⟨n, rfl⟩ := Int.eq_ofNat_of_zero_le h0
  have hn : n < 100 := by omega
  have small : ((n : Int)).natAbs.log2 < 1920 := by
    have : ((n : Int)).natAbs.log2 ≤ n := Nat.log2_le_self _
    omega
  unfold «int.__format__»
  simp only [selfAndOne, noKeywords, PySem.Builtin.Int.intOfSelf, asInt?, asStr?, List.isEmpty_nil, if_true, pure_bind, bind_pure, bind_assoc]
  rw [show (Value.str spec02 u == Value.none) = false from rfl]
  refine gives_after_typeNameOf (T := "str") (fun s => typeIs_str s _ _) (by decide) fun _ => ?_
  have hp : Float.parseFormatSpec spec02.cps.toList "int" 62 = .ok { fill := 48, align := 61, width := some 2, type := some 100 } := rfl
  rw [if_neg (by decide), if_neg (by decide)]
  refine gives_cut ?_
  rw [hp]
  simp only [Option.getD_some]
  rw [if_pos (by decide +kernel)]
  show Gives (do let r ← Builtin.overDigitLimit? (n : Int); _) _
  rw [PySem.overDigitLimit_small small]
  show Gives (retStr _) _
  refine gives_ret ?_
  clear small h0 h1
  revert n
  decide +kernel
end
section
variable {X : Cx} {K : Fg} {cl : Cl} {W : WX} {pos : Pos}
def tFmt2 (te : TE) : TE := fun σ H Q => te σ H fun x H1 => ∃ i : Int, x = .int i ∧ (0 ≤ i ∧ i < 100) ∧ Q (.str (two i)) H1
theorem two_len (i : Int) : (two i).length = 2 := rfl
theorem pe_fmt2 {e : Expr} {te : TE} {k : Nat} {p1 p2 : Pos} (he : PE X e te) : PE X (.FormattedValue e (-1) (some (.JoinedStr [.Constant (.str spec02) k p1] p2)) pos) (tFmt2 te) := by
  refine ⟨fun pins s σ H Q I h => ?_⟩
  refine wpAny_FormattedValue_spec (thn (he.run pins s σ H _ I h) fun v s1 hv => ?_)
  obtain ⟨x, H1, I1, r1, i, rfl, hi, q⟩ := hv
  obtain ⟨t, rfl⟩ := r1
  refine thn ((pe_joined1 (pos := p2) (pe_str (j := k) (pos := p1) (x := spec02))).run pins s1 σ H1 (fun y H2 => y = .str spec02 ∧ H2 = H1) I1 ⟨rfl, rfl⟩) fun u s2 hu => ?_
  obtain ⟨y, H2, I2, r2, rfl, rfl⟩ := hu
  obtain ⟨t2, rfl⟩ := r2
  refine ⟨spec02, t2, rfl, ?_⟩
  refine wpAny_formatField_spec (by decide) (fun s' => typeIs_int s' i t) F.slot_int_format F.entry_int_format (F.args_int_format_2) (fun u => gives_02 t u hi.1 hi.2) ⟨.str (two i), _, I2.tok _, ⟨_, rfl⟩, q⟩ (by decide) (by rw [two_len]; decide)
/-! a text k times -/
def rMulS : R2 := fun x y H Q => ∃ a k, x = .str a ∧ y = .int k ∧ (-1000 ≤ k ∧ k ≤ 10000 ∧ a.length ≤ 1000) ∧ Q (.str (repS a k)) H
theorem fold_app (xs : Array Nat) : ∀ (n : Nat) (acc : Array Nat), (List.replicate n xs).foldl (· ++ ·) acc = acc ++ (List.replicate n xs.toList).flatten.toArray
  | 0, acc => by simp
  | n + 1, acc => by
    rw [List.replicate_succ, List.foldl_cons, fold_app xs n, List.replicate_succ, List.flatten_cons]
    apply Array.ext'
    simp
theorem op_mulS : OpR X (binaryOp .Mult) rMulS := by
  intro pins s σ H x y v u Q I rx ry h
  obtain ⟨a, k, rfl, rfl, ⟨h1, h2, h3⟩, q⟩ := h
  obtain ⟨t, rfl⟩ := rx
  obtain ⟨t2, rfl⟩ := ry
  have hk : k.toNat ≤ 10000 := by omega
  have hm : a.length * k.toNat ≤ 1000 * 10000 := Nat.mul_le_mul h3 hk
  refine PySem.P.mul_str (by rw [decide_eq_false (by omega), decide_eq_false (by omega)]; rfl) (fun z _ => ?_) (fun _ _ => ?_) ?_
  · have : (1000 : Int) ≤ (2 ^ 63 - 1) / k := by
      refine (Int.le_ediv_iff_mul_le (by omega)).mpr ?_
      omega
    omega
  · have e : PySem.Builtin.Str.tooLong (a.length * k.toNat) = false := by
      have z : (sizeLine : Nat) = 16777216 := rfl
      unfold PySem.Builtin.Str.tooLong
      simp
      omega
    exact e
  · by_cases c : k < 1
    · rw [if_pos c]
      have e0 : k.toNat = 0 := by omega
      have e1 : repS a k = Str.empty := by
        unfold repS
        rw [e0]
        rfl
      rw [e1] at q
      exact ⟨by decide, .str Str.empty, H, I.tok _, ⟨_, rfl⟩, q⟩
    · rw [if_neg c]
      by_cases c2 : (k == 1 || a.length == 0) = true
      · rw [if_pos c2]
        refine ⟨.str (repS a k), H, I, ⟨t, ?_⟩, q⟩
        have : repS a k = a := by
          unfold repS
          rw [Bool.or_eq_true] at c2
          rcases c2 with z | z
          · have : k = 1 := by simpa using z
            subst this
            simp [List.replicate]
          · have : a.cps = #[] := by
              have z : a.length = 0 := by simpa using z
              exact Array.eq_empty_of_size_eq_zero z
            cases a
            simp only at this
            subst this
            congr 1
            induction k.toNat with
            | zero => rfl
            | succ n ih => rw [List.replicate_succ, List.flatten_cons]; simpa using ih
        rw [this]
      · rw [if_neg c2]
        have e2 : (⟨(List.replicate k.toNat a.cps).foldl (· ++ ·) #[]⟩ : Str) = repS a k := by
          unfold repS
          rw [fold_app]
          simp
        rw [e2]
        refine ⟨?_, .str (repS a k), H, I.tok _, ⟨_, rfl⟩, q⟩
        have z : (sizeLine : Nat) = 16777216 := rfl
        have e3 : (repS a k).length = k.toNat * a.length := by
          show (repS a k).cps.size = _
          unfold repS
          simp
          rfl
        rw [e3, Nat.mul_comm]
        omega
theorem rf_mulS : RfOp K cl rMulS oMulS where
  mono := fun x y P P' h q => by
    match x, y, q with
    | .str a, .int k, q => exact ⟨q.1, h _ q.2⟩
  ok := fun F H v u x y Q s r1 r2 q => by
    match x, y, q, r1, r2 with
    | .str a, .int k, q, .str _, .int _ => exact ⟨a, k, rfl, rfl, q.1, q.2 _ F H (Gr.refl s) (.str _)⟩
theorem ve_mulS {a b : Expr} {ta tb : TE} {p q : DT} (ha : VE X K cl W a ta p) (hb : VE X K cl W b tb q) : VE X K cl W (.BinOp a .Mult b pos) (tOp rMulS ta tb) (dOp oMulS p q) := ve_bin op_mulS rf_mulS ha hb
/-! // by a divisor of any sign -/
def CDivM (_ j : Int) : Prop := j ≠ 0 ∧ j.natAbs.log2 < 9000
theorem op_divN : OpR X (binaryOp .FloorDiv) (rI CDivM fun i j => .int (i.fdiv j)) := opI fun _ _ _ _ _ _ _ hc q => floordiv_int hc.1 q (.inl (PyProof.noPylong_of_log2 hc.2))
theorem rf_divN : RfOp K cl (rI CDivM fun i j => .int (i.fdiv j)) oDivN := rf_I (fun _ _ _ => rfl) fun x y Q q => by cases x <;> cases y <;> first | exact ⟨_, _, rfl, rfl⟩ | exact q.elim
theorem ve_divN {a b : Expr} {ta tb : TE} {p q : DT} (ha : VE X K cl W a ta p) (hb : VE X K cl W b tb q) : VE X K cl W (.BinOp a .FloorDiv b pos) (tOp (rI CDivM fun i j => .int (i.fdiv j)) ta tb) (dOp oDivN p q) := ve_bin op_divN rf_divN ha hb
/-! the words' rules -/
theorem rfe_fmt {te : TE} {t : DT} (h : RfE K cl W te t) : RfE K cl W (tFmt te) (dFmt t) where
  mono2 := fun E E' ρ P P' hE l q => h.mono2 E E' ρ _ _ hE (fun x q => by
    cases x with
    | str y => exact ⟨q.1, l _ q.2⟩
    | int i => exact ⟨q.1, l _ q.2⟩
    | _ => exact q.elim) q
  ok := fun F0 H0 F H σ ρ E Q hh le q => by
    refine h.ok F0 H0 F H σ ρ E _ hh le (h.mono E ρ _ _ (fun x q v F1 H1 g1 r1 => ?_) q)
    cases r1 with
    | str y => exact .inl ⟨y, rfl, q.1, q.2 _ F1 H1 g1 (.str _)⟩
    | int i => exact .inr ⟨i, rfl, q.1, q.2 _ F1 H1 g1 (.str _)⟩
    | _ => exact q.elim
theorem rfe_fmt2 {te : TE} {t : DT} (h : RfE K cl W te t) : RfE K cl W (tFmt2 te) (dFmt2 t) where
  mono2 := fun E E' ρ P P' hE l q => h.mono2 E E' ρ _ _ hE (fun x q => by
    cases x with
    | int i => exact ⟨q.1, l _ q.2⟩
    | _ => exact q.elim) q
  ok := fun F0 H0 F H σ ρ E Q hh le q => by
    refine h.ok F0 H0 F H σ ρ E _ hh le (h.mono E ρ _ _ (fun x q v F1 H1 g1 r1 => ?_) q)
    cases r1 with
    | int i => exact ⟨i, rfl, q.1, q.2 _ F1 H1 g1 (.str _)⟩
    | _ => exact q.elim
inductive RfJ (K : Fg) (cl : Cl) (W : WX) : List TE → List DT → Prop where
  | nil : RfJ K cl W [] []
  | cons {te : TE} {t : DT} {tes : List TE} {ts : List DT} : RfE K cl W te t → RfJ K cl W tes ts → RfJ K cl W (te :: tes) (t :: ts)
theorem gStr_out {x : D} {Q : Str → Prop} (h : gStr x Q) : ∃ y, x = .str y ∧ Q y := by
  cases x <;> first | exact ⟨_, rfl, h⟩ | exact h.elim
theorem RfJ.mono2 {tes : List TE} {ts : List DT} (h : RfJ K cl W tes ts) : ∀ (acc : Str) (E E' : EK) (ρ : DL.Env) (P P' : Str → Prop), (∀ e ρ, E e ρ → E' e ρ) → (∀ y, P y → P' y) → dJs ts acc E ρ P → dJs ts acc E' ρ P' := by
  induction h with
  | nil => exact fun acc E E' ρ P P' hE l q => l _ q
  | cons h1 h2 ih =>
    intro acc E E' ρ P P' hE l q
    refine h1.mono2 E E' ρ _ _ hE (fun x q => ?_) q
    obtain ⟨y, rfl, q1, q2⟩ := gStr_out q
    exact ⟨q1, ih _ E E' ρ P P' hE l q2⟩
theorem RfJ.ok {tes : List TE} {ts : List DT} (h : RfJ K cl W tes ts) : ∀ (acc : Str) (F0 H0 F H : Hp) (σ : L2.St) (ρ : DL.Env) (E : EK) (Q : Str → Hp → Prop), Hold K cl F0 H0 F H σ ρ → LinkE K cl F0 H0 W E → dJs ts acc E ρ (fun y => ∀ F' H', Gr F H F' H' → Q y H') → tJs tes acc σ H Q := by
  induction h with
  | nil => exact fun acc F0 H0 F H σ ρ E Q hh le q => q F H (Gr.refl hh.g.s)
  | cons h1 h2 ih =>
    intro acc F0 H0 F H σ ρ E Q hh le q
    refine h1.ok F0 H0 F H σ ρ E _ hh le (h1.mono E ρ _ _ (fun x q v F1 H1 g1 r1 => ?_) q)
    obtain ⟨y, rfl, q1, q2⟩ := gStr_out q
    cases r1
    refine ⟨y, rfl, q1, ?_⟩
    exact ih _ F0 H0 F1 H1 σ ρ E Q (hh.grow g1) le (h2.mono2 _ E E ρ _ _ (fun _ _ z => z) (fun y q F' H' g => q F' H' (g1.trans g)) q2)
theorem rfe_joined {tes : List TE} {ts : List DT} (h : RfJ K cl W tes ts) : RfE K cl W (fun σ H Q => tJs tes Str.empty σ H fun out H1 => Q (.str out) H1) (dJoin ts) where
  mono2 := fun E E' ρ P P' hE l q => h.mono2 _ E E' ρ _ _ hE (fun y q => l _ q) q
  ok := fun F0 H0 F H σ ρ E Q hh le q => h.ok _ F0 H0 F H σ ρ E _ hh le (h.mono2 _ E E ρ _ _ (fun _ _ z => z) (fun y q F' H' g => q _ F' H' g (.str _)) q)
structure VJ (X : Cx) (K : Fg) (cl : Cl) (W : WX) (es : List Expr) (tes : List TE) (ts : List DT) : Prop where
  pj : PJ X es tes
  rf : RfJ K cl W tes ts
  hK : X.K = K
theorem vj_nil (hK : X.K = K := by rfl) : VJ X K cl W [] [] [] := ⟨.nil, .nil, hK⟩
theorem vj_cons {e : Expr} {te : TE} {t : DT} {es : List Expr} {tes : List TE} {ts : List DT} (h : VE X K cl W e te t) (r : VJ X K cl W es tes ts) : VJ X K cl W (e :: es) (te :: tes) (t :: ts) := ⟨.cons h.pe r.pj, .cons h.rf r.rf, h.hK⟩
theorem ve_fmt {e : Expr} {te : TE} {t : DT} (h : VE X K cl W e te t) : VE X K cl W (.FormattedValue e (-1) none pos) (tFmt te) (dFmt t) := ⟨pe_fmt h.pe, rfe_fmt h.rf, h.hK⟩
theorem ve_fmt2 {e : Expr} {te : TE} {t : DT} {k : Nat} {p1 p2 : Pos} (h : VE X K cl W e te t) : VE X K cl W (.FormattedValue e (-1) (some (.JoinedStr [.Constant (.str "02d") k p1] p2)) pos) (tFmt2 te) (dFmt2 t) := ⟨pe_fmt2 h.pe, rfe_fmt2 h.rf, h.hK⟩
theorem ve_joined {v1 v2 : Expr} {rest : List Expr} {tes : List TE} {ts : List DT} (h : VJ X K cl W (v1 :: v2 :: rest) tes ts) : VE X K cl W (.JoinedStr (v1 :: v2 :: rest) pos) (fun σ H Q => tJs tes Str.empty σ H fun out H1 => Q (.str out) H1) (dJoin ts) := ⟨pe_joined h.pj, rfe_joined h.rf, h.hK⟩
theorem ve_joined1 {e : Expr} {te : TE} {t : DT} (h : VE X K cl W e te t) : VE X K cl W (.JoinedStr [e] pos) te t := ⟨pe_joined1 h.pe, h.rf, h.hK⟩
end
end DL

/-! DKget: .get of a module's written dict; a text in a text. -/
namespace DL
open PySem L2 PyProof.Rows
/-- the entries: texts to texts -/
inductive Ents : List DictEntry → List (Str × Str) → Prop
  | nil : Ents [] []
  | cons {h : Int} {t u : Tok} {k v : Str} {es : List DictEntry} {kvs : List (Str × Str)} (r : Ents es kvs) : Ents (⟨h, .str k t, .str v u⟩ :: es) ((k, v) :: kvs)
structure KTx (K : Fg) (w : World) (d : Addr) (kvs : List (Str × Str)) : Prop where
  ex : ∃ es n, KDict K w d es n ∧ Ents es.toList kvs
theorem ents_find {z : Str} : ∀ {es : List DictEntry} {kvs : List (Str × Str)}, Ents es kvs → ((es.find? fun e => Value.isStrOf z e.key).map (·.val) = none ∧ kvs.lookup z = none) ∨ ∃ s t, (es.find? fun e => Value.isStrOf z e.key).map (·.val) = some (.str s t) ∧ kvs.lookup z = some s
  | _, _, .nil => .inl ⟨rfl, rfl⟩
  | _, _, .cons (k := k) (v := v) (u := u) r => by
    have ih := ents_find (z := z) r
    rw [List.find?_cons, List.lookup_cons]
    by_cases e : k = z
    · subst e
      have h1 : ∀ t, (Value.isStrOf k (Value.str k t)) = true := fun t => beq_self_eq_true k
      simp only [h1, beq_self_eq_true]
      exact .inr ⟨v, u, rfl, rfl⟩
    · have h1 : ∀ t, (Value.isStrOf z (Value.str k t)) = false := fun t => beq_false_of_ne e
      have h2 : (z == k) = false := beq_false_of_ne fun q => e q.symm
      simp only [h1, h2]
      exact ih
def tKGet2 (kvs : List (Str × Str)) (ty tx : TE) : TE := fun σ H Q => ty σ H fun y H1 => tx σ H1 fun z H2 => ∃ k, y = .str k ∧ Q (match kvs.lookup k with
  | some v => .str v
  | none => z) H2
section
variable {X : Cx} {e f : Expr} {apos cpos np : Pos} {ty tx : TE} {x : Str} {d : Addr} {kvs : List (Str × Str)}
theorem pe_kget2 (D : KTx X.K X.w d kvs) (hg : Gl X x) (hm : X.mg x = some (.ref d)) (he : PE X e ty) (hf : PE X f tx) (hd : (x == ("__debug__" : Str)) = false) (m : M2 X (.Name x np) "get" apos e f cpos) :
    PE X (.Call (.Attribute (.Name x np) "get" apos) [e, f] [] cpos) (tKGet2 kvs ty tx) := by
  refine ⟨fun pins s σ H Q I h => ?_⟩
  obtain ⟨es, n, D, en⟩ := D
  have hp : PE X (.Name x np) (tC (.ref d)) := pe_glob hg hm rfl hd
  refine wpAny_Call_method m.base m.few m.line PySem.F.plainAttrs_dict PySem.F.slot_dict_get PySem.F.type_dict_get (thn (hp.run pins s σ H (fun v H1 => v = .ref d ∧ H1 = H) I ⟨rfl, rfl⟩) fun u s1 ⟨x, H1, I1, rx, ex, eH⟩ => ?_)
  subst ex
  rw [eH] at I1
  obtain rfl : u = Value.ref d := rx
  refine ⟨kd_type D I1, fun b q => ?_, ?_⟩
  · cases q
    exact ⟨_, I1.kIn _ _ D.at_, rfl⟩
  rw [m.trees]
  refine Calls.callWith_builtin rfl (Calls.evalArgs_plain (Calls.spliced_cons (thn (he.run pins s1 σ H _ I1 h) fun iv s2 ⟨y, H2, I2, ry, q2⟩ =>
    Calls.spliced_cons (thn (hf.run pins s2 σ H2 _ I2 q2) fun fv s3 ⟨z, H3, I3, rz, k, ek, q3⟩ => Calls.spliced_nil ?_))))
  subst ek
  obtain ⟨t, rfl⟩ := ry
  have mp := PySem.W.mapOf_K (prog := X.prog) I3.kIn D.at_ D.lit
  refine call_meetsIn PySem.F.slot_dict_get mp.typeIs PySem.F.entry_dict_get (PySem.F.args_dict_get_3 _ _ _) (meets_dict_get_default (strKind X.prog X.w) d (strKind_is X.prog X.w k t) D.low fv) ⟨_, mp, ?_⟩
  rcases ents_find (z := k) en with ⟨h1, h2⟩ | ⟨v, u, h1, h2⟩
  · have h1' : findBy Value.isStrOf es k = none := by
      unfold findBy
      rw [← Array.find?_toList]
      exact h1
    rw [h2] at q3
    rw [h1']
    exact ⟨_, H3, I3.tok _, rz, q3⟩
  · have h1' : findBy Value.isStrOf es k = some (.str v u) := by
      unfold findBy
      rw [← Array.find?_toList]
      exact h1
    rw [h2] at q3
    rw [h1']
    exact ⟨.str v, H3, I3.tok _, ⟨u, rfl⟩, q3⟩
end
section
variable {X : Cx} {K : Fg} {cl : Cl} {W : WX}
theorem rfe_kget2 {kvs : List (Str × Str)} {ta tb : TE} {p q : DT} (ha : RfE K cl W ta p) (hb : RfE K cl W tb q) : RfE K cl W (tKGet2 kvs ta tb) (dKGet2 kvs p q) where
  mono2 := fun E E' ρ P P' hE h q => ha.mono2 E E' ρ _ _ hE (fun x q => hb.mono2 E E' ρ _ _ hE (fun z q => by
    cases x <;> first | exact q.elim | exact h _ q) q) q
  ok := fun F0 H0 F H σ ρ E Q hh le q => by
    refine ha.ok F0 H0 F H σ ρ E _ hh le (ha.mono E ρ _ _ (fun x q v F1 H1 g1 r1 => ?_) q)
    refine hb.ok F0 H0 F1 H1 σ ρ E _ (hh.grow g1) le (hb.mono E ρ _ _ (fun z q y F2 H2 g2 r2 => ?_) q)
    cases x with
    | str k =>
      cases r1
      refine ⟨k, rfl, ?_⟩
      simp only [kgetD] at q
      cases e : kvs.lookup k with
      | none =>
        rw [e] at q
        exact q _ F2 H2 (g1.trans g2) r2
      | some v =>
        rw [e] at q
        exact q _ F2 H2 (g1.trans g2) (.str _)
    | _ => exact q.elim
theorem ve_kget2 {kvs : List (Str × Str)} {x : Str} {d : Addr} {apos np pos : Pos} {b c : Expr} {tb tc : TE} {q r : DT} (D : KTx X.K X.w d kvs) (hg : Gl X x) (hm : X.mg x = some (.ref d)) (hb : VE X K cl W b tb q) (hc : VE X K cl W c tc r) (hd : (x == ("__debug__" : Str)) = false := by decide)
    (m : M2 X (.Name x np) "get" apos b c pos := by exact ⟨rfl, rfl, rfl, rfl⟩) : VE X K cl W (.Call (.Attribute (.Name x np) "get" apos) [b, c] [] pos) (tKGet2 kvs tb tc) (dKGet2 kvs q r) := by
  obtain rfl := hb.hK
  exact ⟨pe_kget2 D hg hm hb.pe hc.pe hd m, rfe_kget2 hb.rf hc.rf, rfl⟩
/-! a text in a text -/
def rInS : R2 := fun x y H Q => ∃ i j, x = .str i ∧ y = .str j ∧ Q (.bl (!(Builtin.Str.occurrences j i 0 j.length 1).isEmpty)) H
theorem rf_inS : RfOp K cl rInS gInS where
  mono := fun x y P P' h q => by
    cases x <;> first | exact q.elim | skip
    cases y <;> first | exact q.elim | exact h _ q
  ok := fun F H v u x y Q s rx ry q => by
    cases x <;> first | exact q.elim | skip
    cases y <;> first | exact q.elim | skip
    cases rx
    cases ry
    exact ⟨_, _, rfl, rfl, q _ F H (Gr.refl s) (.bl _)⟩
theorem cm_inS (hK : X.K = K := by rfl) : Cm X K cl .In rInS gInS := by
  obtain rfl := hK
  exact ⟨op_in_str, rf_inS, rfl⟩
end
end DL

/-! DTryE: except C as e: return what is said of e. -/
namespace DL
open PySem L2 PyProof.Rows
/-- an exception's dict tells its fields -/
def XdR (K : Fg) (cl : Cl) (F : Hp) (dx : Option Addr) (e : Err) : Prop := match dx with
  | none => e.fs = []
  | some d => ∃ ws, F d = some (.xd ws) ∧ FReps K cl F ws e.fs
/-- what is said of an exception at a, told by σ[i] -/
structure RfX (K : Fg) (cl : Cl) (i : Nat) (C : Addr) (th : Addr → Value → Option Addr → TE) (R : Err → DK → Prop) : Prop where
  mono : ∀ e (P P' : DK), (∀ d, P d → P' d) → R e P → R e P'
  ok : ∀ (F H : Hp) (σ : L2.St) (a : Addr) (dx : Option Addr) (e : Err) (Q : VK), Same F H → σ[i]? = some (some (.ref a)) → XdR K cl F dx e → R e (fun y => ∀ v F' H', Gr F H F' H' → Rep K cl F' v y → Q v H') → th a (.ref C) dx σ H Q
structure RfXA (K : Fg) (cl : Cl) (i : Nat) (C : Addr) (th : Addr → Value → Option Addr → TA) (R : Err → (List D → Prop) → Prop) : Prop where
  mono : ∀ e (P P' : List D → Prop), (∀ d, P d → P' d) → R e P → R e P'
  ok : ∀ (F H : Hp) (σ : L2.St) (a : Addr) (dx : Option Addr) (e : Err) (Q : List V → Hp → Prop), Same F H → σ[i]? = some (some (.ref a)) → XdR K cl F dx e → R e (fun ys => ∀ vs F' H', Gr F H F' H' → Reps K cl F' vs ys → Q vs H') → th a (.ref C) dx σ H Q
theorem xd_grow {K : Fg} {cl : Cl} {F F' : Hp} {dx : Option Addr} {e : Err} (f : Same F F') (h : XdR K cl F dx e) : XdR K cl F' dx e := by
  cases dx with
  | none => exact h
  | some d =>
    obtain ⟨ws, h1, h2⟩ := h
    exact ⟨ws, f _ _ h1, h2.mono f⟩
section
variable {K : Fg} {cl : Cl} {i : Nat} {C : Addr}
theorem rx_fld {f : Str} : RfX K cl i C (fun a v d => tXf a v d C f (tVar i)) (xFld f) where
  mono := fun e P P' h q => by
    simp only [xFld] at q ⊢
    cases z : e.fs.lookup f with
    | none => rw [z] at q; exact q
    | some d => rw [z] at q; exact h d q
  ok := fun F H σ a dx e Q s hi hx q => by
    refine ⟨.ref a, hi, rfl, rfl, ?_⟩
    simp only [xFld] at q
    cases dx with
    | none =>
      have hx : e.fs = [] := hx
      rw [hx] at q
      exact q.elim
    | some d =>
      obtain ⟨ws, h1, h2⟩ := hx
      rcases h2.look f with ⟨z, _⟩ | ⟨v, y, z1, z2, z3⟩
      · rw [z] at q; exact q.elim
      · rw [z1] at q
        exact ⟨d, ws, v, rfl, s _ _ h1, z2, q v F H (Gr.refl s) z3⟩
theorem rx_c {x : V} {d : D} (h : ∀ F, Rep K cl F x d) : RfX K cl i C (fun _ _ _ => tC x) (xC d) where
  mono := fun e P P' h q => h _ q
  ok := fun F H σ a dx e Q s hi hx q => q x F H (Gr.refl s) (h F)
theorem rx_nil : RfXA K cl i C (fun _ _ _ => tNil) xNil where
  mono := fun e P P' h q => h _ q
  ok := fun F H σ a dx e Q s hi hx q => q [] F H (Gr.refl s) .nil
theorem rx_cons {ta : Addr → Value → Option Addr → TE} {tr : Addr → Value → Option Addr → TA} {p : Err → DK → Prop} {r : Err → (List D → Prop) → Prop} (ha : RfX K cl i C ta p) (hr : RfXA K cl i C tr r) : RfXA K cl i C (fun a v d => tCons (ta a v d) (tr a v d)) (xCons p r) where
  mono := fun e P P' h q => ha.mono e _ _ (fun x q => hr.mono e _ _ (fun xs q => h _ q) q) q
  ok := fun F H σ a dx e Q s hi hx q => by
    refine ha.ok F H σ a dx e _ s hi hx (ha.mono e _ _ (fun x q v F1 H1 g1 r1 => ?_) q)
    refine hr.ok F1 H1 σ a dx e _ g1.s hi (xd_grow g1.f hx) (hr.mono e _ _ (fun xs q vs F2 H2 g2 r2 => ?_) q)
    exact q _ F2 H2 (g1.trans g2) (.cons (r1.mono g2.f) r2)
theorem rx_tup {tr : Addr → Value → Option Addr → TA} {r : Err → (List D → Prop) → Prop} (hr : RfXA K cl i C tr r) : RfX K cl i C (fun a v d => tTup (tr a v d)) (xTup r) where
  mono := fun e P P' h q => hr.mono e _ _ (fun xs q => ⟨q.1, h _ q.2⟩) q
  ok := fun F H σ a dx e Q s hi hx q => by
    refine hr.ok F H σ a dx e _ s hi hx (hr.mono e _ _ (fun xs q vs F1 H1 g1 r1 => ?_) q)
    refine ⟨by rw [r1.length, ← line_eq]; exact q.1, fun p hp => ?_⟩
    exact q.2 _ (upd F1 p (.tup vs)) _ (g1.trans (Gr.new g1.s hp)) (.tup (SqT.of upd_same) (r1.mono (same_upd (g1.s.free hp))))
theorem rx_op {ta tb : Addr → Value → Option Addr → TE} {p q : Err → DK → Prop} {r : R2} {f : D → D → DK → Prop} (o : RfOp K cl r f) (ha : RfX K cl i C ta p) (hb : RfX K cl i C tb q) : RfX K cl i C (fun a v d => tOp r (ta a v d) (tb a v d)) (xOp f p q) where
  mono := fun e P P' h z => ha.mono e _ _ (fun x z => hb.mono e _ _ (fun y z => o.mono x y _ _ h z) z) z
  ok := fun F H σ a dx e Q s hi hx z => by
    refine ha.ok F H σ a dx e _ s hi hx (ha.mono e _ _ (fun x z v F1 H1 g1 r1 => ?_) z)
    refine hb.ok F1 H1 σ a dx e _ g1.s hi (xd_grow g1.f hx) (hb.mono e _ _ (fun y z u F2 H2 g2 r2 => ?_) z)
    exact o.ok F2 H2 v u x y Q g2.s (r1.mono g2.f) r2 (o.mono x y _ _ (fun d z w F3 H3 g3 r3 => z w F3 H3 ((g1.trans g2).trans g3) r3) z)
theorem rfs_tryE {m : String} {os : List String} {W : WX} {th : Addr → Value → Option Addr → TE} {R : Err → DK → Prop} {tb : WX → TS} {b : DS} (hC : cl.nm m = some C) (hms : PySem.W.exmOne K (.ref C) (.ref C) = some true) (hos : ∀ m ∈ os, ∀ D, cl.nm m = some D → PySem.W.exmOne K (.ref D) (.ref C) = some false) (hf : cl.fr = false)
    (hR : RfX K cl i C th R) (hb : ∀ W : WX, RfS K cl W (tb W) b) : RfS K cl W (fun D σ H => tb (wAs K (.ref C) i (fun a v d => tRet (th a v d)) W D) D σ H) (sTryE m os i R b) where
  mono2 := fun E E' A B ρ hE l q => (hb W).mono2 _ _ A B ρ (fun e ρ' q => by
    have q : if e.cls = m then i < ρ'.length ∧ R e A.rt else e.cls ∈ os ∧ E e ρ' := q
    show if e.cls = m then i < ρ'.length ∧ R e B.rt else e.cls ∈ os ∧ E' e ρ'
    split
    · rename_i h
      rw [if_pos h] at q
      exact ⟨q.1, hR.mono e _ _ l.rt q.2⟩
    · rename_i h
      rw [if_neg h] at q
      exact ⟨q.1, hE _ _ q.2⟩) l q
  ok := fun F0 H0 F H σ ρ E B A hh le ld q => by
    refine (hb _).ok F0 H0 F H σ ρ _ B A hh (fun err ρ' σ' F' H' v dx h' q re => ?_) ld q
    have q : if err.cls = m then i < ρ'.length ∧ R err B.rt else err.cls ∈ os ∧ E err ρ' := q
    obtain ⟨C', n, rfl, hx⟩ := id re
    by_cases hm : err.cls = m
    · rw [if_pos hm] at q
      obtain ⟨qi, q⟩ := q
      rw [hm, hC] at n
      cases n
      refine ⟨true, hms, fun _ a ha => ?_, fun z => by cases z⟩
      refine hR.ok F' H' _ a dx err _ h'.g.s (List.getElem?_set_self (by rw [h'.len]; exact qi)) hx (hR.mono err _ _ (fun y q v F2 H2 g2 r2 => ?_) q)
      exact ld.rt F2 H2 v y (h'.g.trans g2) (fun _ => r2) (fun z => by rw [hf] at z; cases z) q
    · rw [if_neg hm] at q
      exact ⟨false, hos _ q.1 C' n, (fun z => by cases z), fun _ => le _ ρ' σ' F' H' _ dx h' q.2 re⟩
end
section
variable {X : Cx} {K : Fg} {cl : Cl} {W : WX}
/-- what is said of an exception: syntax, reading, words -/
structure VX (X : Cx) (K : Fg) (cl : Cl) (i : Nat) (C : Addr) (e : Expr) (th : Addr → Value → Option Addr → TE) (R : Err → DK → Prop) : Prop where
  pe : ∀ (a : Addr) (oe : Obj) (v : Value) (d : Option Addr) (pn : List (Addr × Obj)), Zc v d oe → (∃ vs, oe.data = .fields vs) → PE (X.suite a ((a, oe) :: pn)) e (th a v d)
  rf : RfX K cl i C th R
structure VXA (X : Cx) (K : Fg) (cl : Cl) (i : Nat) (C : Addr) (e : List Expr) (th : Addr → Value → Option Addr → TA) (R : Err → (List D → Prop) → Prop) : Prop where
  pe : ∀ (a : Addr) (oe : Obj) (v : Value) (d : Option Addr) (pn : List (Addr × Obj)), Zc v d oe → (∃ vs, oe.data = .fields vs) → PA (X.suite a ((a, oe) :: pn)) e (th a v d)
  rf : RfXA K cl i C th R
variable {i : Nat} {C : Addr}
theorem vx_fld {n f : Str} {np pos : Pos} (hi : X.N[i]? = some n) (hln : X.env.kindOf n = some .local) (T : XfC X.K C) (hno : PySem.W.findIn X.K (.ref C) f = some none) (hdb : (n == ("__debug__" : Str)) = false := by decide) (hcd : (n == ("__classdict__" : Str)) = false := by decide)
    (hab : attributeBase (.Name n np) f X.env (eval (.Name n np) X.env) = eval (.Name n np) X.env := by rfl) : VX X K cl i C (.Attribute (.Name n np) f pos) (fun a v d => tXf a v d C f (tVar i)) (xFld f) :=
  ⟨fun a oe v d pn hz hv => pe_xf T hno hz hv (pe_var hi (.inl hln) hdb hcd) hab, rx_fld⟩
theorem vx_str {x : Str} {j : Nat} {pos : Pos} : VX X K cl i C (.Constant (.str x) j pos) (fun _ _ _ => tC (.str x)) (xC (.str x)) := ⟨fun a oe v d pn hz hv => pe_str, rx_c fun _ => .str _⟩
theorem vx_nil : VXA X K cl i C [] (fun _ _ _ => tNil) xNil := ⟨fun a oe v d pn hz hv => pa_nil, rx_nil⟩
theorem vx_cons {e : Expr} {es : List Expr} {ta : Addr → Value → Option Addr → TE} {tr : Addr → Value → Option Addr → TA} {p : Err → DK → Prop} {r : Err → (List D → Prop) → Prop} (ha : VX X K cl i C e ta p) (hr : VXA X K cl i C es tr r) (hs : starEach (e :: es) X.env = (false, eval e X.env) :: starEach es X.env := by rfl) :
    VXA X K cl i C (e :: es) (fun a v d => tCons (ta a v d) (tr a v d)) (xCons p r) := ⟨fun a oe v d pn hz hv => pa_cons (ha.pe a oe v d pn hz hv) (hr.pe a oe v d pn hz hv) hs, rx_cons ha.rf hr.rf⟩
theorem vx_tup {es : List Expr} {x1} {pos : Pos} {tr : Addr → Value → Option Addr → TA} {r : Err → (List D → Prop) → Prop} (h : VXA X K cl i C es tr r) : VX X K cl i C (.Tuple es x1 pos) (fun a v d => tTup (tr a v d)) (xTup r) := ⟨fun a oe v d pn hz hv => pe_tup (h.pe a oe v d pn hz hv), rx_tup h.rf⟩
theorem vs_tryE {m : String} {os : List String} {n x : Str} {hx : Expr} {body : List Stmt} {np pr pos pos' : Pos} {th : Addr → Value → Option Addr → TE} {R : Err → DK → Prop} {tb : WX → TS} {b : DS} (hs : X.stack = X.env :: X.outer) (hf : X.env.frame = some X.env.locals) (hN : X.N.Nodup) (hi : X.N[i]? = some n) (hln : X.env.kindOf n = some .local) (hc : Names X x (.ref C)) (tk : Takes X W)
    (hC : cl.nm m = some C) (hms : PySem.W.exmOne K (.ref C) (.ref C) = some true) (hos : ∀ m ∈ os, ∀ D, cl.nm m = some D → PySem.W.exmOne K (.ref D) (.ref C) = some false) (hfr : cl.fr = false)
    (hR : VX X K cl i C hx th R)
    (hb : ∀ (W : WX) (pn : List (Addr × Obj)) (xe : Value → Shared → Prop), Takes (X.tr pn xe) W → PassesOwn (model X.prog X.w) X.A X.env xe → VSs (X.tr pn xe) K cl W body (tb W) b) (hK : X.K = K := by rfl) :
    VS X K cl W (.Try body [.ExceptHandler (some (.Name x np)) (some n) [.Return (some hx) pr] pos'] [] [] pos) (fun D σ H => tb (wAs K (.ref C) i (fun a v d => tRet (th a v d)) W D) D σ H) (sTryE m os i R b) := by
  obtain rfl := hK
  exact ⟨ps_try_as hs hf hN hi hln hc tk (fun W pn xe t p => (hb W pn xe t p).pe) (fun a oe v d pn hz hv => pss_one (ps_ret (hR.pe a oe v d pn hz hv))), rfs_tryE hC hms hos hfr hR.rf (fun W => (any_takes hs hf W).elim fun pn z => z.elim fun xe z => (hb W pn xe z.1 z.2).rf), rfl⟩
end
end DL

/-! DStar: a starred list or tuple among the parts of a tuple. -/
namespace DL
open PySem L2 PyProof.Rows
section
variable {X : Cx} {K : Fg} {cl : Cl} {W : WX}
theorem rfa_star {te : TE} {tr : TA} {a : DT} {r : DA} (ha : RfE K cl W te a) (hr : RfA K cl W tr r) : RfA K cl W (StX.tStar K te tr) (aStar a r) where
  mono2 := fun E E' ρ P P' hE h q => ha.mono2 E E' ρ _ _ hE (fun x q => by
    cases x <;> first | exact q.elim | exact hr.mono2 E E' ρ _ _ hE (fun ys q => h _ q) q) q
  ok := fun F0 H0 F H σ ρ E Q hh le q => by
    refine ha.ok F0 H0 F H σ ρ E _ hh le (ha.mono E ρ _ _ (fun x q v F1 H1 g1 r1 => ?_) q)
    cases r1 with
    | lst e r =>
      refine ⟨_, _, rfl, .inr (SqL.of (g1.s _ _ e)), hr.ok F0 H0 F1 H1 σ ρ E _ (hh.grow g1) le (hr.mono E ρ _ _ (fun ys q us F2 H2 g2 r2 => ?_) q)⟩
      exact q _ F2 H2 (g1.trans g2) ((r.mono g2.f).append r2)
    | tup e r =>
      refine ⟨_, _, rfl, .inl (same_t g1.s e), hr.ok F0 H0 F1 H1 σ ρ E _ (hh.grow g1) le (hr.mono E ρ _ _ (fun ys q us F2 H2 g2 r2 => ?_) q)⟩
      exact q _ F2 H2 (g1.trans g2) ((r.mono g2.f).append r2)
    | _ => exact q.elim
theorem va_star {e : Expr} {es : List Expr} {te : TE} {t : TA} {p : DT} {q : DA} {sp : Pos} (ha : VE X K cl W e te p) (hr : VA X K cl W es t q) (hs : starEach (.Starred e sp :: es) X.env = (true, eval e X.env) :: starEach es X.env := by rfl) : VA X K cl W (.Starred e sp :: es) (StX.tStar K te t) (aStar p q) := by
  obtain rfl := ha.hK
  exact ⟨StX.pa_star ha.pe hr.pe hs, rfa_star ha.rf hr.rf, rfl⟩
end
end DL

/-! DRepr: repr(x). -/
namespace DL
open PySem L2 PyProof.Rows
section
variable {X : Cx} {pins : List (Addr × Obj)} {σ : L2.St} {H F : Hp} {s : Shared} {cl : Cl}
/-- a value that is shown so -/
structure Shw (P : Program) (w : World) (h : Heap) (u : Value) (y : PyData) : Prop where
  ex : ∃ as bs, Reads h u y as ∧ ReadAtMost h y.depth bs ∧ ReprK P w bs h y.depth u y.shown
structure Shws (P : Program) (w : World) (h : Heap) (us : List Value) (ys : List PyData) : Prop where
  ex : ∃ as bs, ReadsAll h us ys as ∧ ReadAtMost h (PyData.depthAll ys) bs ∧ ReprAllK P w bs h (PyData.depthAll ys) us (PyData.shownAll ys)
theorem entsK_more {P : Program} {w : World} {h : Heap} {bs cs : List Addr} {n m : Nat} (hb : ∀ b ∈ bs, b ∈ cs) (hn : n ≤ m) : ∀ {es : List DictEntry} {ps : List Str}, ReprEntriesK P w bs h n es ps → ReprEntriesK P w cs h m es ps
  | _, _, .nil => .nil
  | _, _, .cons a b r => .cons ((a.more hb).level_le hn) ((b.more hb).level_le hn) (entsK_more hb hn r)
theorem key_shw {P : Program} {w : World} {h : Heap} {k : L2.Key} {u : Value} (r : (mixKind P w).is k u = true) (ok : okKey k = true) (hz : (keyR k).shown.length ≤ sizeLine) : Reads h u (keyR k) [] ∧ ReprK P w [] h 0 u (keyR k).shown := by
  rcases keyIs_shape r with ⟨i, t, rfl, rfl⟩ | ⟨x, t, rfl, rfl⟩
  · exact ⟨.int i t, by simp only [keyR, PyData.shown]; exact .of_is (ReprIs.int t (by simpa [okKey] using ok)) _ _ _⟩
  · exact ⟨.str x t, by simp only [keyR, PyData.shown]; exact .of_is (ReprIs.str x t (by simpa only [keyR, PyData.shown] using hz)) _ _ _⟩
mutual
theorem rep_shw (I : Inv X pins σ H s) (sf : Same F H) : ∀ (n : Nat) (d : D) (v : V) (u : Value), okR n d = true → Rep X.K cl F v d → RelV v u → (toR d).shown.length ≤ sizeLine → Shw X.prog X.w s.heap u (toR d)
  | _, .non, _, u, _, .non, r, _ => by
    cases r
    exact ⟨[], [], .none, (fun _ z => nomatch z), by simp only [toR, PyData.shown]; exact .of_is ReprIs.none _ _ _⟩
  | _, .bl b, _, u, _, .bl _, r, _ => by
    cases r
    exact ⟨[], [], .bool b, (fun _ z => nomatch z), by simp only [toR, PyData.shown]; exact .of_is (ReprIs.bool b) _ _ _⟩
  | _, .int i, _, u, ok, .int _, r, _ => by
    obtain ⟨t, rfl⟩ := r
    exact ⟨[], [], .int i t, (fun _ z => nomatch z), by simp only [toR, PyData.shown]; exact .of_is (ReprIs.int t (by simpa [okR] using ok)) _ _ _⟩
  | _, .str x, _, u, _, .str _, r, hz => by
    obtain ⟨t, rfl⟩ := r
    exact ⟨[], [], .str x t, (fun _ z => nomatch z), by simp only [toR, PyData.shown]; exact .of_is (ReprIs.str x t (by simpa only [toR, PyData.shown] using hz)) _ _ _⟩
  | n + 1, .lst l, _, u, ok, .lst (a := a) e rr, r, hz => by
    cases r
    have hz' : (listText (PyData.shownAll (toRs l))).length ≤ sizeLine := by simpa only [toR, PyData.shown] using hz
    obtain ⟨its, rv, p, _⟩ := I.list (SqL.of (sf _ _ e))
    obtain ⟨o, ho, hc, m, hd⟩ := p.isList
    obtain ⟨as, bs, q1, q2, q3⟩ := (reps_shw I sf n l _ its (by simpa [okR] using ok) rr rv (fun t ht => Nat.le_trans (listText_mem_le ht) hz')).ex
    have rd : Reads s.heap (.ref a) (.list (toRs l)) _ := .list ho hc hd q1
    have na : a ∉ bs := not_mem_of_deeper rd (by simp only [PyData.depth]; omega) q2
    simp only [toR]
    refine ⟨_, a :: bs, rd, ReadAtMost.cons rd (by simp only [PyData.depth]; omega) q2, ?_⟩
    simp only [PyData.depth, PyData.shown]
    cases its with
    | nil =>
      have ez : toRs l = [] := by
        generalize toRs l = y at q1
        cases q1
        rfl
      rw [ez]
      simp only [PyData.shownAll, listText_nil]
      exact ReprK.listEmpty ho hc hd
    | cons x t => exact ReprK.list ho hc hd na (by simpa using q3.length_eq) (fun i y e => q3.item i y (by simpa using e))
  | n + 1, .tup l, _, u, ok, .tup (a := a) e rr, r, hz => by
    cases r
    have hz' : (tupleText (PyData.shownAll (toRs l))).length ≤ sizeLine := by simpa only [toR, PyData.shown] using hz
    obtain ⟨its, rv, p, _⟩ := I.tuple (same_t sf e)
    obtain ⟨o, ho, hc, m, hd⟩ := p
    obtain ⟨as, bs, q1, q2, q3⟩ := (reps_shw I sf n l _ its (by simpa [okR] using ok) rr rv (fun t ht => Nat.le_trans (tupleText_mem_le ht) hz')).ex
    have rd : Reads s.heap (.ref a) (.tuple (toRs l)) _ := .tuple ho hc hd q1
    have na : a ∉ bs := not_mem_of_deeper rd (by simp only [PyData.depth]; omega) q2
    simp only [toR]
    refine ⟨_, a :: bs, rd, ReadAtMost.cons rd (by simp only [PyData.depth]; omega) q2, ?_⟩
    simp only [PyData.depth, PyData.shown]
    exact ReprK.tuple ho hc hd na q3
  | n + 1, .dk l, _, u, ok, .dk (a := a) (ws := ws) e rr, r, hz => by
    cases r
    have hz' : (dictText (PyData.shownKv (toRk l))).length ≤ sizeLine := by simpa only [toR, PyData.shown] using hz
    obtain ⟨_, hsys, vs, rel, o, es, ep, ho, hx, hd, _, pr, _⟩ := dk_rd I.hok (.inl (sf _ _ e))
    obtain ⟨as, bs, cs, q1, q2, q3, q4⟩ := ents_shw I sf n l ws vs es.toList (by simpa [okR] using ok) rr rel pr (fun t ht => Nat.le_trans (dictText_mem_le ht) hz')
    have rd : Reads s.heap (.ref a) (.dict (toRk l)) _ := .dict ho hx.1 hd q1 q2
    have na : a ∉ cs := not_mem_of_deeper rd (by simp only [PyData.depth]; omega) q3
    simp only [toR]
    refine ⟨_, a :: cs, rd, ReadAtMost.cons rd (by simp only [PyData.depth]; omega) q3, ?_⟩
    simp only [PyData.depth, PyData.shown]
    exact ReprK.dict ho hx.1 hd hsys na q4
  | 0, .lst _, _, _, ok, _, _, _ => by simp [okR] at ok
  | 0, .tup _, _, _, ok, _, _, _ => by simp [okR] at ok
  | 0, .dk _, _, _, ok, _, _, _ => by simp [okR] at ok
theorem reps_shw (I : Inv X pins σ H s) (sf : Same F H) : ∀ (n : Nat) (l : List D) (vs : List V) (us : List Value), okRs n l = true → Reps X.K cl F vs l → Vals vs us → (∀ t ∈ PyData.shownAll (toRs l), t.length ≤ sizeLine) → Shws X.prog X.w s.heap us (toRs l)
  | _, [], _, us, _, .nil, r, _ => by
    cases r
    exact ⟨[], [], .nil, (fun _ z => nomatch z), by simp only [toRs, PyData.shownAll]; exact .nil⟩
  | n, d :: l, _, us, ok, .cons rd rr, r, hz => by
    cases r with
    | cons r1 r2 =>
      have ok' : okR n d = true ∧ okRs n l = true := by simpa [okRs] using ok
      obtain ⟨a1, b1, p1, p2, p3⟩ := (rep_shw I sf n d _ _ ok'.1 rd r1 (hz _ (by simp only [toRs, PyData.shownAll]; exact List.mem_cons_self))).ex
      obtain ⟨a2, b2, q1, q2, q3⟩ := (reps_shw I sf n l _ _ ok'.2 rr r2 (fun t ht => hz t (by simp only [toRs, PyData.shownAll]; exact List.mem_cons_of_mem _ ht))).ex
      simp only [toRs]
      refine ⟨a1 ++ a2, b1 ++ b2, .cons p1 q1, (p2.mono ?_).append (q2.mono ?_), ?_⟩
      · simp only [PyData.depthAll]; exact Nat.le_max_left _ _
      · simp only [PyData.depthAll]; exact Nat.le_max_right _ _
      · simp only [PyData.depthAll, PyData.shownAll]
        exact .cons ((p3.more fun b hb => List.mem_append_left _ hb).level_le (Nat.le_max_left _ _)) (q3.more_le (fun b hb => List.mem_append_right _ hb) (Nat.le_max_right _ _))
theorem ents_shw (I : Inv X pins σ H s) (sf : Same F H) : ∀ (n : Nat) (l : List (DL.Key × D)) (ws : List (L2.Key × V)) (vs : List (L2.Key × Value)) (es : List DictEntry), okRk n l = true → KReps X.K cl F ws l → KV ws vs → Pairs (mixKind X.prog X.w) es vs →
    (∀ t ∈ PyData.shownKv (toRk l), t.length ≤ sizeLine) → ∃ as bs cs, ReadsAll s.heap (es.map (·.key)) ((toRk l).map (·.1)) as ∧ ReadsAll s.heap (es.map (·.val)) ((toRk l).map (·.2)) bs ∧ ReadAtMost s.heap (PyData.depthKv (toRk l)) cs ∧ ReprEntriesK X.prog X.w cs s.heap (PyData.depthKv (toRk l)) es (PyData.shownKv (toRk l))
  | _, [], _, vs, es, _, .nil, r, p, _ => by
    cases r
    cases p
    exact ⟨[], [], [], .nil, .nil, (fun _ z => nomatch z), by simp only [toRk, PyData.shownKv]; exact .nil⟩
  | n, (k, d) :: l, _, vs, es, ok, .cons rd rr, r, p, hz => by
    cases r with
    | cons r1 r2 =>
      rename_i kv vs'
      obtain ⟨kk, vv⟩ := kv
      obtain ⟨r3, r4⟩ := r1
      cases p with
      | cons p1 p2 p3 =>
        rename_i e es'
        have r3 : k = kk := r3
        subst r3
        have p2 : e.val = vv := p2
        subst p2
        simp only [okRk, Bool.and_eq_true] at ok
        simp only [toRk, PyData.shownKv] at hz
        have hl := hz _ List.mem_cons_self
        have hsub : (keyR k).shown.length ≤ sizeLine ∧ (toR d).shown.length ≤ sizeLine := by
          have e0 : ((keyR k).shown ++ ": " ++ (toR d).shown).length = (keyR k).shown.length + 2 + (toR d).shown.length := by
            rw [Str.length_append, Str.length_append]
            rfl
          rw [e0] at hl
          omega
        obtain ⟨g1, g2⟩ := key_shw (P := X.prog) (w := X.w) (h := s.heap) p1 ok.1.1 hsub.1
        obtain ⟨a1, b1, t1, t2, t3⟩ := (rep_shw I sf n d _ _ ok.1.2 rd r4 hsub.2).ex
        obtain ⟨a2, b2, c2, q1, q2, q3, q4⟩ := ents_shw I sf n l _ _ es' ok.2 rr r2 p3 (fun t ht => hz t (List.mem_cons_of_mem _ ht))
        have k0 : (keyR k).depth = 0 := by cases k <;> simp only [keyR, PyData.depth]
        simp only [toRk, List.map_cons, PyData.depthKv, PyData.shownKv]
        refine ⟨[] ++ a2, a1 ++ b2, b1 ++ c2, .cons g1 q1, .cons t1 q2, (t2.mono (by omega)).append (q3.mono (by omega)), ?_⟩
        exact .cons ((g2.more fun b hb => nomatch hb).level_le (by omega)) ((t3.more fun b hb => List.mem_append_left _ hb).level_le (by omega)) (entsK_more (fun b hb => List.mem_append_right _ hb) (by omega) q4)
end
/-- a list, tuple or dict is shown by its type's own way -/
theorem rep_by (I : Inv X pins σ H s) (sf : Same F H) {n : Nat} {d : D} {a : Addr} (ok : okR (n + 1) d = true) (rf : isRef d = true) (r : Rep X.K cl F (.ref a) d) (hz : (toR d).shown.length ≤ sizeLine) : ∃ T idr, ShowsBy X.prog X.w s.heap a (toR d) T idr := by
  cases r with
  | lst e rr =>
    rename_i vs l
    have hz' : (listText (PyData.shownAll (toRs l))).length ≤ sizeLine := by simpa only [toR, PyData.shown] using hz
    obtain ⟨its, rv, p, _⟩ := I.list (SqL.of (sf _ _ e))
    obtain ⟨o, ho, hc, m, hd⟩ := p.isList
    obtain ⟨as, bs, q1, q2, q3⟩ := (reps_shw I sf n l _ its (by simpa [okR] using ok) rr rv (fun t ht => Nat.le_trans (listText_mem_le ht) hz')).ex
    have rd : Reads s.heap (.ref a) (.list (toRs l)) _ := .list ho hc hd q1
    have na : a ∉ bs := not_mem_of_deeper rd (by simp only [PyData.depth]; omega) q2
    simp only [toR]
    refine ⟨_, _, PySem.F.slot_list_repr.toG, PySem.F.slot_list_str, PySem.F.slot_list_format, fun z k => ⟨o, k _ _ ho, hc⟩, fun A E z Q hg hu k q => ?_⟩
    simp only [PyData.depth] at hu
    simp only [PyData.shown] at q
    cases its with
    | nil =>
      have ez : toRs l = [] := by
        generalize toRs l = y at q1
        cases q1
        rfl
      rw [ez] at q
      simp only [PyData.shownAll, listText_nil] at q
      exact call_list_repr_empty ⟨o, k _ _ ho, hc⟩ (k _ _ ho) hd (q z.heap _ _ fun _ _ e => e)
    | cons x t => exact call_list_reprK ho hc hd na (by simpa using q3.length_eq) (fun i y e => q3.item i y (by simpa using e)) hg (fun b _ => Clear.nil b) hu k q hz'
  | tup e rr =>
    rename_i vs l
    have hz' : (tupleText (PyData.shownAll (toRs l))).length ≤ sizeLine := by simpa only [toR, PyData.shown] using hz
    obtain ⟨its, rv, p, _⟩ := I.tuple (same_t sf e)
    obtain ⟨o, ho, hc, m, hd⟩ := p
    obtain ⟨as, bs, q1, q2, q3⟩ := (reps_shw I sf n l _ its (by simpa [okR] using ok) rr rv (fun t ht => Nat.le_trans (tupleText_mem_le ht) hz')).ex
    have rd : Reads s.heap (.ref a) (.tuple (toRs l)) _ := .tuple ho hc hd q1
    have na : a ∉ bs := not_mem_of_deeper rd (by simp only [PyData.depth]; omega) q2
    simp only [toR]
    refine ⟨_, _, PySem.F.slot_tuple_repr, PySem.F.slot_tuple_str, PySem.F.slot_tuple_format, fun z k => ⟨o, k _ _ ho, hc⟩, fun A E z Q hg hu k q => ?_⟩
    simp only [PyData.depth] at hu
    simp only [PyData.shown] at q
    exact call_tuple_reprK ho hc hd na q3 hg (fun b _ => Clear.nil b) hu k q hz'
  | dk e rr =>
    rename_i ws l
    have hz' : (dictText (PyData.shownKv (toRk l))).length ≤ sizeLine := by simpa only [toR, PyData.shown] using hz
    obtain ⟨_, hsys, vs, rel, o, es, ep, ho, hx, hd, _, pr, _⟩ := dk_rd I.hok (.inl (sf _ _ e))
    obtain ⟨as, bs, cs, q1, q2, q3, q4⟩ := ents_shw I sf n l ws vs es.toList (by simpa [okR] using ok) rr rel pr (fun t ht => Nat.le_trans (dictText_mem_le ht) hz')
    have rd : Reads s.heap (.ref a) (.dict (toRk l)) _ := .dict ho hx.1 hd q1 q2
    have na : a ∉ cs := not_mem_of_deeper rd (by simp only [PyData.depth]; omega) q3
    simp only [toR]
    refine ⟨_, _, PySem.F.slot_dict_repr, PySem.F.slot_dict_str, PySem.F.slot_dict_format, fun z k => ⟨o, k _ _ ho, hx.1⟩, fun A E z Q hg hu k q => ?_⟩
    simp only [PyData.depth] at hu
    simp only [PyData.shown] at q
    exact call_dict_reprK ho hx.1 hd hsys na q4 hg (fun b _ => Clear.nil b) hu k q hz'
  | _ => simp [isRef] at rf
end
/-- repr of one -/
def rReprU (K : Fg) (cl : Cl) : List V → Hp → VK → Prop := fun vs H Q => ∃ F d x, Same F H ∧ vs = [x] ∧ Rep K cl F x d ∧ isRef d = true ∧ okR 20 d = true ∧ (reprD d).length ≤ sizeLine ∧ Q (.str (reprD d)) H
section
variable {X : Cx} {K : Fg} {cl : Cl}
theorem cr_repr (hg : X.A.guards = some []) (hu : X.A.units + 65 < cLine) : CallR X (.builtin "repr") (rReprU X.K cl) := by
  intro pins s σ H xs us Q I rv h
  obtain ⟨F, d, x, sf, rfl, r, rf, ok, hz, q⟩ := h
  cases rv with
  | cons r1 r2 =>
    cases r2
    have hx : ∃ a, x = .ref a := by
      cases r <;> first | exact ⟨_, rfl⟩ | simp [isRef] at rf
    obtain ⟨a, rfl⟩ := hx
    cases r1
    have dp := depthR 20 d ok
    obtain ⟨T, idr, S⟩ := rep_by I sf ok rf r hz
    refine call_repr_slot (by omega) (S.typeIs s fun _ _ e => e) S.slotRepr (S.call X.A.in1 _ s _ hg (by show X.A.units + 1 + (toR d).depth < cLine; omega) (fun _ _ e => e) fun h' u tk k => ⟨_, _, rfl, ?_⟩)
    exact ⟨.str (reprD d), H, I.kept (t' := tk) k, ⟨u, rfl⟩, q⟩
theorem rf_repr : RfC K cl (rReprU K cl) fRepr where
  mono := fun xs P P' h q => by
    match xs, q with
    | [d], q => exact ⟨q.1, h _ q.2⟩
  ok := fun F H v xs Q s r q => by
    match xs, q, r with
    | [d], q, .cons r .nil => exact ⟨F, d, _, s, rfl, r, q.1.1, q.1.2.1, by rw [← line_eq]; exact q.1.2.2, q.2 _ F H (Gr.refl s) (.str _)⟩
theorem bi_repr (hg : X.A.guards = some []) (hu : X.A.units + 65 < cLine) (hK : X.K = K := by rfl) : Bi X K cl (.builtin "repr") (rReprU K cl) fRepr := by
  obtain rfl := hK
  exact ⟨cr_repr hg hu, rf_repr, rfl⟩
end
end DL

/-! DGuard: a law that runs where no repr is under way. -/
namespace DL
open PySem L2 PyProof.Rows
/-- a def's promise where no repr is under way -/
def RunG (P : Program) (w : World) (K : Fg) (mg : Str → Option Value) (base : Heap) (k : Nat) (f : Addr) (fd : FuncData) (ps : List Str) (sp : Sp) : Prop :=
  ∀ (A : Around) (out : List PySem.Env) (s : Shared) (H : Hp) (ar : Args) (us : List Value) (vs : List V) (Q : VK) (E : XK), A.guards = some [] → Room k A → Env0 P w K mg base A out s H → BindsTo s fd ar (ps.zip us) → Vals vs us → sp vs H Q E →
    codeAny (model P w) A (.call (.ref f) ar) (CR (L2.CX P w) out P w H s Q E) s
section
variable {P : Program} {w : World} {K : Fg} {cl : Cl} {mg : Str → Option Value} {base : Heap}
theorem fn_okG {x qual : Str} {st : Stmt} {f : Addr} {fd : FuncData} {N ps : List Str} {k : Nat} {b : DS} (F : Fun K x qual st f fd) (S : FnScope N ps (defScope st)) (hp : ps.length ≤ N.length)
    (hb : ∀ (cdv : Value) (A : Around) (outer : List PySem.Env) (s : Shared) (H : Hp) (E : XK), A.guards = some [] → Room k (A.deeper (envOfC qual (defScope st) s.heap.objs.size f cdv)) →
      ∃ t, VSs (cxOf (L2.CX P w) P w K mg base N qual (defScope st) f cdv A outer s H E) K cl (fun c d _ H' => E c d H') (defBody st) t b) (hf : cl.fr = false := by rfl) :
    RunG P w K mg base (k + 1) f fd ps (spD K cl (defT ps.length N.length b)) := by
  intro A out s H ar us vs Q E hg hr e0 hbn rv hs
  obtain ⟨F0, ds, Q', E', s0, r, ⟨hl, q⟩, hQ, hE⟩ := hs
  obtain ⟨oc, od, kV, doc, pm, an, cdv, ct, osl, rfl, lk, hcd⟩ := F.ex
  refine LamX.run_ofS lk hcd S hr e0 hbn rv (by rw [r.length]; exact hl) fun hr' => ?_
  obtain ⟨t, h⟩ := hb cdv A out s H E hg hr'
  refine ⟨t, h.pe, ?_⟩
  have hn : vs.length ≤ N.length := by rw [r.length, hl]; exact hp
  exact h.rf.ok F0 H F0 H _ _ (fun e _ => E' e) { nx := fun _ => Q' .non, rt := Q' } { nx := fun _ H' => Q .non H', rt := Q } (start_hold s0 r hn) (fun err ρ σ F' H' c dx h e re => hE err e c dx F' H' h.g re)
    ⟨fun F' H' σ ρ h q => hQ _ q .non F' H' h.g .non, fun _ _ _ _ _ z => z.elim, fun _ _ _ _ _ z => z.elim, fun F' H' v d g r _ q => hQ d q v F' H' g (r hf), fun _ _ _ _ _ _ _ _ z => z.elim⟩ q
theorem law_okG {k : Nat} {f : Addr} {fd : FuncData} {W : DF} (F : RunG P w K mg base k f fd ["script"] (spD K cl W)) (h : ∀ ns : List Int, ns.length ≤ 63 → W [.scr ns] (fun d => d = .bl true) fun _ => False) : RunG P w K mg base k f fd ["script"] (spLaw K) := by
  intro A out s H ar us vs Q E hg hr e0 hbn rv ⟨a, ns, e, hS, hl, q⟩
  refine F A out s H ar us vs Q E hg hr e0 hbn rv ⟨H, [.scr ns], _, _, Same.refl H, by rw [e]; exact .cons (.scr hS) .nil, h ns hl, fun d z v F' H' g r => ?_, fun _ z => z.elim⟩
  subst z
  cases r
  exact q H'
/-- the law's call, by such a promise -/
theorem callG {mb : Str → Option Value} {k : Nat} {fa a : Addr} {fd : FuncData} {sp : Sp} {z : Shared} {us : List Value} {ns : List Int}
    (kin : K.In z.heap) (gl : z.heap.Ns mainGlobals mg) (bl : z.heap.Ns builtinsNs mb) (boot : ∀ x : Str, x ≠ "__name__" → mb x = bootBuiltins x) (nl : z.heap.NoLimit) (ng : z.gens = #[])
    (ob : z.heap.get? a = some { cls := .type "list", data := .seq us.toArray }) (hin : IntsAre us ns) (len : ns.length ≤ sizeLine) (room : Room k callerA)
    (F : ∀ base : Heap, K.In base → base.Ns mainGlobals mg → RunG P w K mg base k fa fd ["script"] sp) (bind : ∀ (s : Shared) (u : Value), BindsTo s fd ⟨[u], []⟩ [("script", u)])
    (prom : ∀ H : Hp, Only H → SqL K H a (ns.map V.int) → sp [.ref a] H (fun v _ => v = .bl true) fun _ _ _ => False)
    (none' : ∀ H e s', L2.CX P w [] H z (fun _ _ _ => False) e s' → False) :
    codeAny (model P w) callerA (.call (.ref fa) ⟨[.ref a], []⟩) (fun r y => r = .ok (.ret (.bool true)) ∧ OldK z.heap y.heap ∧ y.os = z.os ∧ AllBare y.gens) z := by
  have rel := vals_ints hin
  have cnt := hin.length
  have key : ∀ H : Hp, Only H → SqL K H a (ns.map V.int) → HOk P w H z.heap → (∀ b, H b ≠ none → b = a) → (H a ≠ none → K.lookup a = none) →
      codeAny (model P w) callerA (.call (.ref fa) ⟨[.ref a], []⟩) (fun r y => r = .ok (.ret (.bool true)) ∧ OldK z.heap y.heap ∧ y.os = z.os ∧ AllBare y.gens) z := by
    intro H only sq hok one lk
    have hid : ∀ {b : Addr} {o : Obj}, z.heap.get? b = some o → H b = none → (hidT z.heap H).get? b = some o := fun e n => hidT_get e n
    have dict : ∀ {b : Addr} {o : Obj} {es : Array DictEntry} {ep : Nat}, z.heap.get? b = some o → o.data = .dict es ep → H b = none := by
      intro b o es ep e d
      by_cases q : H b = none
      · exact q
      · have := one b q
        subst this
        rw [ob] at e
        cases e
        cases d
    have nsn : ∀ {b : Addr} {m : Str → Option Value}, z.heap.Ns b m → (hidT z.heap H).Ns b m := fun ⟨o, es, ep, e, d, r⟩ => ⟨o, es, ep, hid e (dict e d), d, r⟩
    have kin' : K.In (hidT z.heap H) := fun b o e => by
      refine hid (kin b o e) ?_
      by_cases q : H b = none
      · exact q
      · have := one b q
        subst this
        rw [lk q] at e
        cases e
    have env : Env0 P w K mg (hidT z.heap H) callerA [] z H := by
      refine ⟨rfl, ⟨kin', nsn gl, ⟨mb, nsn bl, boot⟩, ?_⟩, fun b o e => of_hidT e, Nat.le_of_eq (hidT_size _ _), trivial, (fun b hb => nomatch hb), hok, .of_eq ng⟩
      obtain ⟨mc, l1, l2⟩ := nl
      exact ⟨mc, nsn l1, l2⟩
    refine codeAny_mono (F _ kin' (nsn gl) callerA [] z H ⟨[.ref a], []⟩ [.ref a] [.ref a] _ _ rfl room env (bind z (.ref a)) (.cons rfl .nil) (prom H only sq)) fun r y h => ?_
    match r, h with
    | .error e, h => exact (none' H e y h).elim
    | .ok .next, h => exact False.elim h
    | .ok .brk, h => exact False.elim h
    | .ok .cont, h => exact False.elim h
    | .ok (.ret u), h =>
      obtain ⟨v, H', os, bare, un, hok', ru, (q : v = .bl true)⟩ := h
      subst q
      have eu : u = Value.bool true := ru
      subst eu
      refine ⟨rfl, OldK.of_keep fun b o e => ?_, os, bare⟩
      rcases only b with n | ⟨oo, xs, fz⟩
      · exact un.keep b o e n (fun m => by cases m) (by simp)
      · have fz' := un.frzs b oo _ fz
        have e1 := (hok b _ fz).1
        have e2 := (hok' b _ fz').1
        rw [e] at e1
        cases e1
        exact e2
  cases hk : K.lookup a with
  | some o =>
    have e := kin a o hk
    rw [ob] at e
    cases e
    refine key (fun _ => none) (fun _ => .inl rfl) (.inr ⟨_, us.toArray, _, hk, rfl, rfl, rfl, ?_, by simpa using rel⟩) (fun b u q => by cases q) (fun b q => absurd rfl q) fun q => absurd rfl q
    rw [List.size_toArray, cnt]
    exact len
  | none =>
    have at_ : ∀ b, b = a → (if b = a then some (HO.frz { cls := .type "list", data := .seq us.toArray } (.lst (ns.map V.int))) else none) = some (HO.frz { cls := .type "list", data := .seq us.toArray } (.lst (ns.map V.int))) := fun b e => if_pos e
    have off : ∀ b, b ≠ a → (if b = a then some (HO.frz { cls := .type "list", data := .seq us.toArray } (.lst (ns.map V.int))) else none) = none := fun b e => if_neg e
    refine key (fun b => if b = a then some (.frz { cls := .type "list", data := .seq us.toArray } (.lst (ns.map V.int))) else none) (fun b => ?_) (.inl (.inr ⟨_, at_ a rfl⟩)) (fun b u q => ?_) (fun b q => ?_) fun _ => hk
    · rcases Classical.em (b = a) with h | h
      · exact .inr ⟨_, _, at_ b h⟩
      · exact .inl (off b h)
    · rcases Classical.em (b = a) with h | h
      · have q' := (at_ b h).symm.trans q
        cases q'
        subst h
        exact ⟨ob, by rw [List.length_map]; exact len, us, _, rel, ob⟩
      · have q' := (off b h).symm.trans q
        cases q'
    · rcases Classical.em (b = a) with h | h
      · exact h
      · exact absurd (off b h) q
end
theorem walkG {l : PySem.W.OpenLaw} {k : Nat} {q : Program} {loose : List Str} {XP : (Str → Option Value) → Heap → Prop} {YP : World → Heap → Prop} {d : DefRec} {K : Params → PySem.W.Frag}
    (hn : l.most = some 63) (hdf : d.params.defaults = []) (hr : Room k callerA) (hY : ∀ (w : World) (h : Heap), YP w h → (K w.params).In h)
    (F : ∀ (w : World) (mg : Str → Option Value) (fa : Addr) (h : Heap), (K w.params).In h → h.Ns mainGlobals mg → mg d.name = some (.ref fa) →
      ∃ fd : FuncData, (∀ (s : Shared) (u : Value), BindsTo s fd ⟨[u], []⟩ [("script", u)]) ∧
        ∀ base : Heap, (K w.params).In base → base.Ns mainGlobals mg → RunG l.prog w (K w.params) mg base k fa fd ["script"] (spLaw (K w.params))) :
    PySem.W.WalkO q loose XP YP l.row.toRowW d [] (fun f vs => PySem.call f vs) := by
  refine Att.attach_call hn hdf fun w s0 z mg mb fa o pm cd doc a vs ns G Y ho hd hcd hmg hobj hints hlen hg => ?_
  have KX := hY w _ Y
  obtain ⟨fd, hb, hF⟩ := F w mg fa _ KX G.T.g hmg
  refine callG KX G.T.g G.T.b G.T.builtins G.T.nolimit hg hobj hints (Nat.le_trans hlen (by decide)) hr hF hb (fun H hO hS => ⟨a, ns, rfl, hS, hlen, fun _ => rfl⟩) fun H e s' x => ?_
  obtain ⟨_, _, _, _, _, _, _, _, _, _, _, _, x⟩ := x
  exact x
end DL

/-! DSortT: sorted of a dict whose keys are texts. -/
namespace DL
open PySem L2 PyProof.Rows
section
variable {X : Cx} {K : Fg} {cl : Cl} {W : WX}
def rSortT : List V → Hp → VK → Prop := fun xs H Q => ∃ (a : Addr) (kvs : List (L2.Key × V)) (ks : List Str), xs = [.ref a] ∧ Rd H a (.dK kvs) ∧ kvs.map (·.1) = ks.map Sum.inr ∧ ks.length < 64 ∧
  ∀ ys p, ys.Perm ks → sortedS ys = true → H p = none → Q (.ref p) (upd H p (.lst (ys.map V.str)))
theorem skeys_rep {F : Hp} (kvs : List (DL.Key × D)) : ∀ {ws : List (L2.Key × V)} {ks : List Str}, skeys kvs = some ks → KReps K cl F ws kvs → ws.map (·.1) = ks.map Sum.inr := by
  induction kvs with
  | nil =>
    intro ws ks e r
    cases r
    cases e
    rfl
  | cons kv kvs ih =>
    intro ws ks e r
    obtain ⟨k, d⟩ := kv
    cases r with
    | cons h rr =>
      cases k with
      | inl i => cases e
      | inr x =>
        obtain ⟨ks', e1, rfl⟩ := Option.map_eq_some_iff.mp (show (skeys kvs).map (x :: ·) = some _ from e)
        rw [List.map_cons, List.map_cons, ih e1 rr]
theorem rf_sortT : RfNC K cl rSortT fSortedT where
  mono := fun x P P' h q => by
    match x, q with
    | [.dk l], q =>
      simp only [fSortedT] at q ⊢
      cases e : skeys l with
      | none => rw [e] at q; exact q.elim
      | some ns => rw [e] at q; exact ⟨q.1, fun ys h1 => h _ (q.2 ys h1)⟩
  ok := fun F H v x Q s r q => by
    match x, q, r with
    | [.dk l], q, .cons (.dk e rr) .nil =>
      simp only [fSortedT] at q
      cases e1 : skeys l with
      | none => rw [e1] at q; exact q.elim
      | some ks =>
        rw [e1] at q
        exact ⟨_, _, ks, rfl, .inl (s _ _ e), skeys_rep _ e1 rr, q.1, fun ys p h1 _ hp => q.2 ys h1 p F _ (Gr.h s (same_upd hp)) hp (s.free hp) ⟨_, upd_same, reps_strs⟩⟩
theorem bn_sortT (hc : X.calm = true) (hK : X.K = K := by rfl) : BiN X K cl (.builtin "sorted") rSortT fSortedT := by
  obtain rfl := hK
  exact ⟨call_sortedD hc, rf_sortT, rfl⟩
end
end DL

set_option maxHeartbeats 1000000
/-! DZipT0: zip of a tuple and a plain text, at the model's level. -/
namespace ZT
open PySem RZ
open PySem.Sem (wp)
abbrev TxI (hp : Heap) (it : Addr) (x : Str) (t : Tok) (i : Nat) : Prop := hp.IsStrIter it "str_ascii_iterator" x t i
section
variable {prog : Program} {w : World} {A : Around} {E : Value → Shared → Prop} {s : Shared}
/-- the next sign -/
theorem sign_next {it : Addr} {x : Str} {t : Tok} {i c : Nat} {Q : Value → Shared → Prop} (st : TxI s.heap it x t i) (hx : x.cps[i]? = some c)
    (k : ∀ hp, TxI hp it x t (i + 1) → Heap.SameBut it s.heap hp → Q (.str ⟨#[c]⟩ s.toks) { s with heap := hp, toks := s.toks + 1 }) : wpAny (model prog w) A (Builtin.SmallTypes.nextOf (.ref it)) Q E s := by
  obtain ⟨ob, e1, e2, e3⟩ := id st
  unfold Builtin.SmallTypes.nextOf
  refine wpAny_bind (wpAny_callSpecial?_slot (name := Str.ofString "__next__") (Heap.IsStrIter.typeIs st) F.slot_str_ascii_iterator_next (wpAny_call_entry F.slot_str_ascii_iterator_next (Heap.IsStrIter.typeIs st) F.entry_str_ascii_iterator_next ?_ (F.args_str_ascii_iterator_next_1 _)))
  show wpAny _ _ (field (.ref it) 0 >>= fun _ => _) _ _ s
  refine wpAny_bind (wpAny_field e1 e3 (x := Value.str x t) rfl ?_)
  show wpAny _ _ (field (.ref it) 1 >>= fun _ => _) _ _ s
  refine wpAny_bind (wpAny_field e1 e3 (x := Value.int i 0) rfl ?_)
  simp only [hx, Int.toNat_natCast]
  refine wpAny_bind (wpAny_setField e1 e3 (by simp) (wpAny_bind (wpAny_mkStr (wpAny_pure ⟨_, rfl, wpAny_pure (k _ ⟨_, Heap.get?_update_self _ e1 (Obj.isFreed_of_fields (Obj.data_mapFields e3 _)), (Obj.cls_mapFields ..).trans e2, ?_⟩ (Heap.SameBut.update ..))⟩) (by show 1 ≤ sizeLine; decide))))
  rw [Obj.data_mapFields e3]
  simp [rawInt]
/-- no sign is left -/
theorem sign_stop {it : Addr} {x : Str} {t : Tok} {i : Nat} {Q : Value → Shared → Prop} (hA : A.handled = none) (st : TxI s.heap it x t i) (hx : x.cps[i]? = none)
    (k : ∀ hp ex, Heap.ExtBut it s.heap hp → (∃ o, hp.get? ex = some o ∧ o.cls = .type "StopIteration") → E (.ref ex) { s with heap := hp }) : wpAny (model prog w) A (Builtin.SmallTypes.nextOf (.ref it)) Q E s := by
  obtain ⟨ob, e1, e2, e3⟩ := id st
  unfold Builtin.SmallTypes.nextOf
  refine wpAny_bind (wpAny_callSpecial?_slot (name := Str.ofString "__next__") (Heap.IsStrIter.typeIs st) F.slot_str_ascii_iterator_next (wpAny_call_entry F.slot_str_ascii_iterator_next (Heap.IsStrIter.typeIs st) F.entry_str_ascii_iterator_next ?_ (F.args_str_ascii_iterator_next_1 _)))
  show wpAny _ _ (field (.ref it) 0 >>= fun _ => _) _ _ s
  refine wpAny_bind (wpAny_field e1 e3 (x := Value.str x t) rfl ?_)
  show wpAny _ _ (field (.ref it) 1 >>= fun _ => _) _ _ s
  refine wpAny_bind (wpAny_field e1 e3 (x := Value.int i 0) rfl ?_)
  simp only [hx, Int.toNat_natCast]
  refine wpAny_bind (wpAny_rule (wpAny_bind (wpAny_setField e1 e3 (by simp) (wpAny_bind (wpAny_letGo ?_)))))
  show wpAny _ _ (newExc (.type "StopIteration") [] >>= fun _ => _) _ _ _
  refine wpAny_bind ?_
  simp only [newTuple, newExc]
  refine wpAny_bind (wpAny_newObj_type (wpAny_bind (m := firstArgMember _ _) (wpAny_of_eq (a := Value.none) (by first | rfl | (simp only [firstArgMember]; rfl)) (wpAny_newObj_type ?_ (by size_fits)))) (by size_fits))
  simp only [raiseNew]
  refine wpAny_bind (wpAny_handled ?_)
  first | rw [show A.in1.handled = none from hA] | rw [hA]
  exact wpAny_bind (wpAny_pure (wpAny_throw (k _ _ (((Heap.SameBut.update ..).extBut.push _).push _) ⟨_, Heap.get?_push_size _ rfl, rfl⟩)))
/-- what stands apart in a zip of a tuple at l and a text -/
structure Apt (z ti to p q l : Addr) : Prop where
  zti : ti ≠ z
  zto : to ≠ z
  zp : p ≠ z
  zq : q ≠ z
  zl : l ≠ z
  tt : ti ≠ to
  tip : ti ≠ p
  tiq : ti ≠ q
  top : to ≠ p
  toq : to ≠ q
  lto : l ≠ to
  pq : p ≠ q
/-- a zip's turn -/
theorem zt_next {z ti to p q l : Addr} {i j c : Nat} {t : Tok} {xs : Array Value} {y : Str} {u a b : Value} {Q : Value → Shared → Prop} (D : Apt z ti to p q l)
    (zz : IsZip s.heap z ti to .none) (zi : IsPair s.heap ti (.ref p) (.ref q)) (zo : IsPair s.heap to a b) (sp : s.heap.IsTupleIter p l i) (sq : TxI s.heap q y t j) (tl : s.heap.IsTuple l xs) (hu : xs[i]? = some u) (hc : y.cps[j]? = some c)
    (k : ∀ hp, IsZip hp z ti to (rawInt s.heap.objs.size) → IsPair hp to u (.str ⟨#[c]⟩ s.toks) → hp.IsTupleIter p l (i + 1) → TxI hp q y t (j + 1) → IsPair hp s.heap.objs.size u (.str ⟨#[c]⟩ s.toks) → hp.objs.size = s.heap.objs.size + 1 →
      (∀ v o, v ≠ z → v ≠ to → v ≠ p → v ≠ q → s.heap.get? v = some o → hp.get? v = some o) → Q (.ref s.heap.objs.size) { s with heap := hp, toks := s.toks + 1 }) :
    wpAny (model prog w) A (Builtin.«zip.__next__» ⟨[.ref z], []⟩) (fun fn s2 => ∃ v, fn = .done (.ret v) ∧ Q v s2) E s := by
  show wpAny _ _ (field (.ref z) 2 >>= fun _ => _) _ _ _
  refine wpAny_bind (wpAny_field zz rfl (x := .bool false) rfl ?_)
  show wpAny _ _ (field (.ref z) 3 >>= fun _ => _) _ _ _
  refine wpAny_bind (wpAny_field zz rfl (x := .ref ti) rfl (wpAny_bind (wpAny_seqItems zi rfl ?_)))
  show wpAny _ _ (Builtin.SmallTypes.ownedTupleIsFree (.ref z) >>= fun _ => _) _ _ _
  refine wpAny_bind ?_
  unfold Builtin.SmallTypes.ownedTupleIsFree
  refine wpAny_bind (wpAny_field zz rfl (x := .none) rfl (wpAny_pure ?_))
  simp only [if_true]
  refine wpAny_bind (wpAny_rule (wpAny_bind (wpAny_field zz rfl (x := .ref to) rfl (wpAny_bind (wpAny_setField_rec zz (by simp) fun g1 y1 m1 => ?_)))))
  replace y1 : IsZip g1 z ti to .ellipsis := y1
  refine wpAny_bind ?_
  simp only [List.zipIdx_nil, List.zipIdx_cons, List.forIn_nil, List.forIn_cons]
  refine wpAny_bind (wpAny_bind (wpAny_onRaise ?_))
  show wpAny _ _ (Builtin.SmallTypes.nextOf (.ref p) >>= fun _ => _) _ _ _
  refine wpAny_bind (nextOf_tuple_item (sp.extBut m1.extBut D.zp) (tl.extBut m1.extBut D.zl) hu fun g2 p2 m2 => wpAny_pure ?_)
  have o2 : IsPair g2 to a b := m2.extBut _ _ D.top (m1.extBut _ _ D.zto zo)
  refine wpAny_bind (wpAny_seqItems o2 rfl (wpAny_bind (wpAny_updateSeq_pair o2 fun g3 o3 m3 => ?_)))
  replace o3 : IsPair g3 to u b := o3
  refine wpAny_bind (wpAny_letGo (wpAny_pure (wpAny_bind (wpAny_bind (wpAny_onRaise ?_)))))
  show wpAny _ _ (Builtin.SmallTypes.nextOf (.ref q) >>= fun _ => _) _ _ _
  have q3 : TxI g3 q y t j := ((sq.extBut m1.extBut D.zq).extBut m2.extBut D.pq.symm).extBut m3.extBut D.toq.symm
  refine wpAny_bind (sign_next q3 hc fun g4 q4 m4 => wpAny_pure ?_)
  have o4 : IsPair g4 to u b := m4.extBut _ _ D.toq o3
  refine wpAny_bind (wpAny_seqItems o4 rfl (wpAny_bind (wpAny_updateSeq_pair o4 fun g5 o5 m5 => ?_)))
  replace o5 : IsPair g5 to u (.str ⟨#[c]⟩ s.toks) := o5
  refine wpAny_bind (wpAny_letGo (wpAny_pure (wpAny_pure (wpAny_bind (wpAny_seqItems o5 rfl (wpAny_bind (wpAny_newTuple ?_)))))))
  have n5 : g5.objs.size = s.heap.objs.size := by rw [m5.1, m4.1, m3.1, m2.1, m1.1]
  have y5 : IsZip g5 z ti to .ellipsis := m5.extBut _ _ D.zto.symm (m4.extBut _ _ D.zq.symm (m3.extBut _ _ D.zto.symm (m2.extBut _ _ D.zp.symm y1)))
  have k5 : ∀ v o, v ≠ z → v ≠ to → v ≠ p → v ≠ q → s.heap.get? v = some o → g5.get? v = some o := fun v o v1 v2 v3 v4 e => m5.extBut _ _ v2 (m4.extBut _ _ v4 (m3.extBut _ _ v2 (m2.extBut _ _ v3 (m1.extBut _ _ v1 e))))
  have p5 : g5.IsTupleIter p l (i + 1) := ((p2.extBut m3.extBut D.top.symm).extBut m4.extBut D.pq).extBut m5.extBut D.top.symm
  have q5 : TxI g5 q y t (j + 1) := q4.extBut m5.extBut D.toq.symm
  have zl5 : z < g5.objs.size := Heap.lt_size y5
  show wpAny _ _ (Builtin.SmallTypes.ownedTupleHandOut (.ref z) (.ref g5.objs.size) >>= fun _ => _) _ _ _
  refine wpAny_bind ?_
  unfold Builtin.SmallTypes.ownedTupleHandOut
  have y6 : IsZip (g5.push { cls := .type "tuple", data := .seq #[u, .str ⟨#[c]⟩ s.toks] }) z ti to .ellipsis := Heap.get?_push_of_some _ y5
  refine wpAny_bind (wpAny_setField_rec y6 (by simp) fun g7 y7 m7 => ?_)
  replace y7 : IsZip g7 z ti to (rawInt g5.objs.size) := y7
  refine wpAny_setField_rec y7 (by simp) fun g8 y8 m8 => ?_
  replace y8 : IsZip g8 z ti to (rawInt g5.objs.size) := y8
  have up : ∀ v o, v ≠ z → g5.get? v = some o → g8.get? v = some o := fun v o v1 e => m8.extBut _ _ v1 (m7.extBut _ _ v1 (Heap.get?_push_of_some _ e))
  have n8 : g8.objs.size = g5.objs.size + 1 := by rw [m8.1, m7.1, Heap.size_push]
  have t8 : IsPair g8 g5.objs.size u (.str ⟨#[c]⟩ s.toks) := m8.extBut _ _ (Nat.ne_of_gt zl5) (m7.extBut _ _ (Nat.ne_of_gt zl5) (Heap.get?_push_size _ rfl))
  rw [n5] at y8 n8 t8
  refine wpAny_pure ⟨_, rfl, ?_⟩
  show Q (.ref g5.objs.size) _
  rw [n5]
  exact k g8 y8 (up _ _ D.zto o5) (p5.at fun o e => up _ o D.zp e) (let ⟨o, e, r⟩ := q5; ⟨o, up _ o D.zq e, r⟩) t8 n8 fun v o v1 v2 v3 v4 e => up v o v1 (k5 v o v1 v2 v3 v4 e)
/-- a zip's end -/
theorem zt_stop {z ti to p q l : Addr} {i j : Nat} {t : Tok} {xs : Array Value} {y : Str} {a b : Value} {Q : Fin → Shared → Prop} (hA : A.handled = none) (D : Apt z ti to p q l)
    (zz : IsZip s.heap z ti to .none) (zi : IsPair s.heap ti (.ref p) (.ref q)) (zo : IsPair s.heap to a b) (sp : s.heap.IsTupleIter p l i) (sq : TxI s.heap q y t j) (tl : s.heap.IsTuple l xs) (he : xs[i]? = none ∨ y.cps[j]? = none)
    (k : ∀ hp ex, (∀ v o, v ≠ z → v ≠ to → v ≠ p → v ≠ q → s.heap.get? v = some o → hp.get? v = some o) → (∃ o, hp.get? ex = some o ∧ o.cls = .type "StopIteration") → E (.ref ex) { s with heap := hp }) :
    wpAny (model prog w) A (Builtin.«zip.__next__» ⟨[.ref z], []⟩) Q E s := by
  show wpAny _ _ (field (.ref z) 2 >>= fun _ => _) _ _ _
  refine wpAny_bind (wpAny_field zz rfl (x := .bool false) rfl ?_)
  show wpAny _ _ (field (.ref z) 3 >>= fun _ => _) _ _ _
  refine wpAny_bind (wpAny_field zz rfl (x := .ref ti) rfl (wpAny_bind (wpAny_seqItems zi rfl ?_)))
  show wpAny _ _ (Builtin.SmallTypes.ownedTupleIsFree (.ref z) >>= fun _ => _) _ _ _
  refine wpAny_bind ?_
  unfold Builtin.SmallTypes.ownedTupleIsFree
  refine wpAny_bind (wpAny_field zz rfl (x := .none) rfl (wpAny_pure ?_))
  simp only [if_true]
  refine wpAny_bind (wpAny_rule (wpAny_bind (wpAny_field zz rfl (x := .ref to) rfl (wpAny_bind (wpAny_setField_rec zz (by simp) fun g1 y1 m1 => ?_)))))
  replace y1 : IsZip g1 z ti to .ellipsis := y1
  refine wpAny_bind ?_
  simp only [List.zipIdx_nil, List.zipIdx_cons, List.forIn_nil, List.forIn_cons]
  refine wpAny_bind (wpAny_bind (wpAny_onRaise ?_))
  show wpAny _ _ (Builtin.SmallTypes.nextOf (.ref p) >>= fun _ => _) _ _ _
  cases hu : xs[i]? with
  | none =>
    refine wpAny_bind (nextOf_tuple_end hA (sp.extBut m1.extBut D.zp) (tl.extBut m1.extBut D.zl) hu fun g2 ex m2 ⟨ob, b1, b2⟩ => ?_)
    have y2 : IsZip g2 z ti to .ellipsis := m2 _ _ D.zp.symm y1
    have nz : ex ≠ z := fun r => by subst r; rw [y2] at b1; cases b1; simp at b2
    exact wpAny_setField_rec y2 (by simp) fun g3 _ m3 => k g3 ex (fun v o v1 _ v3 _ e => m3.extBut _ _ v1 (m2 _ _ v3 (m1.extBut _ _ v1 e))) ⟨ob, m3.extBut _ _ nz b1, b2⟩
  | some u =>
    have hc : y.cps[j]? = none := he.resolve_left (by rw [hu]; simp)
    refine wpAny_bind (nextOf_tuple_item (sp.extBut m1.extBut D.zp) (tl.extBut m1.extBut D.zl) hu fun g2 p2 m2 => wpAny_pure ?_)
    have o2 : IsPair g2 to a b := m2.extBut _ _ D.top (m1.extBut _ _ D.zto zo)
    refine wpAny_bind (wpAny_seqItems o2 rfl (wpAny_bind (wpAny_updateSeq_pair o2 fun g3 o3 m3 => wpAny_bind (wpAny_letGo (wpAny_pure (wpAny_bind (wpAny_bind (wpAny_onRaise ?_))))))))
    show wpAny _ _ (Builtin.SmallTypes.nextOf (.ref q) >>= fun _ => _) _ _ _
    have q3 : TxI g3 q y t j := ((sq.extBut m1.extBut D.zq).extBut m2.extBut D.pq.symm).extBut m3.extBut D.toq.symm
    refine wpAny_bind (sign_stop hA q3 hc fun g4 ex m4 ⟨ob, b1, b2⟩ => ?_)
    have y4 : IsZip g4 z ti to .ellipsis := m4 _ _ D.zq.symm (m3.extBut _ _ D.zto.symm (m2.extBut _ _ D.zp.symm y1))
    have nz : ex ≠ z := fun r => by subst r; rw [y4] at b1; cases b1; simp at b2
    exact wpAny_setField_rec y4 (by simp) fun g5 _ m5 => k g5 ex (fun v o v1 v2 v3 v4 e => m5.extBut _ _ v1 (m4 _ _ v4 (m3.extBut _ _ v2 (m2.extBut _ _ v3 (m1.extBut _ _ v1 e))))) ⟨ob, m5.extBut _ _ nz b1, b2⟩
end
end ZT

set_option maxHeartbeats 1000000
/-! DZipT1: a walk over zip of a tuple and a plain text. -/
namespace ZT
open PySem PySem.Spec PyProof.Rows L2 RZ
section
variable {prog : Program} {w : World} {A : Around} {E : Value → Shared → Prop} {s : Shared}
theorem py_next {z ti to p q l : Addr} {i j c : Nat} {t : Tok} {xs : Array Value} {y : Str} {u a b : Value} {Q : Option Value → Shared → Prop} (D : Apt z ti to p q l)
    (zz : IsZip s.heap z ti to .none) (zi : IsPair s.heap ti (.ref p) (.ref q)) (zo : IsPair s.heap to a b) (sp : s.heap.IsTupleIter p l i) (sq : TxI s.heap q y t j) (tl : s.heap.IsTuple l xs) (hu : xs[i]? = some u) (hc : y.cps[j]? = some c)
    (k : ∀ hp, IsZip hp z ti to (rawInt s.heap.objs.size) → IsPair hp to u (.str ⟨#[c]⟩ s.toks) → hp.IsTupleIter p l (i + 1) → TxI hp q y t (j + 1) → IsPair hp s.heap.objs.size u (.str ⟨#[c]⟩ s.toks) → hp.objs.size = s.heap.objs.size + 1 →
      (∀ v o, v ≠ z → v ≠ to → v ≠ p → v ≠ q → s.heap.get? v = some o → hp.get? v = some o) → Q (some (.ref s.heap.objs.size)) { s with heap := hp, toks := s.toks + 1 }) : wpAny (model prog w) A (pyNext (.ref z)) Q E s := by
  have ty : s.TypeIs (.ref z) "zip" := ⟨_, zz, rfl⟩
  unfold pyNext
  exact wpAny_bind (wpAny_attempt (wpAny_callSpecial?_slot (name := Str.ofString "__next__") ty F.slot_zip_next (wpAny_call_entry F.slot_zip_next ty F.entry_zip_next
    (zt_next D zz zi zo sp sq tl hu hc fun hp a1 a2 a3 a4 a5 a6 a7 => wpAny_pure (k hp a1 a2 a3 a4 a5 a6 a7)) (F.args_zip_next_1 _))))
theorem py_stop {z ti to p q l : Addr} {i j : Nat} {t : Tok} {xs : Array Value} {y : Str} {a b : Value} {Q : Option Value → Shared → Prop} (hA : A.handled = none) (D : Apt z ti to p q l)
    (zz : IsZip s.heap z ti to .none) (zi : IsPair s.heap ti (.ref p) (.ref q)) (zo : IsPair s.heap to a b) (sp : s.heap.IsTupleIter p l i) (sq : TxI s.heap q y t j) (tl : s.heap.IsTuple l xs) (he : xs[i]? = none ∨ y.cps[j]? = none)
    (k : ∀ hp, (∀ v o, v ≠ z → v ≠ to → v ≠ p → v ≠ q → s.heap.get? v = some o → hp.get? v = some o) → Q none { s with heap := hp }) : wpAny (model prog w) A (pyNext (.ref z)) Q E s := by
  have ty : s.TypeIs (.ref z) "zip" := ⟨_, zz, rfl⟩
  unfold pyNext
  refine wpAny_bind (wpAny_attempt (wpAny_callSpecial?_slot (name := Str.ofString "__next__") ty F.slot_zip_next (wpAny_call_entry F.slot_zip_next ty F.entry_zip_next (zt_stop hA D zz zi zo sp sq tl he fun hp ex kk hex => ?_) (F.args_zip_next_1 _))))
  exact wpAny_bind (wpAny_isInstance (T := "StopIteration") (b := true) hex isSubtype_stop (wpAny_pure (k _ kk)))
end
abbrev hA1 (h : Heap) (l : Addr) : Heap := h.push { cls := .type "tuple_iterator", data := .fields #[.ref l, .int 0 0] }
abbrev hA2 (h : Heap) (l : Addr) (y : Str) (t : Tok) : Heap := (hA1 h l).push { cls := .type "str_ascii_iterator", data := .fields #[.str y t, .int 0 0] }
abbrev hA3 (h : Heap) (l : Addr) (y : Str) (t : Tok) : Heap := (hA2 h l y t).push { cls := .type "tuple", data := .seq #[.ref h.objs.size, .ref (hA1 h l).objs.size] }
abbrev hA4 (h : Heap) (l : Addr) (y : Str) (t : Tok) : Heap := (hA3 h l y t).push { cls := .type "tuple", data := .seq #[.none, .none] }
abbrev hA5 (h : Heap) (l : Addr) (y : Str) (t : Tok) : Heap := (hA4 h l y t).push { cls := .type "zip", data := .fields #[.none, .bool false, .bool false, .ref (hA2 h l y t).objs.size, .ref (hA3 h l y t).objs.size] }
theorem meets_new (l : Addr) (xs : Array Value) (y : Str) (t : Tok) (ha : y.cps.all (· < 128) = true) :
    Meets (Builtin.«zip.__new__» ⟨[.type "zip", .ref l, .str y t], []⟩) (fun _ R s => s.heap.IsTuple l xs ∧ R (.ok (.ret (.ref (hA4 s.heap l y t).objs.size))) { s with heap := hA5 s.heap l y t }) :=
  .of_wp fun prog w A R s h => by
    obtain ⟨hp, g, d, tk, os⟩ := s
    obtain ⟨tl, h⟩ := h
    have hsub := sub_zip
    have T1 : Heap.IsTuple (Shared.heap ⟨hp, g, d, tk, os⟩) l xs := tl
    wp_walk using wpAny_pyIter_tuple T1, wpAny_pyIter_ascii ha
    exact ⟨_, rfl, h⟩
section
variable {prog : Program} {w : World} {A : Around} {E : Value → Shared → Prop} {s : Shared}
theorem call_new {l : Addr} {xs : Array Value} {y : Str} {t : Tok} {Q : Value → Shared → Prop} (ha : y.cps.all (· < 128) = true) (tl : s.heap.IsTuple l xs)
    (k : ∀ hp, IsZip hp (s.heap.objs.size + 4) (s.heap.objs.size + 2) (s.heap.objs.size + 3) .none → IsPair hp (s.heap.objs.size + 2) (.ref s.heap.objs.size) (.ref (s.heap.objs.size + 1)) → IsPair hp (s.heap.objs.size + 3) .none .none →
      hp.IsTupleIter s.heap.objs.size l 0 → TxI hp (s.heap.objs.size + 1) y t 0 → (∀ v o, s.heap.get? v = some o → hp.get? v = some o) → Q (.ref (s.heap.objs.size + 4)) { s with heap := hp }) :
    wpAny (model prog w) A (call (.type "zip") [.ref l, .str y t]) Q E s := by
  refine callType_new F.called_zip (by decide) (F.typeCall_zip_2 _ _) (F.newCall_zip_2 _ _) (fun ob => F.args_object_init_3 ob _ _) F.entry_zip_new (meets_new l xs y t ha) ⟨tl, ?_⟩
  have n1 : (hA1 s.heap l).objs.size = s.heap.objs.size + 1 := Heap.size_push ..
  have n2 : (hA2 s.heap l y t).objs.size = s.heap.objs.size + 2 := by rw [Heap.size_push, n1]
  have n3 : (hA3 s.heap l y t).objs.size = s.heap.objs.size + 3 := by rw [Heap.size_push, n2]
  have n4 : (hA4 s.heap l y t).objs.size = s.heap.objs.size + 4 := by rw [Heap.size_push, n3]
  have e5 : (hA5 s.heap l y t).get? (hA4 s.heap l y t).objs.size = some _ := Heap.get?_push_size _ rfl
  have e4 : (hA5 s.heap l y t).get? (hA3 s.heap l y t).objs.size = some _ := Heap.get?_push_of_some _ (Heap.get?_push_size _ rfl)
  have e3 : (hA5 s.heap l y t).get? (hA2 s.heap l y t).objs.size = some _ := Heap.get?_push_of_some _ (Heap.get?_push_of_some _ (Heap.get?_push_size _ rfl))
  have e2 : (hA5 s.heap l y t).get? (hA1 s.heap l).objs.size = some _ := Heap.get?_push_of_some _ (Heap.get?_push_of_some _ (Heap.get?_push_of_some _ (Heap.get?_push_size _ rfl)))
  have e1 : (hA5 s.heap l y t).get? s.heap.objs.size = some _ := Heap.get?_push_of_some _ (Heap.get?_push_of_some _ (Heap.get?_push_of_some _ (Heap.get?_push_of_some _ (Heap.get?_push_size _ rfl))))
  show _ ∧ _
  rw [n2, n3, n4] at e5
  rw [n1, n2] at e3
  rw [n3] at e4
  rw [n1] at e2
  rw [n4]
  exact ⟨⟨_, e5, rfl⟩, k _ e5 e3 e4 ⟨_, e1, rfl, rfl⟩ ⟨_, e2, rfl, rfl⟩ fun v o e => Heap.get?_push_of_some _ (Heap.get?_push_of_some _ (Heap.get?_push_of_some _ (Heap.get?_push_of_some _ (Heap.get?_push_of_some _ e))))⟩
end
/-- the tuple at a and the text y, in new pairs -/
def ItzS (K : PySem.W.Frag) (a : Addr) (y : Str) : It :=
  ⟨fun i H => ∃ (xs : List V) (x : V) (c : Nat), SqT K H a xs ∧ xs[i]? = some x ∧ y.cps[i]? = some c,
    fun i H v H' => ∃ T x c, v = .ref T ∧ H T = none ∧ H' = upd H T (.tup [x, .str ⟨#[c]⟩]) ∧ (∀ xs, SqT K H a xs → xs[i]? = some x) ∧ y.cps[i]? = some c,
    fun i H => ∃ xs : List V, SqT K H a xs ∧ (xs.length ≤ i ∨ y.cps.size ≤ i)⟩
theorem five {z ti to p q c : Addr} (h : c ∈ [z, ti, to, p, q]) : c = z ∨ c = ti ∨ c = to ∨ c = p ∨ c = q := by simpa using h
theorem turn_zt {P : Program} {w : World} {K : PySem.W.Frag} {elts : List Expr} {kk : Nat} {tpos : Pos} {a z ti to p q : Addr} {y : Str} {t : Tok} (D : Apt z ti to p q a) :
    Turn P w K (.Tuple elts kk tpos) (ItzS K a y) [z, ti, to, p, q] z (fun i h => IsZip h z ti to .none ∧ IsPair h ti (.ref p) (.ref q) ∧ (∃ x y, IsPair h to x y) ∧ h.IsTupleIter p a i ∧ TxI h q y t i) where
  mem := List.mem_cons_self
  obj := fun i h st c hc => by
    obtain ⟨zz, zi, ⟨_, _, zo⟩, ⟨o1, e1, _, d1⟩, ⟨o2, e2, _, d2⟩⟩ := st
    rcases five hc with rfl | rfl | rfl | rfl | rfl
    · exact ⟨_, zz, fun v r => nomatch r⟩
    · exact ⟨_, zi, fun v r => nomatch r⟩
    · exact ⟨_, zo, fun v r => nomatch r⟩
    · exact ⟨o1, e1, fun v r => by rw [d1] at r; cases r⟩
    · exact ⟨o2, e2, fun v r => by rw [d2] at r; cases r⟩
  keep := fun i h h' st k => by
    obtain ⟨zz, zi, ⟨x, y, zo⟩, s1, ⟨o2, e2, r2⟩⟩ := st
    exact ⟨k z (by simp) _ zz, k ti (by simp) _ zi, ⟨x, y, k to (by simp) _ zo⟩, s1.at fun o r => k p (by simp) o r, ⟨o2, k q (by simp) o2 e2, r2⟩⟩
  item := by
    intro X hP hw hK hc i pins s σ H E I hf st hg
    subst hP hw hK
    obtain ⟨zz, zi, ⟨x0, y0, zo⟩, sp, sq⟩ := st
    obtain ⟨xs, x, c, hq, hx, hcc⟩ := hg
    obtain ⟨its, rv, tp, _⟩ := I.tuple hq
    obtain ⟨u, hu, ru⟩ := rv.get hx
    have lz : z < s.heap.objs.size := Heap.lt_size zz
    refine py_next D zz zi zo sp sq tp (u := u) (by simpa using hu) hcc fun hp z1 o1 p1 q1 t1 n1 k1 => ?_
    refine ⟨_, rfl, wpAny_letOwnedTupleGo_zip (s := { s with heap := hp, toks := s.toks + 1 }) z1 fun h2 z2 sb => ?_⟩
    have t2 : h2.get? s.heap.objs.size = some { cls := .type "tuple", data := .seq #[u, .str ⟨#[c]⟩ s.toks] } := (sb.2 _ (Nat.ne_of_gt lz)).trans t1
    have new : ObjOk X.prog X.w (upd H s.heap.objs.size (.tup [x, .str ⟨#[c]⟩])) h2 s.heap.objs.size (.tup [x, .str ⟨#[c]⟩]) :=
      ⟨by show 2 ≤ sizeLine; decide, [u, .str ⟨#[c]⟩ s.toks], .cons ru (.cons ⟨_, rfl⟩ .nil), ⟨_, t2, rfl, _, rfl⟩⟩
    have I1 : Inv X pins σ (upd H s.heap.objs.size (.tup [x, .str ⟨#[c]⟩])) { s with heap := h2, toks := s.toks + 1 } :=
      I.turnedNew (t' := s.toks + 1) (ch := [z, ti, to, p, q]) (fun v o hb r => (sb.2 v (fun r' => hb (by simp [r']))).trans (k1 v o (fun r' => hb (by simp [r'])) (fun r' => hb (by simp [r'])) (fun r' => hb (by simp [r'])) (fun r' => hb (by simp [r'])) r)) hf (Nat.le_refl _) new
    refine ⟨.ref s.heap.objs.size, _, I1, rfl, ⟨_, x, c, rfl, I.hok.fresh (Nat.le_refl _), rfl, fun l hl => by rw [I.tuple_inj hl hq]; exact hx, hcc⟩, ⟨z2, ?_, ⟨u, .str ⟨#[c]⟩ s.toks, ?_⟩, ?_, ?_⟩, fun v hv => ?_⟩
    · exact (sb.2 _ D.zti).trans (k1 _ _ D.zti D.tt D.tip D.tiq zi)
    · exact (sb.2 _ D.zto).trans o1
    · exact p1.at fun o r => (sb.2 _ D.zp).trans r
    · obtain ⟨o, e, r⟩ := q1
      exact ⟨o, (sb.2 _ D.zq).trans e, r⟩
    · have lt : v < s.heap.objs.size := by
        rcases five hv with rfl | rfl | rfl | rfl | rfl
        · exact lz
        · exact Heap.lt_size zi
        · exact Heap.lt_size zo
        · obtain ⟨_, e, _⟩ := sp; exact Heap.lt_size e
        · obtain ⟨_, e, _⟩ := sq; exact Heap.lt_size e
      rw [upd_ne (Nat.ne_of_lt lt)]
      exact (hf v hv).1
  done := by
    intro X hP hw hK hc i pins s σ H E I hf st hg
    subst hP hw hK
    obtain ⟨zz, zi, ⟨x0, y0, zo⟩, sp, sq⟩ := st
    obtain ⟨xs, hq, he⟩ := hg
    obtain ⟨its, rv, tp, _⟩ := I.tuple hq
    have ln := rv.length
    have he' : its.toArray[i]? = none ∨ y.cps[i]? = none := by
      rcases he with r | r
      · exact .inl (by simp; omega)
      · exact .inr (by simp; omega)
    exact py_stop (I.ok.hd hc) D zz zi zo sp sq tp he' fun hp k1 => ⟨rfl, I.turnedL (t' := s.toks) (ch := [z, ti, to, p, q]) (fun v o hb r =>
      k1 v o (fun r' => hb (by simp [r'])) (fun r' => hb (by simp [r'])) (fun r' => hb (by simp [r'])) (fun r' => hb (by simp [r'])) r) hf⟩
  self := fun A i s Q E st h => wpAny_pyIter_zip st.1 h
theorem apt_of (I l : Nat) (h : l < I) : Apt (I + 4) (I + 2) (I + 3) I (I + 1) l := by
  constructor <;> (refine PySem.W.neN ?_; omega)
def iZipS (K : PySem.W.Frag) (ta : TA) : TI := fun σ H R => ta σ H fun vs H1 => ∃ a xs y, vs = [.ref a, .str y] ∧ y.cps.all (· < 128) = true ∧ SqT K H1 a xs ∧ R (ItzS K a y) H1
theorem pi_zipS {X : Cx} {e e2 : Expr} {ta : TA} {p pos tpos : Pos} {elts : List Expr} {kk : Nat} (hg : Gl X "zip") (hm : X.mg "zip" = none) (ha : PA X [e, e2] ta)
    (hs : starEach [e, e2] X.env = (false, eval e X.env) :: starEach [e2] X.env) (hpl : (backTo pos (starEach [e2] X.env)).any (·.1) = false) : PI X (.Tuple elts kk tpos) (.Call (.Name "zip" p) [e, e2] [] pos) (iZipS X.K ta) := by
  refine ⟨fun pins s σ H R I h => ?_⟩
  refine Call_ (ld_blt I hg hm PyProof.Rows.boot_zip (PyProof.Rows.callWith_type1 (thn (ha.run pos pins s σ H _ I h) fun us s1 ⟨vs, H1, I1, r1, a, xs, y, ev, asc, hq, q⟩ => ?_) hs hpl))
  subst ev
  cases r1 with
  | cons r rr =>
    cases rr with
    | cons r2 rr =>
      cases rr
      cases r
      obtain ⟨t, rfl⟩ := r2
      have fr : ∀ v, v ∈ [s1.heap.objs.size + 4, s1.heap.objs.size + 2, s1.heap.objs.size + 3, s1.heap.objs.size, s1.heap.objs.size + 1] → FpOk X pins H1 v := fun v hv => by
        have le : s1.heap.objs.size ≤ v := by
          rcases five hv with r | r | r | r | r <;> rw [r] <;> first | exact Nat.le_add_right _ _ | exact Nat.le_refl _
        exact I1.fpOk le (I1.hok.fresh le)
      obtain ⟨its, rv, tp, _⟩ := I1.tuple hq
      obtain ⟨o1, ho1, _⟩ := id tp
      have lt1 : a < s1.heap.objs.size := Heap.lt_size ho1
      have D := apt_of s1.heap.objs.size a lt1
      refine call_new asc (show s1.heap.IsTuple a its.toArray from tp) fun hp zz zi zo sp sq k => wpAny_pyIter_zip zz ?_
      have I2 : Inv X pins σ H1 { s1 with heap := hp } := I1.kept (t' := s1.toks) k
      exact ⟨s1.heap.objs.size + 4, [s1.heap.objs.size + 4, s1.heap.objs.size + 2, s1.heap.objs.size + 3, s1.heap.objs.size, s1.heap.objs.size + 1], _, _, H1, rfl, I2, turn_zt D, ⟨zz, zi, ⟨_, _, zo⟩, sp, sq⟩, fr, q⟩
end ZT

/-! DZipT: zip of a tuple and a plain text, in data. -/
namespace DL
open PySem L2 PyProof.Rows
section
variable {X : Cx} {K : Fg} {cl : Cl} {W : WX}
theorem walk_zs {F : Hp} {a : Addr} {vs : List V} {ds : List D} {y : Str} (e : SqT K F a vs) (r : Reps K cl F vs ds) : WalkD K cl (ZT.ItzS K a y) F (zipD ds (y.cps.toList.map fun c => .str ⟨#[c]⟩)) := fun F2 H2 f2 s2 => by
  have hl : SqT K H2 a vs := same_t s2 (same_t f2 e)
  refine ⟨⟨vs, hl, ?_⟩, fun i d hd => ?_⟩
  · have e0 : y.cps.size = y.cps.toList.length := rfl
    rw [zip_len, r.length, List.length_map, e0]
    rcases Nat.le_total ds.length y.cps.toList.length with h | h
    · exact .inl (by rw [Nat.min_eq_left h]; exact Nat.le_refl _)
    · exact .inr (by rw [Nat.min_eq_right h]; exact Nat.le_refl _)
  obtain ⟨x, c, hx, hc, rfl⟩ := zip_get hd
  rw [List.getElem?_map] at hc
  obtain ⟨n, hn, rfl⟩ := Option.map_eq_some_iff.mp hc
  have hn' : y.cps[i]? = some n := by rw [← Array.getElem?_toList]; exact hn
  obtain ⟨v, e1, rv⟩ := r.get hx
  refine ⟨⟨vs, v, n, hl, e1, hn'⟩, fun w H3 ⟨T, z1, c2, q0, q1, q2, q3, q4⟩ => ?_⟩
  have := q3 vs hl
  rw [e1] at this
  cases this
  rw [hn'] at q4
  cases q4
  subst q2 q0
  exact ⟨upd F2 T (.tup [v, .str ⟨#[n]⟩]), Gr.new s2 q1, .tup (.inl (.inl upd_same)) (.cons ((rv.mono f2).mono (same_upd (s2.free q1))) (.cons (.str _) .nil))⟩
theorem rfi_zipT {ta : TA} {t : DA} (ha : RfA K cl W ta t) : RfI K cl W (ZT.iZipS K ta) (DL.iZipT t) where
  mono2 := fun E E' ρ P P' hE h q => ha.mono2 E E' ρ _ _ hE (fun xs q => by
    match xs, q with
    | [.tup _, .str _], q => exact ⟨q.1, h _ q.2⟩) q
  ok := fun F0 H0 F H σ ρ E R hh le q => by
    refine ha.ok F0 H0 F H σ ρ E _ hh le (ha.mono E ρ _ _ (fun xs q v F1 H1 g1 r1 => ?_) q)
    match xs, q, r1 with
    | [.tup _, .str y], q, .cons (.tup e r) (.cons (.str _) .nil) => exact ⟨_, _, y, rfl, q.1, same_t g1.s e, q.2 _ F1 H1 g1 (walk_zs e r)⟩
theorem vi_zipT {e e2 : Expr} {ta : TA} {t : DA} {p tpos pos : Pos} {elts : List Expr} {kk : Nat} (hg : Gl X "zip") (hm : X.mg "zip" = none) (ha : VA X K cl W [e, e2] ta t) (hs : starEach [e, e2] X.env = (false, eval e X.env) :: starEach [e2] X.env := by rfl) (hpl : (backTo pos (starEach [e2] X.env)).any (·.1) = false := by rfl) :
    VI X K cl W (.Tuple elts kk tpos) (.Call (.Name "zip" p) [e, e2] [] pos) (ZT.iZipS K ta) (DL.iZipT t) := by
  obtain rfl := ha.hK
  exact ⟨ZT.pi_zipS hg hm ha.pe hs hpl, rfi_zipT ha.rf, rfl⟩
end
end DL

set_option maxHeartbeats 8000000
/-! The text of the law, walked. -/
namespace K14
open PySem L2 DL PyProof.Rows
def topS (i : Nat) : Stmt := PySem.Challenge.pw_foreverdays_k14_quantities_of_the_sky.main.body.getD i (.Pass ⟨0, 0, 0, 0⟩)
abbrev s_arch : Stmt := topS 4
theorem sc_arch : FnScope ["u"] ["u"] (defScope s_arch) := ⟨rfl, rfl, rfl, by decide +kernel, rfl, by decide +kernel, by decide +kernel⟩
abbrev s_wave : Stmt := topS 5
theorem sc_wave : FnScope ["x", "quarter", "u"] ["x"] (defScope s_wave) := ⟨rfl, rfl, rfl, by decide +kernel, rfl, by decide +kernel, by decide +kernel⟩
abbrev s_cosine : Stmt := topS 7
theorem sc_cosine : FnScope ["a"] ["a"] (defScope s_cosine) := ⟨rfl, rfl, rfl, by decide +kernel, rfl, by decide +kernel, by decide +kernel⟩
abbrev s_is_number : Stmt := topS 15
theorem sc_is_number : FnScope ["thing", "least"] ["thing", "least"] (defScope s_is_number) := ⟨rfl, rfl, rfl, by decide +kernel, rfl, by decide +kernel, by decide +kernel⟩
abbrev s_letters_of : Stmt := topS 16
theorem sc_letters_of : FnScope ["thing", "sort", "form", "letters"] ["thing", "sort"] (defScope s_letters_of) := ⟨rfl, rfl, rfl, by decide +kernel, rfl, by decide +kernel, by decide +kernel⟩
abbrev s_is_expression : Stmt := topS 18
theorem sc_is_expression : FnScope ["thing", "sort", "deep", "letters", "part", "letter"] ["thing", "sort", "deep"] (defScope s_is_expression) := ⟨rfl, rfl, rfl, by decide +kernel, rfl, by decide +kernel, by decide +kernel⟩
abbrev s_fits : Stmt := topS 17
theorem sc_fits : FnScope ["part", "letter", "deep"] ["part", "letter", "deep"] (defScope s_fits) := ⟨rfl, rfl, rfl, by decide +kernel, rfl, by decide +kernel, by decide +kernel⟩
abbrev s_is_quantity : Stmt := topS 19
theorem sc_is_quantity : FnScope ["thing"] ["thing"] (defScope s_is_quantity) := ⟨rfl, rfl, rfl, by decide +kernel, rfl, by decide +kernel, by decide +kernel⟩
abbrev s_is_angle : Stmt := topS 20
theorem sc_is_angle : FnScope ["thing"] ["thing"] (defScope s_is_angle) := ⟨rfl, rfl, rfl, by decide +kernel, rfl, by decide +kernel, by decide +kernel⟩
abbrev s_negative : Stmt := topS 21
theorem sc_negative : FnScope ["q"] ["q"] (defScope s_negative) := ⟨rfl, rfl, rfl, by decide +kernel, rfl, by decide +kernel, by decide +kernel⟩
abbrev s_term_quantity : Stmt := topS 23
theorem sc_term_quantity : FnScope ["term", "amplitude", "s", "n", "d"] ["term"] (defScope s_term_quantity) := ⟨rfl, rfl, rfl, by decide +kernel, rfl, by decide +kernel, by decide +kernel⟩
abbrev s_terms_quantity : Stmt := topS 24
theorem sc_terms_quantity : FnScope ["terms", "term"] ["terms"] (defScope s_terms_quantity) := ⟨rfl, rfl, rfl, by decide +kernel, rfl, by decide +kernel, by decide +kernel⟩
abbrev s_body_of : Stmt := topS 25
theorem sc_body_of : FnScope ["sky", "body"] ["sky", "body"] (defScope s_body_of) := ⟨rfl, rfl, rfl, by decide +kernel, rfl, by decide +kernel, by decide +kernel⟩
abbrev s_longitude : Stmt := topS 26
theorem sc_longitude : FnScope ["sky", "body", "found", "s", "n", "d"] ["sky", "body"] (defScope s_longitude) := ⟨rfl, rfl, rfl, by decide +kernel, rfl, by decide +kernel, by decide +kernel⟩
abbrev s_latitude : Stmt := topS 27
theorem sc_latitude : FnScope ["sky", "body"] ["sky", "body"] (defScope s_latitude) := ⟨rfl, rfl, rfl, by decide +kernel, rfl, by decide +kernel, by decide +kernel⟩
abbrev s_elongation : Stmt := topS 28
theorem sc_elongation : FnScope ["sky", "first", "second"] ["sky", "first", "second"] (defScope s_elongation) := ⟨rfl, rfl, rfl, by decide +kernel, rfl, by decide +kernel, by decide +kernel⟩
abbrev s_product : Stmt := topS 30
theorem sc_product : FnScope ["first", "second"] ["first", "second"] (defScope s_product) := ⟨rfl, rfl, rfl, by decide +kernel, rfl, by decide +kernel, by decide +kernel⟩
abbrev s_share : Stmt := topS 31
theorem sc_share : FnScope ["q", "number"] ["q", "number"] (defScope s_share) := ⟨rfl, rfl, rfl, by decide +kernel, rfl, by decide +kernel, by decide +kernel⟩
abbrev s_coordinates : Stmt := topS 32
theorem sc_coordinates : FnScope ["sky", "body", "along", "above"] ["sky", "body"] (defScope s_coordinates) := ⟨rfl, rfl, rfl, by decide +kernel, rfl, by decide +kernel, by decide +kernel⟩
abbrev s_equatorial : Stmt := topS 33
theorem sc_equatorial : FnScope ["sky", "body", "x", "s", "z", "sine", "cosine_of_tilt", "y", "w"] ["sky", "body"] (defScope s_equatorial) := ⟨rfl, rfl, rfl, by decide +kernel, rfl, by decide +kernel, by decide +kernel⟩
abbrev s_turned : Stmt := topS 34
theorem sc_turned : FnScope ["sky", "place", "s", "n", "d"] ["sky", "place"] (defScope s_turned) := ⟨rfl, rfl, rfl, by decide +kernel, rfl, by decide +kernel, by decide +kernel⟩
abbrev s_altitude : Stmt := topS 35
theorem sc_altitude : FnScope ["sky", "place", "body", "x", "y", "w", "angle", "sine", "cosine_of_place"] ["sky", "place", "body"] (defScope s_altitude) := ⟨rfl, rfl, rfl, by decide +kernel, rfl, by decide +kernel, by decide +kernel⟩
abbrev s_need_bodies : Stmt := topS 37
theorem sc_need_bodies : FnScope ["sky", "bodies", "body"] ["sky", "bodies"] (defScope s_need_bodies) := ⟨rfl, rfl, rfl, by decide +kernel, rfl, by decide +kernel, by decide +kernel⟩
abbrev s_nearness : Stmt := topS 39
theorem sc_nearness : FnScope ["sky", "first", "second", "limit", "squares", "one", "other", "gap"] ["sky", "first", "second", "limit"] (defScope s_nearness) := ⟨rfl, rfl, rfl, by decide +kernel, rfl, by decide +kernel, by decide +kernel⟩
abbrev s_east : Stmt := topS 41
theorem sc_east : FnScope ["sky", "place", "body", "x", "y", "_", "angle"] ["sky", "place", "body"] (defScope s_east) := ⟨rfl, rfl, rfl, by decide +kernel, rfl, by decide +kernel, by decide +kernel⟩
abbrev s_south : Stmt := topS 42
theorem sc_south : FnScope ["sky", "place", "body", "x", "y", "_", "angle"] ["sky", "place", "body"] (defScope s_south) := ⟨rfl, rfl, rfl, by decide +kernel, rfl, by decide +kernel, by decide +kernel⟩
abbrev s_u_law_start : Stmt := topS 44
theorem sc_u_law_start : FnScope ["script", "cell"] ["script"] (defScope s_u_law_start) := ⟨rfl, rfl, rfl, by decide +kernel, rfl, by decide +kernel, by decide +kernel⟩
abbrev s_u_law_draw : Stmt := topS 45
theorem sc_u_law_draw : FnScope ["state", "bound", "cell", "number"] ["state", "bound"] (defScope s_u_law_draw) := ⟨rfl, rfl, rfl, by decide +kernel, rfl, by decide +kernel, by decide +kernel⟩
abbrev s_u_law_pick : Stmt := topS 46
theorem sc_u_law_pick : FnScope ["state", "things"] ["state", "things"] (defScope s_u_law_pick) := ⟨rfl, rfl, rfl, by decide +kernel, rfl, by decide +kernel, by decide +kernel⟩
abbrev s_u_law_is : Stmt := topS 47
theorem sc_u_law_is : FnScope ["actual", "due"] ["actual", "due"] (defScope s_u_law_is) := ⟨rfl, rfl, rfl, by decide +kernel, rfl, by decide +kernel, by decide +kernel⟩
abbrev s_u_law_arch : Stmt := topS 48
theorem sc_u_law_arch : FnScope ["u", "q"] ["u"] (defScope s_u_law_arch) := ⟨rfl, rfl, rfl, by decide +kernel, rfl, by decide +kernel, by decide +kernel⟩
abbrev s_u_law_wave : Stmt := topS 49
theorem sc_u_law_wave : FnScope ["x"] ["x"] (defScope s_u_law_wave) := ⟨rfl, rfl, rfl, by decide +kernel, rfl, by decide +kernel, by decide +kernel⟩
abbrev s_u_law_motion : Stmt := topS 50
theorem sc_u_law_motion : FnScope ["state", "speed"] ["state"] (defScope s_u_law_motion) := ⟨rfl, rfl, rfl, by decide +kernel, rfl, by decide +kernel, by decide +kernel⟩
abbrev s_u_law_terms : Stmt := topS 51
theorem sc_u_law_terms : FnScope ["state", "most", "size", "terms", "k"] ["state", "most", "size"] (defScope s_u_law_terms) := ⟨rfl, rfl, rfl, by decide +kernel, rfl, by decide +kernel, by decide +kernel⟩
abbrev s_u_law_body : Stmt := topS 52
theorem sc_u_law_body : FnScope ["state"] ["state"] (defScope s_u_law_body) := ⟨rfl, rfl, rfl, by decide +kernel, rfl, by decide +kernel, by decide +kernel⟩
abbrev s_u_law_sky : Stmt := topS 53
theorem sc_u_law_sky : FnScope ["state", "many", "names", "bodies", "k", "sky"] ["state", "many"] (defScope s_u_law_sky) := ⟨rfl, rfl, rfl, by decide +kernel, rfl, by decide +kernel, by decide +kernel⟩
abbrev s_u_law_place : Stmt := topS 54
theorem sc_u_law_place : FnScope ["state", "north"] ["state"] (defScope s_u_law_place) := ⟨rfl, rfl, rfl, by decide +kernel, rfl, by decide +kernel, by decide +kernel⟩
abbrev s_u_law_terms_q : Stmt := topS 55
theorem sc_u_law_terms_q : FnScope ["terms", "term"] ["terms"] (defScope s_u_law_terms_q) := ⟨rfl, rfl, rfl, by decide +kernel, rfl, by decide +kernel, by decide +kernel⟩
abbrev s_u_law_longitude : Stmt := topS 56
theorem sc_u_law_longitude : FnScope ["sky", "body", "one"] ["sky", "body"] (defScope s_u_law_longitude) := ⟨rfl, rfl, rfl, by decide +kernel, rfl, by decide +kernel, by decide +kernel⟩
abbrev s_u_law_latitude : Stmt := topS 57
theorem sc_u_law_latitude : FnScope ["sky", "body"] ["sky", "body"] (defScope s_u_law_latitude) := ⟨rfl, rfl, rfl, by decide +kernel, rfl, by decide +kernel, by decide +kernel⟩
abbrev s_u_law_ahead : Stmt := topS 58
theorem sc_u_law_ahead : FnScope ["a"] ["a"] (defScope s_u_law_ahead) := ⟨rfl, rfl, rfl, by decide +kernel, rfl, by decide +kernel, by decide +kernel⟩
abbrev s_u_law_times : Stmt := topS 59
theorem sc_u_law_times : FnScope ["v", "w"] ["v", "w"] (defScope s_u_law_times) := ⟨rfl, rfl, rfl, by decide +kernel, rfl, by decide +kernel, by decide +kernel⟩
abbrev s_u_law_part : Stmt := topS 60
theorem sc_u_law_part : FnScope ["v", "number"] ["v", "number"] (defScope s_u_law_part) := ⟨rfl, rfl, rfl, by decide +kernel, rfl, by decide +kernel, by decide +kernel⟩
abbrev s_u_law_coordinates : Stmt := topS 61
theorem sc_u_law_coordinates : FnScope ["sky", "body", "along", "above", "x"] ["sky", "body"] (defScope s_u_law_coordinates) := ⟨rfl, rfl, rfl, by decide +kernel, rfl, by decide +kernel, by decide +kernel⟩
abbrev s_u_law_equator : Stmt := topS 62
theorem sc_u_law_equator : FnScope ["sky", "body", "x", "s", "z", "e", "f"] ["sky", "body"] (defScope s_u_law_equator) := ⟨rfl, rfl, rfl, by decide +kernel, rfl, by decide +kernel, by decide +kernel⟩
abbrev s_u_law_turned : Stmt := topS 63
theorem sc_u_law_turned : FnScope ["sky", "place", "s", "n", "d"] ["sky", "place"] (defScope s_u_law_turned) := ⟨rfl, rfl, rfl, by decide +kernel, rfl, by decide +kernel, by decide +kernel⟩
abbrev s_u_law_altitude : Stmt := topS 64
theorem sc_u_law_altitude : FnScope ["sky", "place", "body", "x", "y", "w", "t", "g", "h"] ["sky", "place", "body"] (defScope s_u_law_altitude) := ⟨rfl, rfl, rfl, by decide +kernel, rfl, by decide +kernel, by decide +kernel⟩
abbrev s_u_law_near : Stmt := topS 65
theorem sc_u_law_near : FnScope ["sky", "first", "second", "limit", "squares", "others", "mine", "k", "gap"] ["sky", "first", "second", "limit"] (defScope s_u_law_near) := ⟨rfl, rfl, rfl, by decide +kernel, rfl, by decide +kernel, by decide +kernel⟩
abbrev s_u_law_refused : Stmt := topS 66
theorem sc_u_law_refused : FnScope ["kind", "sky", "place", "first", "second", "e"] ["kind", "sky", "place", "first", "second"] (defScope s_u_law_refused) := ⟨rfl, rfl, rfl, by decide +kernel, rfl, by decide +kernel, by decide +kernel⟩
abbrev s_law : Stmt := topS 67
theorem sc_law : FnScope ["script", "state", "sky", "place", "names", "first", "second", "limit", "kept", "x", "y", "w", "t", "due", "found", "apart", "kind", "name", "q"] ["script"] (defScope s_law) := ⟨rfl, rfl, rfl, by decide +kernel, rfl, by decide +kernel, by decide +kernel⟩
abbrev s_SkyError : Stmt := inClass (topS 10) 0
theorem sc_SkyError : IScope ["self", "code", "name"] (defScope s_SkyError) := ⟨rfl, rfl, rfl, by decide +kernel, by decide +kernel, by decide +kernel, by decide +kernel, rfl, rfl⟩
structure Txt (P : Program) (w : World) (K : PySem.W.Frag) (mg : Str → Option Value) where
  a_arch : Addr
  e_arch : FuncData
  F_arch : Fun K "arch" "arch" s_arch a_arch e_arch
  b_arch : Binds K e_arch ["u"] []
  d_arch : mg "arch" = some (.ref a_arch)
  a_wave : Addr
  e_wave : FuncData
  F_wave : Fun K "wave" "wave" s_wave a_wave e_wave
  b_wave : Binds K e_wave ["x"] []
  d_wave : mg "wave" = some (.ref a_wave)
  a_cosine : Addr
  e_cosine : FuncData
  F_cosine : Fun K "cosine" "cosine" s_cosine a_cosine e_cosine
  b_cosine : Binds K e_cosine ["a"] []
  d_cosine : mg "cosine" = some (.ref a_cosine)
  a_is_number : Addr
  e_is_number : FuncData
  F_is_number : Fun K "is_number" "is_number" s_is_number a_is_number e_is_number
  b_is_number : Binds K e_is_number ["thing", "least"] []
  d_is_number : mg "is_number" = some (.ref a_is_number)
  a_letters_of : Addr
  e_letters_of : FuncData
  F_letters_of : Fun K "letters_of" "letters_of" s_letters_of a_letters_of e_letters_of
  b_letters_of : Binds K e_letters_of ["thing", "sort"] []
  d_letters_of : mg "letters_of" = some (.ref a_letters_of)
  a_is_expression : Addr
  e_is_expression : FuncData
  F_is_expression : Fun K "is_expression" "is_expression" s_is_expression a_is_expression e_is_expression
  b_is_expression : Binds K e_is_expression ["thing", "sort", "deep"] []
  d_is_expression : mg "is_expression" = some (.ref a_is_expression)
  a_fits : Addr
  e_fits : FuncData
  F_fits : Fun K "fits" "fits" s_fits a_fits e_fits
  b_fits : Binds K e_fits ["part", "letter", "deep"] []
  d_fits : mg "fits" = some (.ref a_fits)
  a_is_quantity : Addr
  e_is_quantity : FuncData
  F_is_quantity : Fun K "is_quantity" "is_quantity" s_is_quantity a_is_quantity e_is_quantity
  b_is_quantity : Binds K e_is_quantity ["thing"] []
  d_is_quantity : mg "is_quantity" = some (.ref a_is_quantity)
  a_is_angle : Addr
  e_is_angle : FuncData
  F_is_angle : Fun K "is_angle" "is_angle" s_is_angle a_is_angle e_is_angle
  b_is_angle : Binds K e_is_angle ["thing"] []
  d_is_angle : mg "is_angle" = some (.ref a_is_angle)
  a_negative : Addr
  e_negative : FuncData
  F_negative : Fun K "negative" "negative" s_negative a_negative e_negative
  b_negative : Binds K e_negative ["q"] []
  d_negative : mg "negative" = some (.ref a_negative)
  a_term_quantity : Addr
  e_term_quantity : FuncData
  F_term_quantity : Fun K "term_quantity" "term_quantity" s_term_quantity a_term_quantity e_term_quantity
  b_term_quantity : Binds K e_term_quantity ["term"] []
  d_term_quantity : mg "term_quantity" = some (.ref a_term_quantity)
  a_terms_quantity : Addr
  e_terms_quantity : FuncData
  F_terms_quantity : Fun K "terms_quantity" "terms_quantity" s_terms_quantity a_terms_quantity e_terms_quantity
  b_terms_quantity : Binds K e_terms_quantity ["terms"] []
  d_terms_quantity : mg "terms_quantity" = some (.ref a_terms_quantity)
  a_body_of : Addr
  e_body_of : FuncData
  F_body_of : Fun K "body_of" "body_of" s_body_of a_body_of e_body_of
  b_body_of : Binds K e_body_of ["sky", "body"] []
  d_body_of : mg "body_of" = some (.ref a_body_of)
  a_longitude : Addr
  e_longitude : FuncData
  F_longitude : Fun K "longitude" "longitude" s_longitude a_longitude e_longitude
  b_longitude : Binds K e_longitude ["sky", "body"] []
  d_longitude : mg "longitude" = some (.ref a_longitude)
  a_latitude : Addr
  e_latitude : FuncData
  F_latitude : Fun K "latitude" "latitude" s_latitude a_latitude e_latitude
  b_latitude : Binds K e_latitude ["sky", "body"] []
  d_latitude : mg "latitude" = some (.ref a_latitude)
  a_elongation : Addr
  e_elongation : FuncData
  F_elongation : Fun K "elongation" "elongation" s_elongation a_elongation e_elongation
  b_elongation : Binds K e_elongation ["sky", "first", "second"] []
  d_elongation : mg "elongation" = some (.ref a_elongation)
  a_product : Addr
  e_product : FuncData
  F_product : Fun K "product" "product" s_product a_product e_product
  b_product : Binds K e_product ["first", "second"] []
  d_product : mg "product" = some (.ref a_product)
  a_share : Addr
  e_share : FuncData
  F_share : Fun K "share" "share" s_share a_share e_share
  b_share : Binds K e_share ["q", "number"] []
  d_share : mg "share" = some (.ref a_share)
  a_coordinates : Addr
  e_coordinates : FuncData
  F_coordinates : Fun K "coordinates" "coordinates" s_coordinates a_coordinates e_coordinates
  b_coordinates : Binds K e_coordinates ["sky", "body"] []
  d_coordinates : mg "coordinates" = some (.ref a_coordinates)
  a_equatorial : Addr
  e_equatorial : FuncData
  F_equatorial : Fun K "equatorial" "equatorial" s_equatorial a_equatorial e_equatorial
  b_equatorial : Binds K e_equatorial ["sky", "body"] []
  d_equatorial : mg "equatorial" = some (.ref a_equatorial)
  a_turned : Addr
  e_turned : FuncData
  F_turned : Fun K "turned" "turned" s_turned a_turned e_turned
  b_turned : Binds K e_turned ["sky", "place"] []
  d_turned : mg "turned" = some (.ref a_turned)
  a_altitude : Addr
  e_altitude : FuncData
  F_altitude : Fun K "altitude" "altitude" s_altitude a_altitude e_altitude
  b_altitude : Binds K e_altitude ["sky", "place", "body"] []
  d_altitude : mg "altitude" = some (.ref a_altitude)
  a_need_bodies : Addr
  e_need_bodies : FuncData
  F_need_bodies : Fun K "need_bodies" "need_bodies" s_need_bodies a_need_bodies e_need_bodies
  b_need_bodies : Binds K e_need_bodies ["sky", "bodies"] []
  d_need_bodies : mg "need_bodies" = some (.ref a_need_bodies)
  a_nearness : Addr
  e_nearness : FuncData
  F_nearness : Fun K "nearness" "nearness" s_nearness a_nearness e_nearness
  b_nearness : Binds K e_nearness ["sky", "first", "second", "limit"] []
  d_nearness : mg "nearness" = some (.ref a_nearness)
  a_east : Addr
  e_east : FuncData
  F_east : Fun K "east" "east" s_east a_east e_east
  b_east : Binds K e_east ["sky", "place", "body"] []
  d_east : mg "east" = some (.ref a_east)
  a_south : Addr
  e_south : FuncData
  F_south : Fun K "south" "south" s_south a_south e_south
  b_south : Binds K e_south ["sky", "place", "body"] []
  d_south : mg "south" = some (.ref a_south)
  a_u_law_start : Addr
  e_u_law_start : FuncData
  F_u_law_start : Fun K "_law_start" "_law_start" s_u_law_start a_u_law_start e_u_law_start
  b_u_law_start : Binds K e_u_law_start ["script"] []
  d_u_law_start : mg "_law_start" = some (.ref a_u_law_start)
  a_u_law_draw : Addr
  e_u_law_draw : FuncData
  F_u_law_draw : Fun K "_law_draw" "_law_draw" s_u_law_draw a_u_law_draw e_u_law_draw
  b_u_law_draw : Binds K e_u_law_draw ["state", "bound"] []
  d_u_law_draw : mg "_law_draw" = some (.ref a_u_law_draw)
  a_u_law_pick : Addr
  e_u_law_pick : FuncData
  F_u_law_pick : Fun K "_law_pick" "_law_pick" s_u_law_pick a_u_law_pick e_u_law_pick
  b_u_law_pick : Binds K e_u_law_pick ["state", "things"] []
  d_u_law_pick : mg "_law_pick" = some (.ref a_u_law_pick)
  a_u_law_is : Addr
  e_u_law_is : FuncData
  F_u_law_is : Fun K "_law_is" "_law_is" s_u_law_is a_u_law_is e_u_law_is
  b_u_law_is : Binds K e_u_law_is ["actual", "due"] []
  d_u_law_is : mg "_law_is" = some (.ref a_u_law_is)
  a_u_law_arch : Addr
  e_u_law_arch : FuncData
  F_u_law_arch : Fun K "_law_arch" "_law_arch" s_u_law_arch a_u_law_arch e_u_law_arch
  b_u_law_arch : Binds K e_u_law_arch ["u"] []
  d_u_law_arch : mg "_law_arch" = some (.ref a_u_law_arch)
  a_u_law_wave : Addr
  e_u_law_wave : FuncData
  F_u_law_wave : Fun K "_law_wave" "_law_wave" s_u_law_wave a_u_law_wave e_u_law_wave
  b_u_law_wave : Binds K e_u_law_wave ["x"] []
  d_u_law_wave : mg "_law_wave" = some (.ref a_u_law_wave)
  a_u_law_motion : Addr
  e_u_law_motion : FuncData
  F_u_law_motion : Fun K "_law_motion" "_law_motion" s_u_law_motion a_u_law_motion e_u_law_motion
  b_u_law_motion : Binds K e_u_law_motion ["state"] []
  d_u_law_motion : mg "_law_motion" = some (.ref a_u_law_motion)
  a_u_law_terms : Addr
  e_u_law_terms : FuncData
  F_u_law_terms : Fun K "_law_terms" "_law_terms" s_u_law_terms a_u_law_terms e_u_law_terms
  b_u_law_terms : Binds K e_u_law_terms ["state", "most", "size"] []
  d_u_law_terms : mg "_law_terms" = some (.ref a_u_law_terms)
  a_u_law_body : Addr
  e_u_law_body : FuncData
  F_u_law_body : Fun K "_law_body" "_law_body" s_u_law_body a_u_law_body e_u_law_body
  b_u_law_body : Binds K e_u_law_body ["state"] []
  d_u_law_body : mg "_law_body" = some (.ref a_u_law_body)
  a_u_law_sky : Addr
  e_u_law_sky : FuncData
  F_u_law_sky : Fun K "_law_sky" "_law_sky" s_u_law_sky a_u_law_sky e_u_law_sky
  b_u_law_sky : Binds K e_u_law_sky ["state", "many"] []
  d_u_law_sky : mg "_law_sky" = some (.ref a_u_law_sky)
  a_u_law_place : Addr
  e_u_law_place : FuncData
  F_u_law_place : Fun K "_law_place" "_law_place" s_u_law_place a_u_law_place e_u_law_place
  b_u_law_place : Binds K e_u_law_place ["state"] []
  d_u_law_place : mg "_law_place" = some (.ref a_u_law_place)
  a_u_law_terms_q : Addr
  e_u_law_terms_q : FuncData
  F_u_law_terms_q : Fun K "_law_terms_q" "_law_terms_q" s_u_law_terms_q a_u_law_terms_q e_u_law_terms_q
  b_u_law_terms_q : Binds K e_u_law_terms_q ["terms"] []
  d_u_law_terms_q : mg "_law_terms_q" = some (.ref a_u_law_terms_q)
  a_u_law_longitude : Addr
  e_u_law_longitude : FuncData
  F_u_law_longitude : Fun K "_law_longitude" "_law_longitude" s_u_law_longitude a_u_law_longitude e_u_law_longitude
  b_u_law_longitude : Binds K e_u_law_longitude ["sky", "body"] []
  d_u_law_longitude : mg "_law_longitude" = some (.ref a_u_law_longitude)
  a_u_law_latitude : Addr
  e_u_law_latitude : FuncData
  F_u_law_latitude : Fun K "_law_latitude" "_law_latitude" s_u_law_latitude a_u_law_latitude e_u_law_latitude
  b_u_law_latitude : Binds K e_u_law_latitude ["sky", "body"] []
  d_u_law_latitude : mg "_law_latitude" = some (.ref a_u_law_latitude)
  a_u_law_ahead : Addr
  e_u_law_ahead : FuncData
  F_u_law_ahead : Fun K "_law_ahead" "_law_ahead" s_u_law_ahead a_u_law_ahead e_u_law_ahead
  b_u_law_ahead : Binds K e_u_law_ahead ["a"] []
  d_u_law_ahead : mg "_law_ahead" = some (.ref a_u_law_ahead)
  a_u_law_times : Addr
  e_u_law_times : FuncData
  F_u_law_times : Fun K "_law_times" "_law_times" s_u_law_times a_u_law_times e_u_law_times
  b_u_law_times : Binds K e_u_law_times ["v", "w"] []
  d_u_law_times : mg "_law_times" = some (.ref a_u_law_times)
  a_u_law_part : Addr
  e_u_law_part : FuncData
  F_u_law_part : Fun K "_law_part" "_law_part" s_u_law_part a_u_law_part e_u_law_part
  b_u_law_part : Binds K e_u_law_part ["v", "number"] []
  d_u_law_part : mg "_law_part" = some (.ref a_u_law_part)
  a_u_law_coordinates : Addr
  e_u_law_coordinates : FuncData
  F_u_law_coordinates : Fun K "_law_coordinates" "_law_coordinates" s_u_law_coordinates a_u_law_coordinates e_u_law_coordinates
  b_u_law_coordinates : Binds K e_u_law_coordinates ["sky", "body"] []
  d_u_law_coordinates : mg "_law_coordinates" = some (.ref a_u_law_coordinates)
  a_u_law_equator : Addr
  e_u_law_equator : FuncData
  F_u_law_equator : Fun K "_law_equator" "_law_equator" s_u_law_equator a_u_law_equator e_u_law_equator
  b_u_law_equator : Binds K e_u_law_equator ["sky", "body"] []
  d_u_law_equator : mg "_law_equator" = some (.ref a_u_law_equator)
  a_u_law_turned : Addr
  e_u_law_turned : FuncData
  F_u_law_turned : Fun K "_law_turned" "_law_turned" s_u_law_turned a_u_law_turned e_u_law_turned
  b_u_law_turned : Binds K e_u_law_turned ["sky", "place"] []
  d_u_law_turned : mg "_law_turned" = some (.ref a_u_law_turned)
  a_u_law_altitude : Addr
  e_u_law_altitude : FuncData
  F_u_law_altitude : Fun K "_law_altitude" "_law_altitude" s_u_law_altitude a_u_law_altitude e_u_law_altitude
  b_u_law_altitude : Binds K e_u_law_altitude ["sky", "place", "body"] []
  d_u_law_altitude : mg "_law_altitude" = some (.ref a_u_law_altitude)
  a_u_law_near : Addr
  e_u_law_near : FuncData
  F_u_law_near : Fun K "_law_near" "_law_near" s_u_law_near a_u_law_near e_u_law_near
  b_u_law_near : Binds K e_u_law_near ["sky", "first", "second", "limit"] []
  d_u_law_near : mg "_law_near" = some (.ref a_u_law_near)
  a_u_law_refused : Addr
  e_u_law_refused : FuncData
  F_u_law_refused : Fun K "_law_refused" "_law_refused" s_u_law_refused a_u_law_refused e_u_law_refused
  b_u_law_refused : Binds K e_u_law_refused ["kind", "sky", "place", "first", "second"] []
  d_u_law_refused : mg "_law_refused" = some (.ref a_u_law_refused)
  a_law : Addr
  e_law : FuncData
  F_law : Fun K "law" "law" s_law a_law e_law
  b_law : Binds K e_law ["script"] []
  d_law : mg "law" = some (.ref a_law)
  C_SkyError : Addr
  c_SkyError : mg "SkyError" = some (.ref C_SkyError)
  oex_SkyError : OexC K C_SkyError
  i_SkyError : Addr
  e_SkyError : FuncData
  iC_SkyError : PySem.W.findIn K (.ref C_SkyError) "__init__" = some (some (.ref i_SkyError))
  tI_SkyError : PySem.W.typeIn K (.ref i_SkyError) = some (.type "function")
  ok_SkyError : ∀ (w : World) (base : Heap), FnOk P w K mg base (L2.CX P w) 1 i_SkyError e_SkyError ["self", "code", "name"] (spI K C_SkyError ["code", "name"])
  b_SkyError : Binds K e_SkyError ["self", "code", "name"] []
  xf_SkyError : XfC K C_SkyError
  nf_SkyError_code : PySem.W.findIn K (.ref C_SkyError) "code" = some none
  nf_SkyError_name : PySem.W.findIn K (.ref C_SkyError) "name" = some none
  em_SkyError_SkyError : PySem.W.exmOne K (.ref C_SkyError) (.ref C_SkyError) = some true
  z_divmod : mg "divmod" = none
  z_isinstance : mg "isinstance" = none
  z_int : mg "int" = none
  z_bool : mg "bool" = none
  z_tuple : mg "tuple" = none
  z_len : mg "len" = none
  z_str : mg "str" = none
  z_all : mg "all" = none
  z_zip : mg "zip" = none
  z_min : mg "min" = none
  z_range : mg "range" = none
  z_sorted : mg "sorted" = none
  z_repr : mg "repr" = none
  z_abs : mg "abs" = none
  t_ONE : Tok
  g_ONE : mg "ONE" = some (.int (1000000) t_ONE)
  t_QUARTER : Tok
  g_QUARTER : mg "QUARTER" = some (.int (324000) t_QUARTER)
  t_TURN : Tok
  g_TURN : mg "TURN" = some (.int (1296000) t_TURN)
  t_GREATEST : Tok
  g_GREATEST : mg "GREATEST" = some (.int (1000000000000) t_GREATEST)
  a_FORMS : Addr
  g_FORMS : mg "FORMS" = some (.ref a_FORMS)
  q_FORMS : KTx K w a_FORMS [("number", "qn"), ("wave", "qa"), ("sum", "q"), ("share", "qqnd"), ("product", "qqqd"), ("later", "qqn"), ("turning", "annd"), ("moved", "aaq"), ("minus", "aaa")]
  t_DEEPEST : Tok
  g_DEEPEST : mg "DEEPEST" = some (.int (20) t_DEEPEST)
section
variable {P : Program} {w : World} {K : PySem.W.Frag} {mg : Str → Option Value} {base : Heap}
def clW (P : Program) (w : World) (T : Txt P w K mg) : Cl := { nm := fun s => if s = "SkyError" then some T.C_SkyError else none, so := stO P w }
theorem hc_SkyError (T : Txt P w K mg) : (clW P w T).nm "SkyError" = some T.C_SkyError := by simp [clW]
theorem ok_draw0 {f : Addr} {fd : FuncData} (F : Fun K "_law_draw" "_law_draw" s_u_law_draw f fd) (z_len : mg "len" = none) (z_int : mg "int" = none) : FnOk P w K mg base (L2.CX P w) 1 f fd ["state", "bound"] spDraw := by
  refine F.okX sc_u_law_draw (fun vs H Q E h => ?_) (fun cdv A outer s H vs Q E hr h => ?_)
  · obtain ⟨a, c, ns, i, l, m, b, rfl, _⟩ := h
    rfl
  · obtain ⟨a, c, ns, i, l, m, b, rfl, ha, hc, hx, ⟨hi0, hi1, hl0, hm0, hm1⟩, hb, hb2, q⟩ := h
    have hu := hu_of hr
    have nca : c ≠ a := ne_of hc ha (by intro z; cases z)
    have nd := sc_u_law_draw.nd
    refine ⟨_, pss_cons (ps_if (PW.pt (pw_and (pt_cmpR op_eq (pe_dget hu (pv 0) pe_str (fun _ _ => rfl)) pe_int (nomark _))
        (pw_and1 (pt_cmpR op_lt (pe_dget hu (pv 0) pe_str (fun _ _ => rfl)) (pe_callB call_len_seq (by rfl) z_len PySem.boot_len (pa_cons (pe_dget hu (pv 0) pe_str (fun _ _ => rfl)) pa_nil)) (nomark _)))))
        (pss_cons (ps_set (i := 2) nd rfl (.inl rfl) (pe_ix ix_list (pe_dget hu (pv 0) pe_str (fun _ _ => rfl)) (pe_dget hu (pv 0) pe_str (fun _ _ => rfl)) (fun _ _ => rfl)))
        (pss_cons (ps_dput hu (pv 0) pe_str (pe_op op_add (pe_dget hu (pv 0) pe_str (fun _ _ => rfl)) pe_int) rfl)
        (pss_cons (ps_dput hu (pv 0) pe_str (pe_op op_mod (pe_callTy call_int1 (by rfl) z_int (by decide +kernel) (pa_cons (pe_op op_add (pe_op op_add (pe_op op_mul (pe_dget hu (pv 0) pe_str (fun _ _ => rfl)) pe_int) (pv 2)) pe_int) pa_nil)) pe_int) rfl)
        (pss_cons (ps_if (pt_cmpR op_lt (pv 2) (pe_op op_pow pe_int pe_int) (nomark _)) (pss_one (ps_ret (pe_op op_mod (pe_callTy call_int1 (by rfl) z_int (by decide +kernel) (pa_cons (pv 2) pa_nil)) (pv 1)))) pss_nil)
        (pss_one (ps_dput hu (pv 0) pe_str (pv 2) rfl)))))) pss_nil)
      (pss_cons (ps_if (pt_cmpR op_gt (pe_dget hu (pv 0) pe_str (fun _ _ => rfl)) pe_int (nomark _))
        (pss_cons (ps_set (i := 3) nd rfl (.inl rfl) (pe_op op_mod (pe_callTy call_int1 (by rfl) z_int (by decide +kernel) (pa_cons (pe_dget hu (pv 0) pe_str (fun _ _ => rfl)) pa_nil)) (pv 1)))
        (pss_cons (ps_dput hu (pv 0) pe_str (pe_op op_fdivW (pe_dget hu (pv 0) pe_str (fun _ _ => rfl)) (pv 1)) rfl)
        (pss_one (ps_ret (pv 3))))) pss_nil)
      (pss_cons (ps_dput hu (pv 0) pe_str (pe_op op_mod (pe_callTy call_int1 (by rfl) z_int (by decide +kernel) (pa_cons (pe_op op_add (pe_op op_mul (pe_dget hu (pv 0) pe_str (fun _ _ => rfl)) pe_int) pe_int) pa_nil)) pe_int) rfl)
      (pss_one (ps_ret (pe_op op_mod (pe_callTy call_int1 (by rfl) z_int (by decide +kernel) (pa_cons (pe_op op_mod (pe_callTy call_int1 (by rfl) z_int (by decide +kernel) (pa_cons (pe_op op_add (pe_op op_mul (pe_dget hu (pv 0) pe_str (fun _ _ => rfl)) pe_int) pe_int) pa_nil)) pe_int) pa_nil)) (pv 1)))))), ?_⟩
    refine seq_elim (fun σ2 H2 => ∃ v2 i l m, σ2 = [some (.ref a), some (.int b), v2, none] ∧ H2 = upd H a (.dK (stKV c i l m)) ∧ StOk ns.length i l m) (fun σ2 H2 hC => ?_) (fun r2 => ?_)
    · obtain ⟨v2, i, l, m, rfl, rfl, ⟨hi0, hi1, hl0, hm0, hm1⟩⟩ := hC
      have e0 : ∀ o, (upd H a o) a = some o := fun o => upd_same
      refine ⟨_, rfl, a, _, rfl, sg_left (e0 _), _, _, rfl, rfl, _, rfl, ?_⟩
      refine ite2 (fun z => ?_) (fun z => ?_)
      · refine ⟨_, rfl, a, _, rfl, sg_left (e0 _), .inl ⟨_, rfl, _, rfl, _, _, rfl, rfl, hb, ?_⟩⟩
        refine ⟨_, rfl, a, _, rfl, sg_left (e0 _), _, rfl, _, _, rfl, rfl, ⟨hb, hb2⟩, _, rfl, a, _, rfl, sp_left (l / b) (e0 _), ?_⟩
        refine ⟨_, rfl, ?_⟩
        rw [upd_upd]
        exact q _ _ _ _ (emod_in hb).1 (emod_in hb).2 ⟨hi0, hi1, Int.ediv_nonneg hl0 (by omega), hm0, hm1⟩
      · refine ⟨_, rfl, a, _, rfl, sg_mix (e0 _), _, _, rfl, rfl, .inl (small_mix hm0 hm1), _, _, rfl, rfl, .inl ⟨_, rfl, _, _, rfl, rfl, (by show (0 : Int) < 2147483647; decide), ?_⟩⟩
        refine ⟨_, rfl, a, _, rfl, sp_mix _ (e0 _), ?_⟩
        rw [upd_upd]
        refine ⟨_, rfl, a, _, rfl, sg_mix (e0 _), _, _, rfl, rfl, .inl (small_mix (mod_mix _).1 (mod_mix _).2), _, _, rfl, rfl, .inl ⟨_, rfl, _, _, rfl, rfl, (by show (0 : Int) < 2147483629; decide), .inl ⟨_, rfl, _, rfl, _, _, rfl, rfl, hb, ?_⟩⟩⟩
        exact q _ _ _ _ (emod_in hb).1 (emod_in hb).2 ⟨hi0, hi1, hl0, (mod_mix _).1, (mod_mix _).2⟩
    · have back : r2 = r2 := rfl
      have fin : ∀ v2, _ := fun v2 => r2 [some (.ref a), some (.int b), v2, none] H ⟨v2, i, l, m, rfl, (up_self ha).symm, hi0, hi1, hl0, hm0, hm1⟩
      refine ⟨_, rfl, a, _, rfl, sg_left ha, rfl, _, rfl, ?_⟩
      refine ite2 (fun z => ?_) (fun z => fin none)
      refine ⟨_, rfl, a, _, rfl, sg_at ha, _, rfl, a, _, rfl, sg_cells ha, c, _, rfl, .inl (SqL.of hc), _, _, rfl, rfl, _, rfl, ?_⟩
      refine ite2 (fun z2 => ?_) (fun z2 => fin none)
      have hlt : i < ns.length := by
        have := of_decide_eq_true z2
        simpa using this
      obtain ⟨x, hxm, hxe⟩ := at_ns hi0 hlt
      refine ⟨_, rfl, a, _, rfl, sg_cells ha, _, rfl, a, _, rfl, sg_at ha, c, _, i, .int x, rfl, rfl, SqL.of hc, hxe, ?_⟩
      have e0 : ∀ o, (upd H a o) a = some o := fun o => upd_same
      refine ⟨_, rfl, a, _, rfl, sg_at ha, _, _, rfl, rfl, _, rfl, a, _, rfl, sp_at (i + 1) ha, ?_⟩
      refine ⟨_, rfl, a, _, rfl, sg_mix (e0 _), _, _, rfl, rfl, .inl (small_mix hm0 hm1), _, rfl, _, _, rfl, rfl, _, _, rfl, rfl, .inl ⟨_, rfl, _, _, rfl, rfl, (by show (0 : Int) < 2147483647; decide), ?_⟩⟩
      refine ⟨_, rfl, a, _, rfl, sp_mix _ (e0 _), ?_⟩
      rw [upd_upd]
      have hok : StOk ns.length (i + 1) l ((m * 48271 + x + 11) % 2147483647) := ⟨by omega, by omega, hl0, (mod_mix _).1, (mod_mix _).2⟩
      refine ⟨_, rfl, _, _, rfl, rfl, (by show (0 : Int) ≤ 18 ∧ (18 : Int) ≤ 1000000 ∧ (10 : Int).natAbs < 2 ^ 64; decide), _, _, rfl, rfl, _, rfl, ?_⟩
      refine ite2 (fun z3 => ?_) (fun z3 => ?_)
      · refine ⟨_, rfl, .inl ⟨_, rfl, _, rfl, _, _, rfl, rfl, hb, ?_⟩⟩
        exact q _ _ _ _ (emod_in hb).1 (emod_in hb).2 hok
      · refine ⟨_, rfl, _, rfl, a, _, rfl, sp_left x (e0 _), ?_⟩
        rw [upd_upd]
        exact r2 _ _ ⟨_, i + 1, x, _, rfl, rfl, hok.1, hok.2.1, hx x hxm, hok.2.2.2.1, hok.2.2.2.2⟩
theorem ok_start0 {f : Addr} {fd : FuncData} (F : Fun K "_law_start" "_law_start" s_u_law_start f fd) (z_len : mg "len" = none) (z_int : mg "int" = none) (z_abs : mg "abs" = none) : FnOk P w K mg base (L2.CX P w) 1 f fd ["script"] (spStart K) := by
  refine F.okX sc_u_law_start (fun vs H Q E h => ?_) (fun cdv A outer s H vs Q E hr h => ?_)
  · obtain ⟨a, ns, rfl, _⟩ := h
    rfl
  · obtain ⟨a, ns, rfl, hS, hn, q⟩ := h
    have hu := hu_of hr
    have nd := sc_u_law_start.nd
    refine ⟨_, pss_one (ps_ret (pe_disp (pps_cons pe_str (pe_lc (own := [("cell", 1)]) (g := L2.gName 1) (tt := tYes) rfl nd (pi_list (pv 0)) (blkOk_by (N := ["script", "cell"]) (sc := defScope s_u_law_start) (by decide +kernel))
        (fun _ _ _ _ _ => pg_name (i := 1) nd rfl (Or.inl rfl)) (fun _ _ _ _ _ => pts_nil) (fun _ _ _ _ _ => pe_callB call_abs (by rfl) z_abs (by decide +kernel) (pa_cons (pe_callTy call_int1 (by rfl) z_int (by decide +kernel) (pa_cons (pv 1) pa_nil)) pa_nil)))
      (pps_cons pe_str pe_int (pps_cons pe_str pe_int (pps_cons pe_str (pe_op op_add pe_int (pe_callB call_len_seq (by rfl) z_len PySem.boot_len (pa_cons (pv 0) pa_nil))) pps_nil)))) rfl rfl (fun z => by cases z) (by decide))), ?_⟩
    intro p np
    have s1 : Same H (upd H p (.dK [])) := same_upd np
    refine ⟨_, rfl, a, rfl, ⟨_, s1.seq hS⟩, fun D hD => lc_list (K := K) (a := a) (xs := ns.map V.int) (fun i H' => ∃ ms : List Int, Same (upd H p (.dK [])) H' ∧ H' D = some (.lst (ms.map V.int)) ∧ ms.length = i ∧ ∀ x ∈ ms, 0 ≤ x) ⟨[], same_upd hD, upd_same, rfl, fun _ z => by cases z⟩ (fun i H' _ ⟨_, sm, _⟩ => sm.seq (s1.seq hS)) ?_ ?_⟩
    · rintro i x H' hi ⟨ms, sm, hm, hl, hx⟩
      have hil : i < ns.length := by
        have := (List.getElem?_eq_some_iff.mp hi).1
        simpa using this
      have ex : x = .int ns[i] := by
        rw [List.getElem?_map, List.getElem?_eq_getElem hil] at hi
        exact (Option.some.inj hi).symm
      subst ex
      have hD1 : (upd H p (.dK [])) D = none := hD
      refine ⟨rfl, ?_⟩
      refine (iteT ?_ : if true = true then _ else False)
      refine ⟨_, rfl, .inl ⟨_, rfl, _, rfl, ms.map V.int, hm, ?_, ms ++ [if ns[i] < 0 then -ns[i] else ns[i]], fun b o e => ?_, ?_, ?_, ?_⟩⟩
      · rw [List.length_map, hl]
        exact Nat.lt_of_lt_of_le (by omega) (show 63 ≤ sizeLine by rw [sizeLine_eq]; decide)
      · have hb : b ≠ D := fun z => by
          subst z
          rw [hD1] at e
          cases e
        rw [upd_ne hb]
        exact sm b o e
      · rw [upd_same]
        simp
      · simp [hl]
      · intro y hy
        rcases List.mem_append.mp hy with z | z
        · exact hx y z
        · have : y = if ns[i] < 0 then -ns[i] else ns[i] := by simpa using z
          rw [this]
          split <;> omega
    · rintro H' ⟨ms, sm, hm, hl, hx⟩
      have epp := sm p _ upd_same
      have hDp : D ≠ p := fun z => by
        subst z
        rw [upd_same] at hD
        cases hD
      refine ⟨_, rfl, a, _, rfl, .inl (sm.seq (s1.seq hS)), _, _, rfl, rfl, epp, [((Sum.inr ("cells" : Str)), .ref D), (Sum.inr ("at" : Str), .int 0), (Sum.inr ("left" : Str), .int 0), (Sum.inr ("mix" : Str), .int (7 + ((ns.map V.int).length : Nat)))], rfl, (by show 4 ≤ 15; decide), ?_⟩
      have hk : mergeK [] [((Sum.inr ("cells" : Str) : L2.Key), V.ref D), (Sum.inr ("at" : Str), .int 0), (Sum.inr ("left" : Str), .int 0), (Sum.inr ("mix" : Str), .int (7 + ((ns.map V.int).length : Nat)))] = stKV D 0 0 (7 + ((ns.map V.int).length : Nat)) := by
        obtain ⟨⟨⟨a1, a2, a3⟩, ⟨b1, b2, b3⟩⟩, ⟨⟨c1, c2, c3⟩, ⟨d1, d2, d3⟩⟩⟩ := st_ne
        simp [mergeK, putK, stKV, kCells, kAt, kLeft, kMix, a1, a2, a3, b2, b3, c3]
      rw [hk]
      refine q p D ms _ _ (fun b o e => ?_) np (s1.free hD) (by rw [hl, List.length_map]) hx (by omega) (by rw [List.length_map]; omega) (by rw [upd_ne hDp]; exact hm) upd_same
      rw [upd_ne (ne_of_none e np)]
      exact sm b o (s1 b o e)
theorem ok_arch (T : Txt P w K mg) : FnOk P w K mg base (L2.CX P w) 1 T.a_arch T.e_arch ["u"] (spD K (clW P w T) W_arch) := by
  refine fn_okX T.F_arch sc_arch (by decide) (fun cdv A outer s H E hr => ?_)
  have hu := hu65 hr
  have tk := takes_of (X := cxOf (L2.CX P w) P w K mg base ["u"] "arch" (defScope s_arch) T.a_arch cdv A outer s H E) rfl rfl rfl rfl
  exact ⟨_, (vss_one (vs_ret (ve_div (ve_mul (ve_mul (ve_globI rfl T.g_ONE) (ve_var (i := 0))) (ve_sub (ve_mul (ve_mul ve_int (ve_globI rfl T.g_QUARTER)) (ve_globI rfl T.g_QUARTER)) (ve_mul (ve_var (i := 0)) (ve_var (i := 0))))) (ve_mul (ve_mul (ve_mul ve_int (ve_globI rfl T.g_QUARTER)) (ve_globI rfl T.g_QUARTER)) (ve_globI rfl T.g_QUARTER)))))⟩
theorem ok_wave (T : Txt P w K mg) : FnOk P w K mg base (L2.CX P w) 2 T.a_wave T.e_wave ["x"] (spD K (clW P w T) W_wave) := by
  refine fn_okX T.F_wave sc_wave (by decide) (fun cdv A outer s H E hr => ?_)
  have hu := hu65 hr
  have tk := takes_of (X := cxOf (L2.CX P w) P w K mg base ["x", "quarter", "u"] "wave" (defScope s_wave) T.a_wave cdv A outer s H E) rfl rfl rfl rfl
  exact ⟨_, (vss_cons (vs_asg (ve_blt bi_divmod rfl T.z_divmod (by decide +kernel) (va_cons (ve_mod (ve_var (i := 0)) (ve_globI rfl T.g_TURN)) (va_cons (ve_globI rfl T.g_QUARTER) va_nil))) (vt_tup rfl (vts_cons (vt_name (i := 1) sc_wave.nd) (vts_cons (vt_name (i := 2) sc_wave.nd) vts_nil))))
      (vss_cons (vs_if (vb_cmp (cm_eq hu) (ve_var (i := 1)) ve_int) (vss_one (vs_ret (ve_call (ok_arch T) (hr.mono (by decide)) rfl T.d_arch T.F_arch.kp T.b_arch tk (va_cons (ve_var (i := 2)) va_nil)))) vss_nil)
      (vss_cons (vs_if (vb_cmp (cm_eq hu) (ve_var (i := 1)) ve_int) (vss_one (vs_ret (ve_call (ok_arch T) (hr.mono (by decide)) rfl T.d_arch T.F_arch.kp T.b_arch tk (va_cons (ve_sub (ve_globI rfl T.g_QUARTER) (ve_var (i := 2))) va_nil)))) vss_nil)
      (vss_cons (vs_if (vb_cmp (cm_eq hu) (ve_var (i := 1)) ve_int) (vss_one (vs_ret (ve_neg (ve_call (ok_arch T) (hr.mono (by decide)) rfl T.d_arch T.F_arch.kp T.b_arch tk (va_cons (ve_var (i := 2)) va_nil))))) vss_nil)
      (vss_one (vs_ret (ve_neg (ve_call (ok_arch T) (hr.mono (by decide)) rfl T.d_arch T.F_arch.kp T.b_arch tk (va_cons (ve_sub (ve_globI rfl T.g_QUARTER) (ve_var (i := 2))) va_nil)))))))))⟩
theorem ok_cosine (T : Txt P w K mg) : FnOk P w K mg base (L2.CX P w) 1 T.a_cosine T.e_cosine ["a"] (spD K (clW P w T) W_cosine) := by
  refine fn_okX T.F_cosine sc_cosine (by decide) (fun cdv A outer s H E hr => ?_)
  have hu := hu65 hr
  have tk := takes_of (X := cxOf (L2.CX P w) P w K mg base ["a"] "cosine" (defScope s_cosine) T.a_cosine cdv A outer s H E) rfl rfl rfl rfl
  exact ⟨_, (vss_one (vs_ret (ve_tup (va_cons ve_str (va_cons (ve_tup (va_cons ve_str (va_cons (ve_var (i := 0)) (va_cons (ve_tup (va_cons ve_str (va_cons (ve_globI rfl T.g_QUARTER) va_nil))) va_nil)))) va_nil)))))⟩
theorem ok_is_number (T : Txt P w K mg) : FnOk P w K mg base (L2.CX P w) 1 T.a_is_number T.e_is_number ["thing", "least"] (spD K (clW P w T) W_is_number) := by
  refine fn_okX T.F_is_number sc_is_number (by decide) (fun cdv A outer s H E hr => ?_)
  have hu := hu65 hr
  have tk := takes_of (X := cxOf (L2.CX P w) P w K mg base ["thing", "least"] "is_number" (defScope s_is_number) T.a_is_number cdv A outer s H E) rfl rfl rfl rfl
  exact ⟨_, (vss_one (vs_ret (ve_and (ve_isi rfl T.z_isinstance (by decide +kernel) rfl T.z_int (by decide +kernel) (by decide) (ve_var (i := 0))) (ve_and (ve_not (ve_isi rfl T.z_isinstance (by decide +kernel) rfl T.z_bool (by decide +kernel) (by decide) (ve_var (i := 0)))) (ve_one (ve_chain (cm_le hu) (cm_le hu) (ve_var (i := 1)) (ve_var (i := 0)) (ve_globI rfl T.g_GREATEST)))))))⟩
theorem ok_letters_of (T : Txt P w K mg) : FnOk P w K mg base (L2.CX P w) 1 T.a_letters_of T.e_letters_of ["thing", "sort"] (spD K (clW P w T) W_letters_of) := by
  refine fn_okX T.F_letters_of sc_letters_of (by decide) (fun cdv A outer s H E hr => ?_)
  have hu := hu65 hr
  have tk := takes_of (X := cxOf (L2.CX P w) P w K mg base ["thing", "sort", "form", "letters"] "letters_of" (defScope s_letters_of) T.a_letters_of cdv A outer s H E) rfl rfl rfl rfl
  exact ⟨_, (vss_cons (vs_if (VW.b (vw_or (vb_not (vb_val (ve_isi rfl T.z_isinstance (by decide +kernel) rfl T.z_tuple (by decide +kernel) (by decide) (ve_var (i := 0))))) (vw_or (vb_cmp (cm_lt hu) (ve_blt bi_len rfl T.z_len (by decide +kernel) (va_cons (ve_var (i := 0)) va_nil)) ve_int) (vw_or1 (vb_not (vb_val (ve_isi rfl T.z_isinstance (by decide +kernel) rfl T.z_str (by decide +kernel) (by decide) (ve_ix hu (ve_var (i := 0)) ve_int)))))))) (vss_one (vs_ret ve_str)) vss_nil)
      (vss_cons (vs_set (i := 2) sc_letters_of.nd (ve_kget2 T.q_FORMS rfl T.g_FORMS (ve_ix hu (ve_var (i := 0)) ve_int) ve_str))
      (vss_cons (vs_if (VW.b (vw_or (vb_cmp (cm_eq hu) (ve_var (i := 2)) ve_str) (vw_or1 (vb_cmp (cm_ne hu) (ve_ix hu (ve_var (i := 2)) ve_int) (ve_var (i := 1)))))) (vss_one (vs_ret ve_str)) vss_nil)
      (vss_cons (vs_set (i := 3) sc_letters_of.nd (ve_slice (ve_var (i := 2)) (vo_S ve_int) vo_N))
      (vss_cons (vs_if (vb_cmp (cm_eq hu) (ve_ix hu (ve_var (i := 0)) ve_int) ve_str) (vss_one (vs_set (i := 3) sc_letters_of.nd (ve_mulS ve_str (ve_sub (ve_blt bi_len rfl T.z_len (by decide +kernel) (va_cons (ve_var (i := 0)) va_nil)) ve_int)))) vss_nil)
      (vss_one (vs_fgt (js := [1, 2]) (vs_ret (ve_if (vb_cmp (cm_eq hu) (ve_blt bi_len rfl T.z_len (by decide +kernel) (va_cons (ve_var (i := 3)) va_nil)) (ve_sub (ve_blt bi_len rfl T.z_len (by decide +kernel) (va_cons (ve_var (i := 0)) va_nil)) ve_int)) (ve_var (i := 3)) ve_str)))))))))⟩
theorem okG_fits (T : Txt P w K mg) : ∀ n : Nat, FnOk P w K mg base (L2.CX P w) (1 + n) T.a_fits T.e_fits ["part", "letter", "deep"] (spD K (clW P w T) (G_fits n)) ∧ FnOk P w K mg base (L2.CX P w) (1 + n) T.a_is_expression T.e_is_expression ["thing", "sort", "deep"] (spD K (clW P w T) (G_is_expression n))
  | 0 => ⟨fn_none, fn_none⟩
  | n + 1 => by
    have IH := okG_fits T n
    have IH_fits := IH.1
    have IH_is_expression := IH.2
    refine ⟨?_, ?_⟩
    · refine fn_okX T.F_fits sc_fits (by decide) (fun cdv A outer s H E hr => ?_)
      have hu := hu65 hr
      have tk := takes_of (X := cxOf (L2.CX P w) P w K mg base ["part", "letter", "deep"] "fits" (defScope s_fits) T.a_fits cdv A outer s H E) rfl rfl rfl rfl
      exact ⟨_, (vss_cons (vs_if (vb_cmp (cm_eq hu) (ve_var (i := 1)) ve_str) (vss_one (vs_ret (ve_call (ok_is_number T) (hr.mono (le_add (by decide))) rfl T.d_is_number T.F_is_number.kp T.b_is_number tk (va_cons (ve_var (i := 0)) (va_cons (ve_neg (ve_globI rfl T.g_GREATEST)) va_nil))))) vss_nil)
      (vss_cons (vs_if (vb_cmp (cm_eq hu) (ve_var (i := 1)) ve_str) (vss_one (vs_ret (ve_call (ok_is_number T) (hr.mono (le_add (by decide))) rfl T.d_is_number T.F_is_number.kp T.b_is_number tk (va_cons (ve_var (i := 0)) (va_cons ve_int va_nil))))) vss_nil)
      (vss_one (vs_ret (ve_call IH_is_expression hr rfl T.d_is_expression T.F_is_expression.kp T.b_is_expression tk (va_cons (ve_var (i := 0)) (va_cons (ve_var (i := 1)) (va_cons (ve_var (i := 2)) va_nil))))))))⟩
    · refine fn_okX T.F_is_expression sc_is_expression (by decide) (fun cdv A outer s H E hr => ?_)
      have hu := hu65 hr
      have tk := takes_of (X := cxOf (L2.CX P w) P w K mg base ["thing", "sort", "deep", "letters", "part", "letter"] "is_expression" (defScope s_is_expression) T.a_is_expression cdv A outer s H E) rfl rfl rfl rfl
      exact ⟨_, (vss_cons (vs_if (vb_cmp (cm_eq hu) (ve_var (i := 2)) ve_int) (vss_one (vs_ret ve_bl)) vss_nil)
      (vss_cons (vs_set (i := 3) sc_is_expression.nd (ve_call (ok_letters_of T) (hr.mono (le_add (by decide))) rfl T.d_letters_of T.F_letters_of.kp T.b_letters_of tk (va_cons (ve_var (i := 0)) (va_cons (ve_var (i := 1)) va_nil))))
      (vss_cons (vs_if (vb_cmp (cm_eq hu) (ve_var (i := 3)) ve_str) (vss_one (vs_ret ve_bl)) vss_nil)
      (vss_one (vs_ret (ve_blt (bi_all rfl) rfl T.z_all (by decide +kernel) (va_cons (VN.e (vn_lc (own := [("part", 4), ("letter", 5)]) rfl sc_is_expression.nd (vi_zipT rfl T.z_zip (va_cons (ve_slice (ve_var (i := 0)) (vo_S ve_int) vo_N) (va_cons (ve_var (i := 3)) va_nil))) (blkOk_by (N := ["thing", "sort", "deep", "letters", "part", "letter"]) (sc := defScope s_is_expression) (by decide +kernel)) (fun _ _ _ _ _ => (vt_tup rfl (vts_cons (vt_name (i := 4) sc_is_expression.nd) (vts_cons (vt_name (i := 5) sc_is_expression.nd) vts_nil)))) (fun _ _ _ _ _ => vp_nil) (fun _ _ _ _ _ => (ve_call IH_fits hr rfl T.d_fits T.F_fits.kp T.b_fits takes_no (va_cons (ve_var (i := 4)) (va_cons (ve_var (i := 5)) (va_cons (ve_sub (ve_var (i := 2)) ve_int) va_nil))))))) va_nil)))))))⟩
theorem ok_fits (T : Txt P w K mg) : FnOk P w K mg base (L2.CX P w) 61 T.a_fits T.e_fits ["part", "letter", "deep"] (spD K (clW P w T) W_fits) := fn_upN (N := 60) (L := 1) fun n => (okG_fits T n).1
theorem ok_is_expression (T : Txt P w K mg) : FnOk P w K mg base (L2.CX P w) 61 T.a_is_expression T.e_is_expression ["thing", "sort", "deep"] (spD K (clW P w T) W_is_expression) := fn_upN (N := 60) (L := 1) fun n => (okG_fits T n).2
theorem ok_is_quantity (T : Txt P w K mg) : FnOk P w K mg base (L2.CX P w) 62 T.a_is_quantity T.e_is_quantity ["thing"] (spD K (clW P w T) W_is_quantity) := by
  refine fn_okX T.F_is_quantity sc_is_quantity (by decide) (fun cdv A outer s H E hr => ?_)
  have hu := hu65 hr
  have tk := takes_of (X := cxOf (L2.CX P w) P w K mg base ["thing"] "is_quantity" (defScope s_is_quantity) T.a_is_quantity cdv A outer s H E) rfl rfl rfl rfl
  exact ⟨_, (vss_one (vs_ret (ve_call (ok_is_expression T) (hr.mono (by decide)) rfl T.d_is_expression T.F_is_expression.kp T.b_is_expression tk (va_cons (ve_var (i := 0)) (va_cons ve_str (va_cons (ve_globI rfl T.g_DEEPEST) va_nil))))))⟩
theorem ok_is_angle (T : Txt P w K mg) : FnOk P w K mg base (L2.CX P w) 62 T.a_is_angle T.e_is_angle ["thing"] (spD K (clW P w T) W_is_angle) := by
  refine fn_okX T.F_is_angle sc_is_angle (by decide) (fun cdv A outer s H E hr => ?_)
  have hu := hu65 hr
  have tk := takes_of (X := cxOf (L2.CX P w) P w K mg base ["thing"] "is_angle" (defScope s_is_angle) T.a_is_angle cdv A outer s H E) rfl rfl rfl rfl
  exact ⟨_, (vss_one (vs_ret (ve_call (ok_is_expression T) (hr.mono (by decide)) rfl T.d_is_expression T.F_is_expression.kp T.b_is_expression tk (va_cons (ve_var (i := 0)) (va_cons ve_str (va_cons (ve_globI rfl T.g_DEEPEST) va_nil))))))⟩
theorem ok_negative (T : Txt P w K mg) : FnOk P w K mg base (L2.CX P w) 1 T.a_negative T.e_negative ["q"] (spD K (clW P w T) W_negative) := by
  refine fn_okX T.F_negative sc_negative (by decide) (fun cdv A outer s H E hr => ?_)
  have hu := hu65 hr
  have tk := takes_of (X := cxOf (L2.CX P w) P w K mg base ["q"] "negative" (defScope s_negative) T.a_negative cdv A outer s H E) rfl rfl rfl rfl
  exact ⟨_, (vss_one (vs_ret (ve_tup (va_cons ve_str (va_cons (ve_var (i := 0)) (va_cons (ve_neg ve_int) (va_cons ve_int va_nil)))))))⟩
theorem ok_term_quantity (T : Txt P w K mg) : FnOk P w K mg base (L2.CX P w) 1 T.a_term_quantity T.e_term_quantity ["term"] (spD K (clW P w T) W_term_quantity) := by
  refine fn_okX T.F_term_quantity sc_term_quantity (by decide) (fun cdv A outer s H E hr => ?_)
  have hu := hu65 hr
  have tk := takes_of (X := cxOf (L2.CX P w) P w K mg base ["term", "amplitude", "s", "n", "d"] "term_quantity" (defScope s_term_quantity) T.a_term_quantity cdv A outer s H E) rfl rfl rfl rfl
  exact ⟨_, (vss_cons (vs_asg (ve_var (i := 0)) (vt_tup rfl (vts_cons (vt_name (i := 1) sc_term_quantity.nd) (vts_cons (vt_name (i := 2) sc_term_quantity.nd) (vts_cons (vt_name (i := 3) sc_term_quantity.nd) (vts_cons (vt_name (i := 4) sc_term_quantity.nd) vts_nil))))))
      (vss_one (vs_ret (ve_tup (va_cons ve_str (va_cons (ve_tup (va_cons ve_str (va_cons (ve_tup (va_cons ve_str (va_cons (ve_var (i := 2)) (va_cons (ve_var (i := 3)) (va_cons (ve_var (i := 4)) va_nil))))) va_nil))) (va_cons (ve_var (i := 1)) (va_cons (ve_globI rfl T.g_ONE) va_nil))))))))⟩
theorem ok_terms_quantity (T : Txt P w K mg) : FnOk P w K mg base (L2.CX P w) 2 T.a_terms_quantity T.e_terms_quantity ["terms"] (spD K (clW P w T) W_terms_quantity) := by
  refine fn_okX T.F_terms_quantity sc_terms_quantity (by decide) (fun cdv A outer s H E hr => ?_)
  have hu := hu65 hr
  have tk := takes_of (X := cxOf (L2.CX P w) P w K mg base ["terms", "term"] "terms_quantity" (defScope s_terms_quantity) T.a_terms_quantity cdv A outer s H E) rfl rfl rfl rfl
  exact ⟨_, (vss_cons (vs_if (vb_not (vb_truth (ve_var (i := 0)))) (vss_one (vs_ret (ve_tup (va_cons ve_str (va_cons ve_int va_nil))))) vss_nil)
      (vss_one (vs_ret (ve_tup (va_cons ve_str (va_star (VN.e (vn_lc (own := [("term", 1)]) rfl sc_terms_quantity.nd (vi_seq (ve_var (i := 0))) (blkOk_by (N := ["terms", "term"]) (sc := defScope s_terms_quantity) (by decide +kernel)) (fun _ _ _ _ _ => (vt_name (i := 1) sc_terms_quantity.nd)) (fun _ _ _ _ _ => vp_nil) (fun _ _ _ _ _ => (ve_call (ok_term_quantity T) (hr.mono (by decide)) rfl T.d_term_quantity T.F_term_quantity.kp T.b_term_quantity takes_no (va_cons (ve_var (i := 1)) va_nil))))) va_nil))))))⟩
theorem ok_body_of (T : Txt P w K mg) : FnOk P w K mg base (L2.CX P w) 3 T.a_body_of T.e_body_of ["sky", "body"] (spD K (clW P w T) W_body_of) := by
  refine fn_okX T.F_body_of sc_body_of (by decide) (fun cdv A outer s H E hr => ?_)
  have hu := hu65 hr
  have tk := takes_of (X := cxOf (L2.CX P w) P w K mg base ["sky", "body"] "body_of" (defScope s_body_of) T.a_body_of cdv A outer s H E) rfl rfl rfl rfl
  exact ⟨_, (vss_cons (vs_if (vb_cmp (cm_notIn hu) (ve_var (i := 1)) (ve_ix hu (ve_var (i := 0)) ve_str)) (vss_one (vs_raise (c := "SkyError") T.oex_SkyError T.iC_SkyError T.tI_SkyError (T.ok_SkyError w base) (hr.mono (by decide)) T.b_SkyError rfl T.c_SkyError (hc_SkyError (P := P) (w := w) T) tk rfl (va_cons ve_str (va_cons (ve_var (i := 1)) va_nil)))) vss_nil)
      (vss_one (vs_ret (ve_ix hu (ve_ix hu (ve_var (i := 0)) ve_str) (ve_var (i := 1))))))⟩
theorem ok_longitude (T : Txt P w K mg) : FnOk P w K mg base (L2.CX P w) 4 T.a_longitude T.e_longitude ["sky", "body"] (spD K (clW P w T) W_longitude) := by
  refine fn_okX T.F_longitude sc_longitude (by decide) (fun cdv A outer s H E hr => ?_)
  have hu := hu65 hr
  have tk := takes_of (X := cxOf (L2.CX P w) P w K mg base ["sky", "body", "found", "s", "n", "d"] "longitude" (defScope s_longitude) T.a_longitude cdv A outer s H E) rfl rfl rfl rfl
  exact ⟨_, (vss_cons (vs_set (i := 2) sc_longitude.nd (ve_call (ok_body_of T) (hr.mono (by decide)) rfl T.d_body_of T.F_body_of.kp T.b_body_of tk (va_cons (ve_var (i := 0)) (va_cons (ve_var (i := 1)) va_nil))))
      (vss_cons (vs_asg (ve_ix hu (ve_var (i := 2)) ve_str) (vt_tup rfl (vts_cons (vt_name (i := 3) sc_longitude.nd) (vts_cons (vt_name (i := 4) sc_longitude.nd) (vts_cons (vt_name (i := 5) sc_longitude.nd) vts_nil)))))
      (vss_one (vs_ret (ve_tup (va_cons ve_str (va_cons (ve_tup (va_cons ve_str (va_cons (ve_var (i := 3)) (va_cons (ve_var (i := 4)) (va_cons (ve_var (i := 5)) va_nil))))) (va_cons (ve_call (ok_terms_quantity T) (hr.mono (by decide)) rfl T.d_terms_quantity T.F_terms_quantity.kp T.b_terms_quantity tk (va_cons (ve_ix hu (ve_var (i := 2)) ve_str) va_nil)) va_nil))))))))⟩
theorem ok_latitude (T : Txt P w K mg) : FnOk P w K mg base (L2.CX P w) 4 T.a_latitude T.e_latitude ["sky", "body"] (spD K (clW P w T) W_latitude) := by
  refine fn_okX T.F_latitude sc_latitude (by decide) (fun cdv A outer s H E hr => ?_)
  have hu := hu65 hr
  have tk := takes_of (X := cxOf (L2.CX P w) P w K mg base ["sky", "body"] "latitude" (defScope s_latitude) T.a_latitude cdv A outer s H E) rfl rfl rfl rfl
  exact ⟨_, (vss_one (vs_ret (ve_call (ok_terms_quantity T) (hr.mono (by decide)) rfl T.d_terms_quantity T.F_terms_quantity.kp T.b_terms_quantity tk (va_cons (ve_ix hu (ve_call (ok_body_of T) (hr.mono (by decide)) rfl T.d_body_of T.F_body_of.kp T.b_body_of tk (va_cons (ve_var (i := 0)) (va_cons (ve_var (i := 1)) va_nil))) ve_str) va_nil))))⟩
theorem ok_elongation (T : Txt P w K mg) : FnOk P w K mg base (L2.CX P w) 5 T.a_elongation T.e_elongation ["sky", "first", "second"] (spD K (clW P w T) W_elongation) := by
  refine fn_okX T.F_elongation sc_elongation (by decide) (fun cdv A outer s H E hr => ?_)
  have hu := hu65 hr
  have tk := takes_of (X := cxOf (L2.CX P w) P w K mg base ["sky", "first", "second"] "elongation" (defScope s_elongation) T.a_elongation cdv A outer s H E) rfl rfl rfl rfl
  exact ⟨_, (vss_one (vs_ret (ve_tup (va_cons ve_str (va_cons (ve_call (ok_longitude T) (hr.mono (by decide)) rfl T.d_longitude T.F_longitude.kp T.b_longitude tk (va_cons (ve_var (i := 0)) (va_cons (ve_var (i := 1)) va_nil))) (va_cons (ve_call (ok_longitude T) (hr.mono (by decide)) rfl T.d_longitude T.F_longitude.kp T.b_longitude tk (va_cons (ve_var (i := 0)) (va_cons (ve_var (i := 2)) va_nil))) va_nil))))))⟩
theorem ok_product (T : Txt P w K mg) : FnOk P w K mg base (L2.CX P w) 1 T.a_product T.e_product ["first", "second"] (spD K (clW P w T) W_product) := by
  refine fn_okX T.F_product sc_product (by decide) (fun cdv A outer s H E hr => ?_)
  have hu := hu65 hr
  have tk := takes_of (X := cxOf (L2.CX P w) P w K mg base ["first", "second"] "product" (defScope s_product) T.a_product cdv A outer s H E) rfl rfl rfl rfl
  exact ⟨_, (vss_one (vs_ret (ve_tup (va_cons ve_str (va_cons (ve_var (i := 0)) (va_cons (ve_var (i := 1)) (va_cons (ve_globI rfl T.g_ONE) va_nil)))))))⟩
theorem ok_share (T : Txt P w K mg) : FnOk P w K mg base (L2.CX P w) 1 T.a_share T.e_share ["q", "number"] (spD K (clW P w T) W_share) := by
  refine fn_okX T.F_share sc_share (by decide) (fun cdv A outer s H E hr => ?_)
  have hu := hu65 hr
  have tk := takes_of (X := cxOf (L2.CX P w) P w K mg base ["q", "number"] "share" (defScope s_share) T.a_share cdv A outer s H E) rfl rfl rfl rfl
  exact ⟨_, (vss_one (vs_ret (ve_tup (va_cons ve_str (va_cons (ve_var (i := 0)) (va_cons (ve_var (i := 1)) (va_cons (ve_globI rfl T.g_ONE) va_nil)))))))⟩
theorem ok_coordinates (T : Txt P w K mg) : FnOk P w K mg base (L2.CX P w) 5 T.a_coordinates T.e_coordinates ["sky", "body"] (spD K (clW P w T) W_coordinates) := by
  refine fn_okX T.F_coordinates sc_coordinates (by decide) (fun cdv A outer s H E hr => ?_)
  have hu := hu65 hr
  have tk := takes_of (X := cxOf (L2.CX P w) P w K mg base ["sky", "body", "along", "above"] "coordinates" (defScope s_coordinates) T.a_coordinates cdv A outer s H E) rfl rfl rfl rfl
  exact ⟨_, (vss_cons (vs_set (i := 2) sc_coordinates.nd (ve_call (ok_longitude T) (hr.mono (by decide)) rfl T.d_longitude T.F_longitude.kp T.b_longitude tk (va_cons (ve_var (i := 0)) (va_cons (ve_var (i := 1)) va_nil))))
      (vss_cons (vs_set (i := 3) sc_coordinates.nd (ve_tup (va_cons ve_str (va_cons (ve_tup (va_cons ve_str (va_cons ve_int (va_cons ve_int (va_cons ve_int va_nil))))) (va_cons (ve_call (ok_latitude T) (hr.mono (by decide)) rfl T.d_latitude T.F_latitude.kp T.b_latitude tk (va_cons (ve_var (i := 0)) (va_cons (ve_var (i := 1)) va_nil))) va_nil)))))
      (vss_one (vs_ret (ve_tup (va_cons (ve_call (ok_product T) (hr.mono (by decide)) rfl T.d_product T.F_product.kp T.b_product tk (va_cons (ve_call (ok_cosine T) (hr.mono (by decide)) rfl T.d_cosine T.F_cosine.kp T.b_cosine tk (va_cons (ve_var (i := 3)) va_nil)) (va_cons (ve_call (ok_cosine T) (hr.mono (by decide)) rfl T.d_cosine T.F_cosine.kp T.b_cosine tk (va_cons (ve_var (i := 2)) va_nil)) va_nil))) (va_cons (ve_call (ok_product T) (hr.mono (by decide)) rfl T.d_product T.F_product.kp T.b_product tk (va_cons (ve_call (ok_cosine T) (hr.mono (by decide)) rfl T.d_cosine T.F_cosine.kp T.b_cosine tk (va_cons (ve_var (i := 3)) va_nil)) (va_cons (ve_tup (va_cons ve_str (va_cons (ve_var (i := 2)) va_nil))) va_nil))) (va_cons (ve_tup (va_cons ve_str (va_cons (ve_var (i := 3)) va_nil))) va_nil))))))))⟩
theorem ok_equatorial (T : Txt P w K mg) : FnOk P w K mg base (L2.CX P w) 6 T.a_equatorial T.e_equatorial ["sky", "body"] (spD K (clW P w T) W_equatorial) := by
  refine fn_okX T.F_equatorial sc_equatorial (by decide) (fun cdv A outer s H E hr => ?_)
  have hu := hu65 hr
  have tk := takes_of (X := cxOf (L2.CX P w) P w K mg base ["sky", "body", "x", "s", "z", "sine", "cosine_of_tilt", "y", "w"] "equatorial" (defScope s_equatorial) T.a_equatorial cdv A outer s H E) rfl rfl rfl rfl
  exact ⟨_, (vss_cons (vs_asg (ve_call (ok_coordinates T) (hr.mono (by decide)) rfl T.d_coordinates T.F_coordinates.kp T.b_coordinates tk (va_cons (ve_var (i := 0)) (va_cons (ve_var (i := 1)) va_nil))) (vt_tup rfl (vts_cons (vt_name (i := 2) sc_equatorial.nd) (vts_cons (vt_name (i := 3) sc_equatorial.nd) (vts_cons (vt_name (i := 4) sc_equatorial.nd) vts_nil)))))
      (vss_cons (vs_set (i := 5) sc_equatorial.nd (ve_call (ok_wave T) (hr.mono (by decide)) rfl T.d_wave T.F_wave.kp T.b_wave tk (va_cons (ve_ix hu (ve_var (i := 0)) ve_str) va_nil)))
      (vss_cons (vs_set (i := 6) sc_equatorial.nd (ve_call (ok_wave T) (hr.mono (by decide)) rfl T.d_wave T.F_wave.kp T.b_wave tk (va_cons (ve_add (ve_ix hu (ve_var (i := 0)) ve_str) (ve_globI rfl T.g_QUARTER)) va_nil)))
      (vss_cons (vs_set (i := 7) sc_equatorial.nd (ve_tup (va_cons ve_str (va_cons (ve_call (ok_share T) (hr.mono (by decide)) rfl T.d_share T.F_share.kp T.b_share tk (va_cons (ve_var (i := 3)) (va_cons (ve_var (i := 6)) va_nil))) (va_cons (ve_call (ok_share T) (hr.mono (by decide)) rfl T.d_share T.F_share.kp T.b_share tk (va_cons (ve_var (i := 4)) (va_cons (ve_neg (ve_var (i := 5))) va_nil))) va_nil)))))
      (vss_cons (vs_set (i := 8) sc_equatorial.nd (ve_tup (va_cons ve_str (va_cons (ve_call (ok_share T) (hr.mono (by decide)) rfl T.d_share T.F_share.kp T.b_share tk (va_cons (ve_var (i := 3)) (va_cons (ve_var (i := 5)) va_nil))) (va_cons (ve_call (ok_share T) (hr.mono (by decide)) rfl T.d_share T.F_share.kp T.b_share tk (va_cons (ve_var (i := 4)) (va_cons (ve_var (i := 6)) va_nil))) va_nil)))))
      (vss_one (vs_ret (ve_tup (va_cons (ve_var (i := 2)) (va_cons (ve_var (i := 7)) (va_cons (ve_var (i := 8)) va_nil)))))))))))⟩
theorem ok_turned (T : Txt P w K mg) : FnOk P w K mg base (L2.CX P w) 1 T.a_turned T.e_turned ["sky", "place"] (spD K (clW P w T) W_turned) := by
  refine fn_okX T.F_turned sc_turned (by decide) (fun cdv A outer s H E hr => ?_)
  have hu := hu65 hr
  have tk := takes_of (X := cxOf (L2.CX P w) P w K mg base ["sky", "place", "s", "n", "d"] "turned" (defScope s_turned) T.a_turned cdv A outer s H E) rfl rfl rfl rfl
  exact ⟨_, (vss_cons (vs_asg (ve_ix hu (ve_var (i := 0)) ve_str) (vt_tup rfl (vts_cons (vt_name (i := 2) sc_turned.nd) (vts_cons (vt_name (i := 3) sc_turned.nd) (vts_cons (vt_name (i := 4) sc_turned.nd) vts_nil)))))
      (vss_one (vs_ret (ve_tup (va_cons ve_str (va_cons (ve_add (ve_var (i := 2)) (ve_ix hu (ve_var (i := 1)) ve_int)) (va_cons (ve_var (i := 3)) (va_cons (ve_var (i := 4)) va_nil))))))))⟩
theorem ok_altitude (T : Txt P w K mg) : FnOk P w K mg base (L2.CX P w) 7 T.a_altitude T.e_altitude ["sky", "place", "body"] (spD K (clW P w T) W_altitude) := by
  refine fn_okX T.F_altitude sc_altitude (by decide) (fun cdv A outer s H E hr => ?_)
  have hu := hu65 hr
  have tk := takes_of (X := cxOf (L2.CX P w) P w K mg base ["sky", "place", "body", "x", "y", "w", "angle", "sine", "cosine_of_place"] "altitude" (defScope s_altitude) T.a_altitude cdv A outer s H E) rfl rfl rfl rfl
  exact ⟨_, (vss_cons (vs_asg (ve_call (ok_equatorial T) (hr.mono (by decide)) rfl T.d_equatorial T.F_equatorial.kp T.b_equatorial tk (va_cons (ve_var (i := 0)) (va_cons (ve_var (i := 2)) va_nil))) (vt_tup rfl (vts_cons (vt_name (i := 3) sc_altitude.nd) (vts_cons (vt_name (i := 4) sc_altitude.nd) (vts_cons (vt_name (i := 5) sc_altitude.nd) vts_nil)))))
      (vss_cons (vs_set (i := 6) sc_altitude.nd (ve_call (ok_turned T) (hr.mono (by decide)) rfl T.d_turned T.F_turned.kp T.b_turned tk (va_cons (ve_var (i := 0)) (va_cons (ve_var (i := 1)) va_nil))))
      (vss_cons (vs_set (i := 7) sc_altitude.nd (ve_call (ok_wave T) (hr.mono (by decide)) rfl T.d_wave T.F_wave.kp T.b_wave tk (va_cons (ve_ix hu (ve_var (i := 1)) ve_int) va_nil)))
      (vss_cons (vs_set (i := 8) sc_altitude.nd (ve_call (ok_wave T) (hr.mono (by decide)) rfl T.d_wave T.F_wave.kp T.b_wave tk (va_cons (ve_add (ve_ix hu (ve_var (i := 1)) ve_int) (ve_globI rfl T.g_QUARTER)) va_nil)))
      (vss_one (vs_ret (ve_tup (va_cons ve_str (va_cons (ve_call (ok_share T) (hr.mono (by decide)) rfl T.d_share T.F_share.kp T.b_share tk (va_cons (ve_call (ok_product T) (hr.mono (by decide)) rfl T.d_product T.F_product.kp T.b_product tk (va_cons (ve_var (i := 3)) (va_cons (ve_call (ok_cosine T) (hr.mono (by decide)) rfl T.d_cosine T.F_cosine.kp T.b_cosine tk (va_cons (ve_var (i := 6)) va_nil)) va_nil))) (va_cons (ve_var (i := 8)) va_nil))) (va_cons (ve_call (ok_share T) (hr.mono (by decide)) rfl T.d_share T.F_share.kp T.b_share tk (va_cons (ve_call (ok_product T) (hr.mono (by decide)) rfl T.d_product T.F_product.kp T.b_product tk (va_cons (ve_var (i := 4)) (va_cons (ve_tup (va_cons ve_str (va_cons (ve_var (i := 6)) va_nil))) va_nil))) (va_cons (ve_var (i := 8)) va_nil))) (va_cons (ve_call (ok_share T) (hr.mono (by decide)) rfl T.d_share T.F_share.kp T.b_share tk (va_cons (ve_var (i := 5)) (va_cons (ve_var (i := 7)) va_nil))) va_nil)))))))))))⟩
theorem ok_need_bodies (T : Txt P w K mg) : FnOk P w K mg base (L2.CX P w) 3 T.a_need_bodies T.e_need_bodies ["sky", "bodies"] (spD K (clW P w T) W_need_bodies) := by
  refine fn_okX T.F_need_bodies sc_need_bodies (by decide) (fun cdv A outer s H E hr => ?_)
  have hu := hu65 hr
  have tk := takes_of (X := cxOf (L2.CX P w) P w K mg base ["sky", "bodies", "body"] "need_bodies" (defScope s_need_bodies) T.a_need_bodies cdv A outer s H E) rfl rfl rfl rfl
  exact ⟨_, (vss_one (vs_fgt (js := [2]) (vs_for (passes_of rfl) rfl (vi_seq (ve_var (i := 1))) (vt_name (i := 2) sc_need_bodies.nd) (vss_cons (vs_if (vb_cmp (cm_notIn hu) (ve_var (i := 2)) (ve_ix hu (ve_var (i := 0)) ve_str)) (vss_one (vs_raise (c := "SkyError") T.oex_SkyError T.iC_SkyError T.tI_SkyError (T.ok_SkyError w base) (hr.mono (by decide)) T.b_SkyError rfl T.c_SkyError (hc_SkyError (P := P) (w := w) T) tk rfl (va_cons ve_str (va_cons (ve_var (i := 2)) va_nil)))) vss_nil)
      (vss_fgt (js := [1, 2]) vss_nil)))))⟩
theorem ok_nearness (T : Txt P w K mg) : FnOk P w K mg base (L2.CX P w) 6 T.a_nearness T.e_nearness ["sky", "first", "second", "limit"] (spD K (clW P w T) W_nearness) := by
  refine fn_okX T.F_nearness sc_nearness (by decide) (fun cdv A outer s H E hr => ?_)
  have hu := hu65 hr
  have tk := takes_of (X := cxOf (L2.CX P w) P w K mg base ["sky", "first", "second", "limit", "squares", "one", "other", "gap"] "nearness" (defScope s_nearness) T.a_nearness cdv A outer s H E) rfl rfl rfl rfl
  exact ⟨_, (vss_cons (vs_expr (ve_call (ok_need_bodies T) (hr.mono (by decide)) rfl T.d_need_bodies T.F_need_bodies.kp T.b_need_bodies tk (va_cons (ve_var (i := 0)) (va_cons (ve_tup (va_cons (ve_var (i := 1)) (va_cons (ve_var (i := 2)) va_nil))) va_nil))))
      (vss_cons (vs_own (i := 4) sc_nearness.nd (vn_lst va_nil))
      (vss_cons (vs_fgt (js := [5, 6, 7]) (vs_for (passes_of rfl) rfl (vi_zip rfl T.z_zip (va_cons (ve_call (ok_coordinates T) (hr.mono (by decide)) rfl T.d_coordinates T.F_coordinates.kp T.b_coordinates tk (va_cons (ve_var (i := 0)) (va_cons (ve_var (i := 1)) va_nil))) (va_cons (ve_call (ok_coordinates T) (hr.mono (by decide)) rfl T.d_coordinates T.F_coordinates.kp T.b_coordinates tk (va_cons (ve_var (i := 0)) (va_cons (ve_var (i := 2)) va_nil))) va_nil))) (vt_tup rfl (vts_cons (vt_name (i := 5) sc_nearness.nd) (vts_cons (vt_name (i := 6) sc_nearness.nd) vts_nil))) (vss_cons (vs_set (i := 7) sc_nearness.nd (ve_tup (va_cons ve_str (va_cons (ve_var (i := 5)) (va_cons (ve_call (ok_negative T) (hr.mono (by decide)) rfl T.d_negative T.F_negative.kp T.b_negative tk (va_cons (ve_var (i := 6)) va_nil)) va_nil)))))
      (vss_cons (vs_app (i := 4) (ve_call (ok_product T) (hr.mono (by decide)) rfl T.d_product T.F_product.kp T.b_product tk (va_cons (ve_var (i := 7)) (va_cons (ve_var (i := 7)) va_nil))))
      (vss_fgt (js := [0, 1, 2, 5, 6, 7]) vss_nil)))))
      (vss_one (vs_frz (i := 4) (vs_ret (ve_tup (va_cons ve_str (va_cons (ve_tup (va_cons ve_str (va_cons (ve_div (ve_mul (ve_var (i := 3)) (ve_var (i := 3))) (ve_globI rfl T.g_ONE)) va_nil))) (va_cons (ve_call (ok_negative T) (hr.mono (by decide)) rfl T.d_negative T.F_negative.kp T.b_negative tk (va_cons (ve_tup (va_cons ve_str (va_star (ve_var (i := 4)) va_nil))) va_nil)) va_nil))))))))))⟩
theorem ok_east (T : Txt P w K mg) : FnOk P w K mg base (L2.CX P w) 7 T.a_east T.e_east ["sky", "place", "body"] (spD K (clW P w T) W_east) := by
  refine fn_okX T.F_east sc_east (by decide) (fun cdv A outer s H E hr => ?_)
  have hu := hu65 hr
  have tk := takes_of (X := cxOf (L2.CX P w) P w K mg base ["sky", "place", "body", "x", "y", "_", "angle"] "east" (defScope s_east) T.a_east cdv A outer s H E) rfl rfl rfl rfl
  exact ⟨_, (vss_cons (vs_asg (ve_call (ok_equatorial T) (hr.mono (by decide)) rfl T.d_equatorial T.F_equatorial.kp T.b_equatorial tk (va_cons (ve_var (i := 0)) (va_cons (ve_var (i := 2)) va_nil))) (vt_tup rfl (vts_cons (vt_name (i := 3) sc_east.nd) (vts_cons (vt_name (i := 4) sc_east.nd) (vts_cons (vt_name (i := 5) sc_east.nd) vts_nil)))))
      (vss_cons (vs_set (i := 6) sc_east.nd (ve_call (ok_turned T) (hr.mono (by decide)) rfl T.d_turned T.F_turned.kp T.b_turned tk (va_cons (ve_var (i := 0)) (va_cons (ve_var (i := 1)) va_nil))))
      (vss_one (vs_ret (ve_tup (va_cons ve_str (va_cons (ve_call (ok_product T) (hr.mono (by decide)) rfl T.d_product T.F_product.kp T.b_product tk (va_cons (ve_var (i := 4)) (va_cons (ve_call (ok_cosine T) (hr.mono (by decide)) rfl T.d_cosine T.F_cosine.kp T.b_cosine tk (va_cons (ve_var (i := 6)) va_nil)) va_nil))) (va_cons (ve_call (ok_negative T) (hr.mono (by decide)) rfl T.d_negative T.F_negative.kp T.b_negative tk (va_cons (ve_call (ok_product T) (hr.mono (by decide)) rfl T.d_product T.F_product.kp T.b_product tk (va_cons (ve_var (i := 3)) (va_cons (ve_tup (va_cons ve_str (va_cons (ve_var (i := 6)) va_nil))) va_nil))) va_nil)) va_nil))))))))⟩
theorem ok_south (T : Txt P w K mg) : FnOk P w K mg base (L2.CX P w) 7 T.a_south T.e_south ["sky", "place", "body"] (spD K (clW P w T) W_south) := by
  refine fn_okX T.F_south sc_south (by decide) (fun cdv A outer s H E hr => ?_)
  have hu := hu65 hr
  have tk := takes_of (X := cxOf (L2.CX P w) P w K mg base ["sky", "place", "body", "x", "y", "_", "angle"] "south" (defScope s_south) T.a_south cdv A outer s H E) rfl rfl rfl rfl
  exact ⟨_, (vss_cons (vs_asg (ve_call (ok_equatorial T) (hr.mono (by decide)) rfl T.d_equatorial T.F_equatorial.kp T.b_equatorial tk (va_cons (ve_var (i := 0)) (va_cons (ve_var (i := 2)) va_nil))) (vt_tup rfl (vts_cons (vt_name (i := 3) sc_south.nd) (vts_cons (vt_name (i := 4) sc_south.nd) (vts_cons (vt_name (i := 5) sc_south.nd) vts_nil)))))
      (vss_cons (vs_set (i := 6) sc_south.nd (ve_call (ok_turned T) (hr.mono (by decide)) rfl T.d_turned T.F_turned.kp T.b_turned tk (va_cons (ve_var (i := 0)) (va_cons (ve_var (i := 1)) va_nil))))
      (vss_one (vs_ret (ve_tup (va_cons ve_str (va_cons (ve_call (ok_product T) (hr.mono (by decide)) rfl T.d_product T.F_product.kp T.b_product tk (va_cons (ve_var (i := 3)) (va_cons (ve_call (ok_cosine T) (hr.mono (by decide)) rfl T.d_cosine T.F_cosine.kp T.b_cosine tk (va_cons (ve_var (i := 6)) va_nil)) va_nil))) (va_cons (ve_call (ok_product T) (hr.mono (by decide)) rfl T.d_product T.F_product.kp T.b_product tk (va_cons (ve_var (i := 4)) (va_cons (ve_tup (va_cons ve_str (va_cons (ve_var (i := 6)) va_nil))) va_nil))) va_nil))))))))⟩
theorem ok_u_law_start (T : Txt P w K mg) : FnOk P w K mg base (L2.CX P w) 1 T.a_u_law_start T.e_u_law_start ["script"] (spD K (clW P w T) wStart) := start_view rfl (ok_start0 T.F_u_law_start T.z_len T.z_int T.z_abs)
theorem ok_u_law_draw (T : Txt P w K mg) : FnOk P w K mg base (L2.CX P w) 1 T.a_u_law_draw T.e_u_law_draw ["state", "bound"] (spD K (clW P w T) wDraw) := draw_view rfl (ok_draw0 T.F_u_law_draw T.z_len T.z_int)
theorem ok_u_law_pick (T : Txt P w K mg) : FnOk P w K mg base (L2.CX P w) 2 T.a_u_law_pick T.e_u_law_pick ["state", "things"] (spD K (clW P w T) W_u_law_pick) := by
  refine fn_okX T.F_u_law_pick sc_u_law_pick (by decide) (fun cdv A outer s H E hr => ?_)
  have hu := hu65 hr
  have tk := takes_of (X := cxOf (L2.CX P w) P w K mg base ["state", "things"] "_law_pick" (defScope s_u_law_pick) T.a_u_law_pick cdv A outer s H E) rfl rfl rfl rfl
  exact ⟨_, (vss_one (vs_ret (ve_ix hu (ve_var (i := 1)) (ve_call (ok_u_law_draw T) (hr.mono (by decide)) rfl T.d_u_law_draw T.F_u_law_draw.kp T.b_u_law_draw tk (va_cons (ve_var (i := 0)) (va_cons (ve_blt bi_len rfl T.z_len (by decide +kernel) (va_cons (ve_var (i := 1)) va_nil)) va_nil))))))⟩
theorem ok_u_law_is (T : Txt P w K mg) : FnOk P w K mg base (L2.CX P w) 1 T.a_u_law_is T.e_u_law_is ["actual", "due"] (spD K (clW P w T) W_u_law_is) := by
  refine fn_okX T.F_u_law_is sc_u_law_is (by decide) (fun cdv A outer s H E hr => ?_)
  have hu := hu65 hr
  have tk := takes_of (X := cxOf (L2.CX P w) P w K mg base ["actual", "due"] "_law_is" (defScope s_u_law_is) T.a_u_law_is cdv A outer s H E) rfl rfl rfl rfl
  exact ⟨_, (vss_one (vs_ret (ve_and (ve_isi rfl T.z_isinstance (by decide +kernel) rfl T.z_bool (by decide +kernel) (by decide) (ve_var (i := 0))) (ve_one (ve_cmp (cm_eq hu) (ve_var (i := 0)) (ve_var (i := 1)))))))⟩
theorem ok_u_law_arch (T : Txt P w K mg) : FnOk P w K mg base (L2.CX P w) 1 T.a_u_law_arch T.e_u_law_arch ["u"] (spD K (clW P w T) W_u_law_arch) := by
  refine fn_okX T.F_u_law_arch sc_u_law_arch (by decide) (fun cdv A outer s H E hr => ?_)
  have hu := hu65 hr
  have tk := takes_of (X := cxOf (L2.CX P w) P w K mg base ["u", "q"] "_law_arch" (defScope s_u_law_arch) T.a_u_law_arch cdv A outer s H E) rfl rfl rfl rfl
  exact ⟨_, (vss_cons (vs_set (i := 1) sc_u_law_arch.nd ve_int)
      (vss_one (vs_ret (ve_div (ve_mul (ve_mul ve_int (ve_var (i := 0))) (ve_sub (ve_mul (ve_mul ve_int (ve_var (i := 1))) (ve_var (i := 1))) (ve_mul (ve_var (i := 0)) (ve_var (i := 0))))) (ve_mul (ve_mul (ve_mul ve_int (ve_var (i := 1))) (ve_var (i := 1))) (ve_var (i := 1)))))))⟩
theorem ok_u_law_wave (T : Txt P w K mg) : FnOk P w K mg base (L2.CX P w) 2 T.a_u_law_wave T.e_u_law_wave ["x"] (spD K (clW P w T) W_u_law_wave) := by
  refine fn_okX T.F_u_law_wave sc_u_law_wave (by decide) (fun cdv A outer s H E hr => ?_)
  have hu := hu65 hr
  have tk := takes_of (X := cxOf (L2.CX P w) P w K mg base ["x"] "_law_wave" (defScope s_u_law_wave) T.a_u_law_wave cdv A outer s H E) rfl rfl rfl rfl
  exact ⟨_, (vss_cons (vs_set (i := 0) sc_u_law_wave.nd (ve_mod (ve_cls bi_int rfl T.z_int (by decide +kernel) (va_cons (ve_var (i := 0)) va_nil)) ve_int))
      (vss_cons (vs_if (vb_cmp (cm_ge hu) (ve_var (i := 0)) ve_int) (vss_one (vs_ret (ve_neg (ve_call (ok_u_law_arch T) (hr.mono (by decide)) rfl T.d_u_law_arch T.F_u_law_arch.kp T.b_u_law_arch tk (va_cons (ve_blt (bi_min rfl) rfl T.z_min (by decide +kernel) (va_cons (ve_sub (ve_var (i := 0)) ve_int) (va_cons (ve_sub ve_int (ve_var (i := 0))) va_nil))) va_nil))))) vss_nil)
      (vss_one (vs_ret (ve_call (ok_u_law_arch T) (hr.mono (by decide)) rfl T.d_u_law_arch T.F_u_law_arch.kp T.b_u_law_arch tk (va_cons (ve_blt (bi_min rfl) rfl T.z_min (by decide +kernel) (va_cons (ve_var (i := 0)) (va_cons (ve_sub ve_int (ve_var (i := 0))) va_nil))) va_nil))))))⟩
theorem ok_u_law_motion (T : Txt P w K mg) : FnOk P w K mg base (L2.CX P w) 3 T.a_u_law_motion T.e_u_law_motion ["state"] (spD K (clW P w T) W_u_law_motion) := by
  refine fn_okX T.F_u_law_motion sc_u_law_motion (by decide) (fun cdv A outer s H E hr => ?_)
  have hu := hu65 hr
  have tk := takes_of (X := cxOf (L2.CX P w) P w K mg base ["state", "speed"] "_law_motion" (defScope s_u_law_motion) T.a_u_law_motion cdv A outer s H E) rfl rfl rfl rfl
  exact ⟨_, (vss_cons (vs_set (i := 1) sc_u_law_motion.nd (ve_mul (ve_call (ok_u_law_pick T) (hr.mono (by decide)) rfl T.d_u_law_pick T.F_u_law_pick.kp T.b_u_law_pick tk (va_cons (ve_var (i := 0)) (va_cons (VN.e (vn_lst (va_cons (ve_neg ve_int) (va_cons ve_int (va_cons ve_int (va_cons ve_int va_nil)))))) va_nil))) (ve_add ve_int (ve_call (ok_u_law_draw T) (hr.mono (by decide)) rfl T.d_u_law_draw T.F_u_law_draw.kp T.b_u_law_draw tk (va_cons (ve_var (i := 0)) (va_cons (ve_call (ok_u_law_pick T) (hr.mono (by decide)) rfl T.d_u_law_pick T.F_u_law_pick.kp T.b_u_law_pick tk (va_cons (ve_var (i := 0)) (va_cons (VN.e (vn_lst (va_cons ve_int (va_cons ve_int (va_cons ve_int va_nil))))) va_nil))) va_nil))))))
      (vss_one (vs_ret (ve_tup (va_cons (ve_call (ok_u_law_draw T) (hr.mono (by decide)) rfl T.d_u_law_draw T.F_u_law_draw.kp T.b_u_law_draw tk (va_cons (ve_var (i := 0)) (va_cons ve_int va_nil))) (va_cons (ve_var (i := 1)) (va_cons (ve_call (ok_u_law_pick T) (hr.mono (by decide)) rfl T.d_u_law_pick T.F_u_law_pick.kp T.b_u_law_pick tk (va_cons (ve_var (i := 0)) (va_cons (VN.e (vn_lst (va_cons ve_int (va_cons ve_int (va_cons ve_int va_nil))))) va_nil))) va_nil)))))))⟩
theorem ok_u_law_terms (T : Txt P w K mg) : FnOk P w K mg base (L2.CX P w) 4 T.a_u_law_terms T.e_u_law_terms ["state", "most", "size"] (spD K (clW P w T) W_u_law_terms) := by
  refine fn_okX T.F_u_law_terms sc_u_law_terms (by decide) (fun cdv A outer s H E hr => ?_)
  have hu := hu65 hr
  have tk := takes_of (X := cxOf (L2.CX P w) P w K mg base ["state", "most", "size", "terms", "k"] "_law_terms" (defScope s_u_law_terms) T.a_u_law_terms cdv A outer s H E) rfl rfl rfl rfl
  exact ⟨_, (vss_cons (vs_own (i := 3) sc_u_law_terms.nd (vn_lst va_nil))
      (vss_cons (vs_fgt (js := [4]) (vs_for (passes_of rfl) rfl (vi_rng1 rfl T.z_range (va_cons (ve_call (ok_u_law_draw T) (hr.mono (by decide)) rfl T.d_u_law_draw T.F_u_law_draw.kp T.b_u_law_draw tk (va_cons (ve_var (i := 0)) (va_cons (ve_add (ve_var (i := 1)) ve_int) va_nil))) va_nil)) (vt_name (i := 4) sc_u_law_terms.nd) (vss_cons (vs_app (i := 3) (ve_add (ve_tup (va_cons (ve_sub (ve_call (ok_u_law_draw T) (hr.mono (by decide)) rfl T.d_u_law_draw T.F_u_law_draw.kp T.b_u_law_draw tk (va_cons (ve_var (i := 0)) (va_cons (ve_add (ve_mul ve_int (ve_var (i := 2))) ve_int) va_nil))) (ve_var (i := 2))) va_nil)) (ve_call (ok_u_law_motion T) (hr.mono (by decide)) rfl T.d_u_law_motion T.F_u_law_motion.kp T.b_u_law_motion tk (va_cons (ve_var (i := 0)) va_nil))))
      (vss_fgt (js := [1, 4]) vss_nil))))
      (vss_one (vs_frz (i := 3) (vs_ret (ve_var (i := 3)))))))⟩
theorem ok_u_law_body (T : Txt P w K mg) : FnOk P w K mg base (L2.CX P w) 5 T.a_u_law_body T.e_u_law_body ["state"] (spD K (clW P w T) W_u_law_body) := by
  refine fn_okX T.F_u_law_body sc_u_law_body (by decide) (fun cdv A outer s H E hr => ?_)
  have hu := hu65 hr
  have tk := takes_of (X := cxOf (L2.CX P w) P w K mg base ["state"] "_law_body" (defScope s_u_law_body) T.a_u_law_body cdv A outer s H E) rfl rfl rfl rfl
  exact ⟨_, (vss_one (vs_ret (VN.e (vn_disp (vpr_cons ve_str (ve_call (ok_u_law_motion T) (hr.mono (by decide)) rfl T.d_u_law_motion T.F_u_law_motion.kp T.b_u_law_motion tk (va_cons (ve_var (i := 0)) va_nil)) (vpr_cons ve_str (ve_call (ok_u_law_terms T) (hr.mono (by decide)) rfl T.d_u_law_terms T.F_u_law_terms.kp T.b_u_law_terms tk (va_cons (ve_var (i := 0)) (va_cons ve_int (va_cons ve_int va_nil)))) (vpr_cons ve_str (ve_call (ok_u_law_terms T) (hr.mono (by decide)) rfl T.d_u_law_terms T.F_u_law_terms.kp T.b_u_law_terms tk (va_cons (ve_var (i := 0)) (va_cons ve_int (va_cons ve_int va_nil)))) vpr_nil)))))))⟩
theorem ok_u_law_sky (T : Txt P w K mg) : FnOk P w K mg base (L2.CX P w) 6 T.a_u_law_sky T.e_u_law_sky ["state", "many"] (spD K (clW P w T) W_u_law_sky) := by
  refine fn_okX T.F_u_law_sky sc_u_law_sky (by decide) (fun cdv A outer s H E hr => ?_)
  have hu := hu65 hr
  have tk := takes_of (X := cxOf (L2.CX P w) P w K mg base ["state", "many", "names", "bodies", "k", "sky"] "_law_sky" (defScope s_u_law_sky) T.a_u_law_sky cdv A outer s H E) rfl rfl rfl rfl
  exact ⟨_, (vss_cons (vs_set (i := 2) sc_u_law_sky.nd (VN.e (vn_lst (va_cons ve_str (va_cons ve_str (va_cons ve_str (va_cons ve_str (va_cons ve_str va_nil))))))))
      (vss_cons (vs_own (i := 3) sc_u_law_sky.nd vn_newK)
      (vss_cons (vs_fgt (js := [4, 5]) (vs_for (passes_of rfl) rfl (vi_rng1 rfl T.z_range (va_cons (ve_var (i := 1)) va_nil)) (vt_name (i := 4) sc_u_law_sky.nd) (vss_cons (vs_putK (i := 3) hu (ve_ix hu (ve_var (i := 2)) (ve_var (i := 4))) (ve_call (ok_u_law_body T) (hr.mono (by decide)) rfl T.d_u_law_body T.F_u_law_body.kp T.b_u_law_body tk (va_cons (ve_var (i := 0)) va_nil)))
      (vss_fgt (js := [1, 4, 5]) vss_nil))))
      (vss_cons (vs_frz (i := 3) (vs_own (i := 5) sc_u_law_sky.nd (vn_disp (vpr_cons ve_str (ve_var (i := 3)) (vpr_cons ve_str (ve_call (ok_u_law_pick T) (hr.mono (by decide)) rfl T.d_u_law_pick T.F_u_law_pick.kp T.b_u_law_pick tk (va_cons (ve_var (i := 0)) (va_cons (VN.e (vn_lst (va_cons ve_int (va_cons ve_int (va_cons ve_int (va_cons (ve_call (ok_u_law_draw T) (hr.mono (by decide)) rfl T.d_u_law_draw T.F_u_law_draw.kp T.b_u_law_draw tk (va_cons (ve_var (i := 0)) (va_cons ve_int va_nil))) va_nil)))))) va_nil))) vpr_nil)))))
      (vss_cons (vs_putK (i := 5) hu ve_str (ve_call (ok_u_law_motion T) (hr.mono (by decide)) rfl T.d_u_law_motion T.F_u_law_motion.kp T.b_u_law_motion tk (va_cons (ve_var (i := 0)) va_nil)))
      (vss_one (vs_frz (i := 5) (vs_ret (ve_var (i := 5))))))))))⟩
theorem ok_u_law_place (T : Txt P w K mg) : FnOk P w K mg base (L2.CX P w) 3 T.a_u_law_place T.e_u_law_place ["state"] (spD K (clW P w T) W_u_law_place) := by
  refine fn_okX T.F_u_law_place sc_u_law_place (by decide) (fun cdv A outer s H E hr => ?_)
  have hu := hu65 hr
  have tk := takes_of (X := cxOf (L2.CX P w) P w K mg base ["state", "north"] "_law_place" (defScope s_u_law_place) T.a_u_law_place cdv A outer s H E) rfl rfl rfl rfl
  exact ⟨_, (vss_cons (vs_set (i := 1) sc_u_law_place.nd (ve_call (ok_u_law_pick T) (hr.mono (by decide)) rfl T.d_u_law_pick T.F_u_law_pick.kp T.b_u_law_pick tk (va_cons (ve_var (i := 0)) (va_cons (VN.e (vn_lst (va_cons ve_int (va_cons ve_int (va_cons (ve_neg ve_int) (va_cons (ve_sub (ve_call (ok_u_law_draw T) (hr.mono (by decide)) rfl T.d_u_law_draw T.F_u_law_draw.kp T.b_u_law_draw tk (va_cons (ve_var (i := 0)) (va_cons ve_int va_nil))) ve_int) va_nil)))))) va_nil))))
      (vss_one (vs_ret (ve_tup (va_cons (ve_var (i := 1)) (va_cons (ve_sub (ve_call (ok_u_law_draw T) (hr.mono (by decide)) rfl T.d_u_law_draw T.F_u_law_draw.kp T.b_u_law_draw tk (va_cons (ve_var (i := 0)) (va_cons ve_int va_nil))) ve_int) va_nil))))))⟩
theorem ok_u_law_terms_q (T : Txt P w K mg) : FnOk P w K mg base (L2.CX P w) 1 T.a_u_law_terms_q T.e_u_law_terms_q ["terms"] (spD K (clW P w T) W_u_law_terms_q) := by
  refine fn_okX T.F_u_law_terms_q sc_u_law_terms_q (by decide) (fun cdv A outer s H E hr => ?_)
  have hu := hu65 hr
  have tk := takes_of (X := cxOf (L2.CX P w) P w K mg base ["terms", "term"] "_law_terms_q" (defScope s_u_law_terms_q) T.a_u_law_terms_q cdv A outer s H E) rfl rfl rfl rfl
  exact ⟨_, (vss_cons (vs_if (vb_cmp (cm_eq hu) (ve_blt bi_len rfl T.z_len (by decide +kernel) (va_cons (ve_var (i := 0)) va_nil)) ve_int) (vss_one (vs_ret (ve_tup (va_cons ve_str (va_cons ve_int va_nil))))) vss_nil)
      (vss_one (vs_ret (ve_add (ve_tup (va_cons ve_str va_nil)) (ve_cls bi_tuple rfl T.z_tuple (by decide +kernel) (va_cons (VN.e (vn_lc (own := [("term", 1)]) rfl sc_u_law_terms_q.nd (vi_seq (ve_var (i := 0))) (blkOk_by (N := ["terms", "term"]) (sc := defScope s_u_law_terms_q) (by decide +kernel)) (fun _ _ _ _ _ => (vt_name (i := 1) sc_u_law_terms_q.nd)) (fun _ _ _ _ _ => vp_nil) (fun _ _ _ _ _ => (ve_tup (va_cons ve_str (va_cons (ve_tup (va_cons ve_str (va_cons (ve_add (ve_tup (va_cons ve_str va_nil)) (ve_slice (ve_var (i := 1)) (vo_S ve_int) vo_N)) va_nil))) (va_cons (ve_ix hu (ve_var (i := 1)) ve_int) (va_cons ve_int va_nil)))))))) va_nil))))))⟩
theorem ok_u_law_longitude (T : Txt P w K mg) : FnOk P w K mg base (L2.CX P w) 2 T.a_u_law_longitude T.e_u_law_longitude ["sky", "body"] (spD K (clW P w T) W_u_law_longitude) := by
  refine fn_okX T.F_u_law_longitude sc_u_law_longitude (by decide) (fun cdv A outer s H E hr => ?_)
  have hu := hu65 hr
  have tk := takes_of (X := cxOf (L2.CX P w) P w K mg base ["sky", "body", "one"] "_law_longitude" (defScope s_u_law_longitude) T.a_u_law_longitude cdv A outer s H E) rfl rfl rfl rfl
  exact ⟨_, (vss_cons (vs_set (i := 2) sc_u_law_longitude.nd (ve_ix hu (ve_ix hu (ve_var (i := 0)) ve_str) (ve_var (i := 1))))
      (vss_one (vs_ret (ve_tup (va_cons ve_str (va_cons (ve_add (ve_tup (va_cons ve_str va_nil)) (ve_ix hu (ve_var (i := 2)) ve_str)) (va_cons (ve_call (ok_u_law_terms_q T) (hr.mono (by decide)) rfl T.d_u_law_terms_q T.F_u_law_terms_q.kp T.b_u_law_terms_q tk (va_cons (ve_ix hu (ve_var (i := 2)) ve_str) va_nil)) va_nil)))))))⟩
theorem ok_u_law_latitude (T : Txt P w K mg) : FnOk P w K mg base (L2.CX P w) 2 T.a_u_law_latitude T.e_u_law_latitude ["sky", "body"] (spD K (clW P w T) W_u_law_latitude) := by
  refine fn_okX T.F_u_law_latitude sc_u_law_latitude (by decide) (fun cdv A outer s H E hr => ?_)
  have hu := hu65 hr
  have tk := takes_of (X := cxOf (L2.CX P w) P w K mg base ["sky", "body"] "_law_latitude" (defScope s_u_law_latitude) T.a_u_law_latitude cdv A outer s H E) rfl rfl rfl rfl
  exact ⟨_, (vss_one (vs_ret (ve_call (ok_u_law_terms_q T) (hr.mono (by decide)) rfl T.d_u_law_terms_q T.F_u_law_terms_q.kp T.b_u_law_terms_q tk (va_cons (ve_ix hu (ve_ix hu (ve_ix hu (ve_var (i := 0)) ve_str) (ve_var (i := 1))) ve_str) va_nil))))⟩
theorem ok_u_law_ahead (T : Txt P w K mg) : FnOk P w K mg base (L2.CX P w) 1 T.a_u_law_ahead T.e_u_law_ahead ["a"] (spD K (clW P w T) W_u_law_ahead) := by
  refine fn_okX T.F_u_law_ahead sc_u_law_ahead (by decide) (fun cdv A outer s H E hr => ?_)
  have hu := hu65 hr
  have tk := takes_of (X := cxOf (L2.CX P w) P w K mg base ["a"] "_law_ahead" (defScope s_u_law_ahead) T.a_u_law_ahead cdv A outer s H E) rfl rfl rfl rfl
  exact ⟨_, (vss_one (vs_ret (ve_tup (va_cons ve_str (va_cons (ve_tup (va_cons ve_str (va_cons (ve_var (i := 0)) (va_cons (ve_tup (va_cons ve_str (va_cons ve_int va_nil))) va_nil)))) va_nil)))))⟩
theorem ok_u_law_times (T : Txt P w K mg) : FnOk P w K mg base (L2.CX P w) 1 T.a_u_law_times T.e_u_law_times ["v", "w"] (spD K (clW P w T) W_u_law_times) := by
  refine fn_okX T.F_u_law_times sc_u_law_times (by decide) (fun cdv A outer s H E hr => ?_)
  have hu := hu65 hr
  have tk := takes_of (X := cxOf (L2.CX P w) P w K mg base ["v", "w"] "_law_times" (defScope s_u_law_times) T.a_u_law_times cdv A outer s H E) rfl rfl rfl rfl
  exact ⟨_, (vss_one (vs_ret (ve_tup (va_cons ve_str (va_cons (ve_var (i := 0)) (va_cons (ve_var (i := 1)) (va_cons ve_int va_nil)))))))⟩
theorem ok_u_law_part (T : Txt P w K mg) : FnOk P w K mg base (L2.CX P w) 1 T.a_u_law_part T.e_u_law_part ["v", "number"] (spD K (clW P w T) W_u_law_part) := by
  refine fn_okX T.F_u_law_part sc_u_law_part (by decide) (fun cdv A outer s H E hr => ?_)
  have hu := hu65 hr
  have tk := takes_of (X := cxOf (L2.CX P w) P w K mg base ["v", "number"] "_law_part" (defScope s_u_law_part) T.a_u_law_part cdv A outer s H E) rfl rfl rfl rfl
  exact ⟨_, (vss_one (vs_ret (ve_tup (va_cons ve_str (va_cons (ve_var (i := 0)) (va_cons (ve_var (i := 1)) (va_cons ve_int va_nil)))))))⟩
theorem ok_u_law_coordinates (T : Txt P w K mg) : FnOk P w K mg base (L2.CX P w) 3 T.a_u_law_coordinates T.e_u_law_coordinates ["sky", "body"] (spD K (clW P w T) W_u_law_coordinates) := by
  refine fn_okX T.F_u_law_coordinates sc_u_law_coordinates (by decide) (fun cdv A outer s H E hr => ?_)
  have hu := hu65 hr
  have tk := takes_of (X := cxOf (L2.CX P w) P w K mg base ["sky", "body", "along", "above", "x"] "_law_coordinates" (defScope s_u_law_coordinates) T.a_u_law_coordinates cdv A outer s H E) rfl rfl rfl rfl
  exact ⟨_, (vss_cons (vs_set (i := 2) sc_u_law_coordinates.nd (ve_call (ok_u_law_longitude T) (hr.mono (by decide)) rfl T.d_u_law_longitude T.F_u_law_longitude.kp T.b_u_law_longitude tk (va_cons (ve_var (i := 0)) (va_cons (ve_var (i := 1)) va_nil))))
      (vss_cons (vs_set (i := 3) sc_u_law_coordinates.nd (ve_tup (va_cons ve_str (va_cons (ve_tup (va_cons ve_str (va_cons ve_int (va_cons ve_int (va_cons ve_int va_nil))))) (va_cons (ve_call (ok_u_law_latitude T) (hr.mono (by decide)) rfl T.d_u_law_latitude T.F_u_law_latitude.kp T.b_u_law_latitude tk (va_cons (ve_var (i := 0)) (va_cons (ve_var (i := 1)) va_nil))) va_nil)))))
      (vss_cons (vs_set (i := 4) sc_u_law_coordinates.nd (ve_call (ok_u_law_times T) (hr.mono (by decide)) rfl T.d_u_law_times T.F_u_law_times.kp T.b_u_law_times tk (va_cons (ve_call (ok_u_law_ahead T) (hr.mono (by decide)) rfl T.d_u_law_ahead T.F_u_law_ahead.kp T.b_u_law_ahead tk (va_cons (ve_var (i := 3)) va_nil)) (va_cons (ve_call (ok_u_law_ahead T) (hr.mono (by decide)) rfl T.d_u_law_ahead T.F_u_law_ahead.kp T.b_u_law_ahead tk (va_cons (ve_var (i := 2)) va_nil)) va_nil))))
      (vss_one (vs_ret (VN.e (vn_lst (va_cons (ve_var (i := 4)) (va_cons (ve_call (ok_u_law_times T) (hr.mono (by decide)) rfl T.d_u_law_times T.F_u_law_times.kp T.b_u_law_times tk (va_cons (ve_call (ok_u_law_ahead T) (hr.mono (by decide)) rfl T.d_u_law_ahead T.F_u_law_ahead.kp T.b_u_law_ahead tk (va_cons (ve_var (i := 3)) va_nil)) (va_cons (ve_tup (va_cons ve_str (va_cons (ve_var (i := 2)) va_nil))) va_nil))) (va_cons (ve_tup (va_cons ve_str (va_cons (ve_var (i := 3)) va_nil))) va_nil))))))))))⟩
theorem ok_u_law_equator (T : Txt P w K mg) : FnOk P w K mg base (L2.CX P w) 4 T.a_u_law_equator T.e_u_law_equator ["sky", "body"] (spD K (clW P w T) W_u_law_equator) := by
  refine fn_okX T.F_u_law_equator sc_u_law_equator (by decide) (fun cdv A outer s H E hr => ?_)
  have hu := hu65 hr
  have tk := takes_of (X := cxOf (L2.CX P w) P w K mg base ["sky", "body", "x", "s", "z", "e", "f"] "_law_equator" (defScope s_u_law_equator) T.a_u_law_equator cdv A outer s H E) rfl rfl rfl rfl
  exact ⟨_, (vss_cons (vs_asg (ve_call (ok_u_law_coordinates T) (hr.mono (by decide)) rfl T.d_u_law_coordinates T.F_u_law_coordinates.kp T.b_u_law_coordinates tk (va_cons (ve_var (i := 0)) (va_cons (ve_var (i := 1)) va_nil))) (vt_tup rfl (vts_cons (vt_name (i := 2) sc_u_law_equator.nd) (vts_cons (vt_name (i := 3) sc_u_law_equator.nd) (vts_cons (vt_name (i := 4) sc_u_law_equator.nd) vts_nil)))))
      (vss_cons (vs_set (i := 5) sc_u_law_equator.nd (ve_call (ok_u_law_wave T) (hr.mono (by decide)) rfl T.d_u_law_wave T.F_u_law_wave.kp T.b_u_law_wave tk (va_cons (ve_ix hu (ve_var (i := 0)) ve_str) va_nil)))
      (vss_cons (vs_set (i := 6) sc_u_law_equator.nd (ve_call (ok_u_law_wave T) (hr.mono (by decide)) rfl T.d_u_law_wave T.F_u_law_wave.kp T.b_u_law_wave tk (va_cons (ve_add (ve_ix hu (ve_var (i := 0)) ve_str) ve_int) va_nil)))
      (vss_one (vs_ret (VN.e (vn_lst (va_cons (ve_var (i := 2)) (va_cons (ve_tup (va_cons ve_str (va_cons (ve_call (ok_u_law_part T) (hr.mono (by decide)) rfl T.d_u_law_part T.F_u_law_part.kp T.b_u_law_part tk (va_cons (ve_var (i := 3)) (va_cons (ve_var (i := 6)) va_nil))) (va_cons (ve_call (ok_u_law_part T) (hr.mono (by decide)) rfl T.d_u_law_part T.F_u_law_part.kp T.b_u_law_part tk (va_cons (ve_var (i := 4)) (va_cons (ve_neg (ve_var (i := 5))) va_nil))) va_nil)))) (va_cons (ve_tup (va_cons ve_str (va_cons (ve_call (ok_u_law_part T) (hr.mono (by decide)) rfl T.d_u_law_part T.F_u_law_part.kp T.b_u_law_part tk (va_cons (ve_var (i := 3)) (va_cons (ve_var (i := 5)) va_nil))) (va_cons (ve_call (ok_u_law_part T) (hr.mono (by decide)) rfl T.d_u_law_part T.F_u_law_part.kp T.b_u_law_part tk (va_cons (ve_var (i := 4)) (va_cons (ve_var (i := 6)) va_nil))) va_nil)))) va_nil))))))))))⟩
theorem ok_u_law_turned (T : Txt P w K mg) : FnOk P w K mg base (L2.CX P w) 1 T.a_u_law_turned T.e_u_law_turned ["sky", "place"] (spD K (clW P w T) W_u_law_turned) := by
  refine fn_okX T.F_u_law_turned sc_u_law_turned (by decide) (fun cdv A outer s H E hr => ?_)
  have hu := hu65 hr
  have tk := takes_of (X := cxOf (L2.CX P w) P w K mg base ["sky", "place", "s", "n", "d"] "_law_turned" (defScope s_u_law_turned) T.a_u_law_turned cdv A outer s H E) rfl rfl rfl rfl
  exact ⟨_, (vss_cons (vs_asg (ve_ix hu (ve_var (i := 0)) ve_str) (vt_tup rfl (vts_cons (vt_name (i := 2) sc_u_law_turned.nd) (vts_cons (vt_name (i := 3) sc_u_law_turned.nd) (vts_cons (vt_name (i := 4) sc_u_law_turned.nd) vts_nil)))))
      (vss_one (vs_ret (ve_tup (va_cons ve_str (va_cons (ve_add (ve_var (i := 2)) (ve_ix hu (ve_var (i := 1)) ve_int)) (va_cons (ve_var (i := 3)) (va_cons (ve_var (i := 4)) va_nil))))))))⟩
theorem ok_u_law_altitude (T : Txt P w K mg) : FnOk P w K mg base (L2.CX P w) 5 T.a_u_law_altitude T.e_u_law_altitude ["sky", "place", "body"] (spD K (clW P w T) W_u_law_altitude) := by
  refine fn_okX T.F_u_law_altitude sc_u_law_altitude (by decide) (fun cdv A outer s H E hr => ?_)
  have hu := hu65 hr
  have tk := takes_of (X := cxOf (L2.CX P w) P w K mg base ["sky", "place", "body", "x", "y", "w", "t", "g", "h"] "_law_altitude" (defScope s_u_law_altitude) T.a_u_law_altitude cdv A outer s H E) rfl rfl rfl rfl
  exact ⟨_, (vss_cons (vs_asg (ve_call (ok_u_law_equator T) (hr.mono (by decide)) rfl T.d_u_law_equator T.F_u_law_equator.kp T.b_u_law_equator tk (va_cons (ve_var (i := 0)) (va_cons (ve_var (i := 2)) va_nil))) (vt_tup rfl (vts_cons (vt_name (i := 3) sc_u_law_altitude.nd) (vts_cons (vt_name (i := 4) sc_u_law_altitude.nd) (vts_cons (vt_name (i := 5) sc_u_law_altitude.nd) vts_nil)))))
      (vss_cons (vs_set (i := 6) sc_u_law_altitude.nd (ve_call (ok_u_law_turned T) (hr.mono (by decide)) rfl T.d_u_law_turned T.F_u_law_turned.kp T.b_u_law_turned tk (va_cons (ve_var (i := 0)) (va_cons (ve_var (i := 1)) va_nil))))
      (vss_cons (vs_set (i := 7) sc_u_law_altitude.nd (ve_call (ok_u_law_wave T) (hr.mono (by decide)) rfl T.d_u_law_wave T.F_u_law_wave.kp T.b_u_law_wave tk (va_cons (ve_ix hu (ve_var (i := 1)) ve_int) va_nil)))
      (vss_cons (vs_set (i := 8) sc_u_law_altitude.nd (ve_call (ok_u_law_wave T) (hr.mono (by decide)) rfl T.d_u_law_wave T.F_u_law_wave.kp T.b_u_law_wave tk (va_cons (ve_add (ve_ix hu (ve_var (i := 1)) ve_int) ve_int) va_nil)))
      (vss_one (vs_ret (ve_tup (va_cons ve_str (va_cons (ve_call (ok_u_law_part T) (hr.mono (by decide)) rfl T.d_u_law_part T.F_u_law_part.kp T.b_u_law_part tk (va_cons (ve_call (ok_u_law_times T) (hr.mono (by decide)) rfl T.d_u_law_times T.F_u_law_times.kp T.b_u_law_times tk (va_cons (ve_var (i := 3)) (va_cons (ve_call (ok_u_law_ahead T) (hr.mono (by decide)) rfl T.d_u_law_ahead T.F_u_law_ahead.kp T.b_u_law_ahead tk (va_cons (ve_var (i := 6)) va_nil)) va_nil))) (va_cons (ve_var (i := 8)) va_nil))) (va_cons (ve_call (ok_u_law_part T) (hr.mono (by decide)) rfl T.d_u_law_part T.F_u_law_part.kp T.b_u_law_part tk (va_cons (ve_call (ok_u_law_times T) (hr.mono (by decide)) rfl T.d_u_law_times T.F_u_law_times.kp T.b_u_law_times tk (va_cons (ve_var (i := 4)) (va_cons (ve_tup (va_cons ve_str (va_cons (ve_var (i := 6)) va_nil))) va_nil))) (va_cons (ve_var (i := 8)) va_nil))) (va_cons (ve_call (ok_u_law_part T) (hr.mono (by decide)) rfl T.d_u_law_part T.F_u_law_part.kp T.b_u_law_part tk (va_cons (ve_var (i := 5)) (va_cons (ve_var (i := 7)) va_nil))) va_nil)))))))))))⟩
theorem ok_u_law_near (T : Txt P w K mg) : FnOk P w K mg base (L2.CX P w) 4 T.a_u_law_near T.e_u_law_near ["sky", "first", "second", "limit"] (spD K (clW P w T) W_u_law_near) := by
  refine fn_okX T.F_u_law_near sc_u_law_near (by decide) (fun cdv A outer s H E hr => ?_)
  have hu := hu65 hr
  have tk := takes_of (X := cxOf (L2.CX P w) P w K mg base ["sky", "first", "second", "limit", "squares", "others", "mine", "k", "gap"] "_law_near" (defScope s_u_law_near) T.a_u_law_near cdv A outer s H E) rfl rfl rfl rfl
  exact ⟨_, (vss_cons (vs_own (i := 4) sc_u_law_near.nd (vn_lst va_nil))
      (vss_cons (vs_set (i := 5) sc_u_law_near.nd (ve_call (ok_u_law_coordinates T) (hr.mono (by decide)) rfl T.d_u_law_coordinates T.F_u_law_coordinates.kp T.b_u_law_coordinates tk (va_cons (ve_var (i := 0)) (va_cons (ve_var (i := 2)) va_nil))))
      (vss_cons (vs_set (i := 6) sc_u_law_near.nd (ve_call (ok_u_law_coordinates T) (hr.mono (by decide)) rfl T.d_u_law_coordinates T.F_u_law_coordinates.kp T.b_u_law_coordinates tk (va_cons (ve_var (i := 0)) (va_cons (ve_var (i := 1)) va_nil))))
      (vss_cons (vs_fgt (js := [0, 1, 2, 7, 8]) (vs_for (passes_of rfl) rfl (vi_rng1 rfl T.z_range (va_cons ve_int va_nil)) (vt_name (i := 7) sc_u_law_near.nd) (vss_cons (vs_set (i := 8) sc_u_law_near.nd (ve_tup (va_cons ve_str (va_cons (ve_ix hu (ve_var (i := 6)) (ve_var (i := 7))) (va_cons (ve_tup (va_cons ve_str (va_cons (ve_ix hu (ve_var (i := 5)) (ve_var (i := 7))) (va_cons (ve_neg ve_int) (va_cons ve_int va_nil))))) va_nil)))))
      (vss_cons (vs_app (i := 4) (ve_call (ok_u_law_times T) (hr.mono (by decide)) rfl T.d_u_law_times T.F_u_law_times.kp T.b_u_law_times tk (va_cons (ve_var (i := 8)) (va_cons (ve_var (i := 8)) va_nil))))
      (vss_fgt (js := [0, 1, 2, 7, 8]) vss_nil)))))
      (vss_one (vs_frz (i := 4) (vs_ret (ve_tup (va_cons ve_str (va_cons (ve_tup (va_cons ve_str (va_cons (ve_div (ve_mul (ve_var (i := 3)) (ve_var (i := 3))) ve_int) va_nil))) (va_cons (ve_tup (va_cons ve_str (va_cons (ve_add (ve_tup (va_cons ve_str va_nil)) (ve_cls bi_tuple rfl T.z_tuple (by decide +kernel) (va_cons (ve_var (i := 4)) va_nil))) (va_cons (ve_neg ve_int) (va_cons ve_int va_nil))))) va_nil)))))))))))⟩
theorem ok_u_law_refused (T : Txt P w K mg) : FnOk P w K mg base (L2.CX P w) 8 T.a_u_law_refused T.e_u_law_refused ["kind", "sky", "place", "first", "second"] (spD K (clW P w T) W_u_law_refused) := by
  refine fn_okX T.F_u_law_refused sc_u_law_refused (by decide) (fun cdv A outer s H E hr => ?_)
  have hu := hu65 hr
  have tk := takes_of (X := cxOf (L2.CX P w) P w K mg base ["kind", "sky", "place", "first", "second", "e"] "_law_refused" (defScope s_u_law_refused) T.a_u_law_refused cdv A outer s H E) rfl rfl rfl rfl
  exact ⟨_, (vss_cons (vs_tryE (m := "SkyError") (i := 5) rfl rfl sc_u_law_refused.nd rfl rfl ⟨rfl, by decide, .inl T.c_SkyError⟩ tk (hc_SkyError (P := P) (w := w) T) T.em_SkyError_SkyError (fun m hm => by cases hm) rfl (vx_tup (vx_cons (vx_fld (i := 5) rfl rfl T.xf_SkyError T.nf_SkyError_code) (vx_cons (vx_fld (i := 5) rfl rfl T.xf_SkyError T.nf_SkyError_name) vx_nil))) (fun W pn xe tk pa => (vss_one (vs_if (vb_cmp (cm_eq hu) (ve_var (i := 0)) ve_int) (vss_one (vs_expr (ve_call (ok_longitude T) (hr.mono (by decide)) rfl T.d_longitude T.F_longitude.kp T.b_longitude tk (va_cons (ve_var (i := 1)) (va_cons (ve_var (i := 3)) va_nil))))) (vss_one (vs_if (vb_cmp (cm_eq hu) (ve_var (i := 0)) ve_int) (vss_one (vs_expr (ve_call (ok_latitude T) (hr.mono (by decide)) rfl T.d_latitude T.F_latitude.kp T.b_latitude tk (va_cons (ve_var (i := 1)) (va_cons (ve_var (i := 3)) va_nil))))) (vss_one (vs_if (vb_cmp (cm_eq hu) (ve_var (i := 0)) ve_int) (vss_one (vs_expr (ve_call (ok_elongation T) (hr.mono (by decide)) rfl T.d_elongation T.F_elongation.kp T.b_elongation tk (va_cons (ve_var (i := 1)) (va_cons (ve_var (i := 3)) (va_cons (ve_var (i := 4)) va_nil)))))) (vss_one (vs_if (vb_cmp (cm_eq hu) (ve_var (i := 0)) ve_int) (vss_one (vs_expr (ve_call (ok_altitude T) (hr.mono (by decide)) rfl T.d_altitude T.F_altitude.kp T.b_altitude tk (va_cons (ve_var (i := 1)) (va_cons (ve_var (i := 2)) (va_cons (ve_var (i := 3)) va_nil)))))) (vss_one (vs_if (vb_cmp (cm_eq hu) (ve_var (i := 0)) ve_int) (vss_one (vs_expr (ve_call (ok_east T) (hr.mono (by decide)) rfl T.d_east T.F_east.kp T.b_east tk (va_cons (ve_var (i := 1)) (va_cons (ve_var (i := 2)) (va_cons (ve_var (i := 3)) va_nil)))))) (vss_one (vs_expr (ve_call (ok_nearness T) (hr.mono (by decide)) rfl T.d_nearness T.F_nearness.kp T.b_nearness tk (va_cons (ve_var (i := 1)) (va_cons (ve_var (i := 3)) (va_cons (ve_var (i := 4)) (va_cons ve_int va_nil)))))))))))))))))))
      (vss_one (vs_ret ve_non)))⟩
theorem ok_law (T : Txt P w K mg) : RunG P w K mg base 63 T.a_law T.e_law ["script"] (spD K (clW P w T) W_law) := by
  refine fn_okG T.F_law sc_law (by decide) (fun cdv A outer s H E hgu hr => ?_)
  have hu := hu65 hr
  have tk := takes_of (X := cxOf (L2.CX P w) P w K mg base ["script", "state", "sky", "place", "names", "first", "second", "limit", "kept", "x", "y", "w", "t", "due", "found", "apart", "kind", "name", "q"] "law" (defScope s_law) T.a_law cdv A outer s H E) rfl rfl rfl rfl
  exact ⟨_, (vss_cons (vs_set (i := 1) sc_law.nd (ve_call (ok_u_law_start T) (hr.mono (by decide)) rfl T.d_u_law_start T.F_u_law_start.kp T.b_u_law_start tk (va_cons (ve_var (i := 0)) va_nil)))
      (vss_cons (vs_set (i := 2) sc_law.nd (ve_call (ok_u_law_sky T) (hr.mono (by decide)) rfl T.d_u_law_sky T.F_u_law_sky.kp T.b_u_law_sky tk (va_cons (ve_var (i := 1)) (va_cons (ve_add ve_int (ve_call (ok_u_law_draw T) (hr.mono (by decide)) rfl T.d_u_law_draw T.F_u_law_draw.kp T.b_u_law_draw tk (va_cons (ve_var (i := 1)) (va_cons ve_int va_nil)))) va_nil))))
      (vss_cons (vs_set (i := 3) sc_law.nd (ve_call (ok_u_law_place T) (hr.mono (by decide)) rfl T.d_u_law_place T.F_u_law_place.kp T.b_u_law_place tk (va_cons (ve_var (i := 1)) va_nil)))
      (vss_cons (vs_set (i := 4) sc_law.nd (VN.e (vn_blt (bn_sortT rfl) rfl T.z_sorted (by decide +kernel) (va_cons (ve_ix hu (ve_var (i := 2)) ve_str) va_nil))))
      (vss_cons (vs_set (i := 5) sc_law.nd (ve_call (ok_u_law_pick T) (hr.mono (by decide)) rfl T.d_u_law_pick T.F_u_law_pick.kp T.b_u_law_pick tk (va_cons (ve_var (i := 1)) (va_cons (ve_var (i := 4)) va_nil))))
      (vss_cons (vs_set (i := 6) sc_law.nd (ve_call (ok_u_law_pick T) (hr.mono (by decide)) rfl T.d_u_law_pick T.F_u_law_pick.kp T.b_u_law_pick tk (va_cons (ve_var (i := 1)) (va_cons (VN.e (vn_lc (own := [("name", 17)]) rfl sc_law.nd (vi_seq (ve_var (i := 4))) (blkOk_by (N := ["script", "state", "sky", "place", "names", "first", "second", "limit", "kept", "x", "y", "w", "t", "due", "found", "apart", "kind", "name", "q"]) (sc := defScope s_law) (by decide +kernel)) (fun _ _ _ _ _ => (vt_name (i := 17) sc_law.nd)) (fun _ _ _ _ _ => (vp_one (vb_cmp (cm_ne hu) (ve_var (i := 17)) (ve_var (i := 5))))) (fun _ _ _ _ _ => (ve_var (i := 17))))) va_nil))))
      (vss_cons (vs_set (i := 7) sc_law.nd (ve_add ve_int (ve_call (ok_u_law_draw T) (hr.mono (by decide)) rfl T.d_u_law_draw T.F_u_law_draw.kp T.b_u_law_draw tk (va_cons (ve_var (i := 1)) (va_cons ve_int va_nil)))))
      (vss_cons (vs_set (i := 8) sc_law.nd (ve_blt (bi_repr hgu hu) rfl T.z_repr (by decide +kernel) (va_cons (ve_var (i := 2)) va_nil)))
      (vss_cons (vs_asg (ve_call (ok_u_law_equator T) (hr.mono (by decide)) rfl T.d_u_law_equator T.F_u_law_equator.kp T.b_u_law_equator tk (va_cons (ve_var (i := 2)) (va_cons (ve_var (i := 5)) va_nil))) (vt_tup rfl (vts_cons (vt_name (i := 9) sc_law.nd) (vts_cons (vt_name (i := 10) sc_law.nd) (vts_cons (vt_name (i := 11) sc_law.nd) vts_nil)))))
      (vss_cons (vs_set (i := 12) sc_law.nd (ve_call (ok_u_law_turned T) (hr.mono (by decide)) rfl T.d_u_law_turned T.F_u_law_turned.kp T.b_u_law_turned tk (va_cons (ve_var (i := 2)) (va_cons (ve_var (i := 3)) va_nil))))
      (vss_cons (vs_own (i := 13) sc_law.nd (vn_lst (va_cons (ve_call (ok_u_law_altitude T) (hr.mono (by decide)) rfl T.d_u_law_altitude T.F_u_law_altitude.kp T.b_u_law_altitude tk (va_cons (ve_var (i := 2)) (va_cons (ve_var (i := 3)) (va_cons (ve_var (i := 5)) va_nil)))) (va_cons (ve_call (ok_u_law_latitude T) (hr.mono (by decide)) rfl T.d_u_law_latitude T.F_u_law_latitude.kp T.b_u_law_latitude tk (va_cons (ve_var (i := 2)) (va_cons (ve_var (i := 5)) va_nil))) (va_cons (ve_call (ok_u_law_near T) (hr.mono (by decide)) rfl T.d_u_law_near T.F_u_law_near.kp T.b_u_law_near tk (va_cons (ve_var (i := 2)) (va_cons (ve_var (i := 5)) (va_cons (ve_var (i := 6)) (va_cons (ve_var (i := 7)) va_nil))))) va_nil)))))
      (vss_cons (vs_own (i := 14) sc_law.nd (vn_lst (va_cons (ve_call (ok_altitude T) (hr.mono (by decide)) rfl T.d_altitude T.F_altitude.kp T.b_altitude tk (va_cons (ve_var (i := 2)) (va_cons (ve_var (i := 3)) (va_cons (ve_var (i := 5)) va_nil)))) (va_cons (ve_call (ok_latitude T) (hr.mono (by decide)) rfl T.d_latitude T.F_latitude.kp T.b_latitude tk (va_cons (ve_var (i := 2)) (va_cons (ve_var (i := 5)) va_nil))) (va_cons (ve_call (ok_nearness T) (hr.mono (by decide)) rfl T.d_nearness T.F_nearness.kp T.b_nearness tk (va_cons (ve_var (i := 2)) (va_cons (ve_var (i := 5)) (va_cons (ve_var (i := 6)) (va_cons (ve_var (i := 7)) va_nil))))) va_nil)))))
      (vss_cons (vs_app (i := 13) (ve_tup (va_cons ve_str (va_cons (ve_call (ok_u_law_times T) (hr.mono (by decide)) rfl T.d_u_law_times T.F_u_law_times.kp T.b_u_law_times tk (va_cons (ve_var (i := 10)) (va_cons (ve_call (ok_u_law_ahead T) (hr.mono (by decide)) rfl T.d_u_law_ahead T.F_u_law_ahead.kp T.b_u_law_ahead tk (va_cons (ve_var (i := 12)) va_nil)) va_nil))) (va_cons (ve_tup (va_cons ve_str (va_cons (ve_call (ok_u_law_times T) (hr.mono (by decide)) rfl T.d_u_law_times T.F_u_law_times.kp T.b_u_law_times tk (va_cons (ve_var (i := 9)) (va_cons (ve_tup (va_cons ve_str (va_cons (ve_var (i := 12)) va_nil))) va_nil))) (va_cons (ve_neg ve_int) (va_cons ve_int va_nil))))) va_nil)))))
      (vss_cons (vs_app (i := 13) (ve_tup (va_cons ve_str (va_cons (ve_call (ok_u_law_times T) (hr.mono (by decide)) rfl T.d_u_law_times T.F_u_law_times.kp T.b_u_law_times tk (va_cons (ve_var (i := 9)) (va_cons (ve_call (ok_u_law_ahead T) (hr.mono (by decide)) rfl T.d_u_law_ahead T.F_u_law_ahead.kp T.b_u_law_ahead tk (va_cons (ve_var (i := 12)) va_nil)) va_nil))) (va_cons (ve_call (ok_u_law_times T) (hr.mono (by decide)) rfl T.d_u_law_times T.F_u_law_times.kp T.b_u_law_times tk (va_cons (ve_var (i := 10)) (va_cons (ve_tup (va_cons ve_str (va_cons (ve_var (i := 12)) va_nil))) va_nil))) va_nil)))))
      (vss_cons (vs_lop1 (i := 14) PySem.F.slot_list_extend PySem.F.type_list_extend mt_extend rfm_ext (va_cons (VN.e (vn_lst (va_cons (ve_call (ok_east T) (hr.mono (by decide)) rfl T.d_east T.F_east.kp T.b_east tk (va_cons (ve_var (i := 2)) (va_cons (ve_var (i := 3)) (va_cons (ve_var (i := 5)) va_nil)))) (va_cons (ve_call (ok_south T) (hr.mono (by decide)) rfl T.d_south T.F_south.kp T.b_south tk (va_cons (ve_var (i := 2)) (va_cons (ve_var (i := 3)) (va_cons (ve_var (i := 5)) va_nil)))) va_nil)))) va_nil))
      (vss_cons (vs_app (i := 13) (ve_call (ok_u_law_terms_q T) (hr.mono (by decide)) rfl T.d_u_law_terms_q T.F_u_law_terms_q.kp T.b_u_law_terms_q tk (va_cons (ve_ix hu (ve_ix hu (ve_ix hu (ve_var (i := 2)) ve_str) (ve_var (i := 5))) ve_str) va_nil)))
      (vss_cons (vs_app (i := 14) (ve_call (ok_terms_quantity T) (hr.mono (by decide)) rfl T.d_terms_quantity T.F_terms_quantity.kp T.b_terms_quantity tk (va_cons (ve_ix hu (ve_ix hu (ve_ix hu (ve_var (i := 2)) ve_str) (ve_var (i := 5))) ve_str) va_nil)))
      (vss_cons (vs_if (VW.b (vw_or (vb_bor (vb_cmp (cm_ne hu) (ve_var (i := 14)) (ve_var (i := 13)))) (vw_or1 (vb_not (vb_val (ve_bor (ve_blt (bi_all rfl) rfl T.z_all (by decide +kernel) (va_cons (VN.e (vn_lc (own := [("q", 18)]) rfl sc_law.nd (vi_seq (ve_var (i := 14))) (blkOk_by (N := ["script", "state", "sky", "place", "names", "first", "second", "limit", "kept", "x", "y", "w", "t", "due", "found", "apart", "kind", "name", "q"]) (sc := defScope s_law) (by decide +kernel)) (fun _ _ _ _ _ => (vt_name (i := 18) sc_law.nd)) (fun _ _ _ _ _ => vp_nil) (fun _ _ _ _ _ => (ve_call (ok_u_law_is T) (hr.mono (by decide)) rfl T.d_u_law_is T.F_u_law_is.kp T.b_u_law_is takes_no (va_cons (ve_call (ok_is_quantity T) (hr.mono (by decide)) rfl T.d_is_quantity T.F_is_quantity.kp T.b_is_quantity takes_no (va_cons (ve_var (i := 18)) va_nil)) (va_cons ve_bl va_nil)))))) va_nil)))))))) (vss_one (vs_ret ve_bl)) vss_nil)
      (vss_cons (vs_set (i := 15) sc_law.nd (ve_tup (va_cons ve_str (va_cons (ve_call (ok_u_law_longitude T) (hr.mono (by decide)) rfl T.d_u_law_longitude T.F_u_law_longitude.kp T.b_u_law_longitude tk (va_cons (ve_var (i := 2)) (va_cons (ve_var (i := 5)) va_nil))) (va_cons (ve_call (ok_u_law_longitude T) (hr.mono (by decide)) rfl T.d_u_law_longitude T.F_u_law_longitude.kp T.b_u_law_longitude tk (va_cons (ve_var (i := 2)) (va_cons (ve_var (i := 6)) va_nil))) va_nil)))))
      (vss_cons (vs_if (VW.b (vw_or (vb_cmp (cm_ne hu) (ve_call (ok_elongation T) (hr.mono (by decide)) rfl T.d_elongation T.F_elongation.kp T.b_elongation tk (va_cons (ve_var (i := 2)) (va_cons (ve_var (i := 5)) (va_cons (ve_var (i := 6)) va_nil)))) (ve_var (i := 15))) (vw_or (vb_cmp (cm_ne hu) (ve_call (ok_longitude T) (hr.mono (by decide)) rfl T.d_longitude T.F_longitude.kp T.b_longitude tk (va_cons (ve_var (i := 2)) (va_cons (ve_var (i := 5)) va_nil))) (ve_ix hu (ve_var (i := 15)) ve_int)) (vw_or1 (vb_not (vb_val (ve_call (ok_is_angle T) (hr.mono (by decide)) rfl T.d_is_angle T.F_is_angle.kp T.b_is_angle tk (va_cons (ve_var (i := 15)) va_nil)))))))) (vss_one (vs_ret ve_bl)) vss_nil)
      (vss_cons (vs_fgt (js := [0, 1, 4, 7, 9, 10, 11, 12, 13, 14, 15, 16, 17, 18]) (vs_for (passes_of rfl) rfl (vi_rng1 rfl T.z_range (va_cons ve_int va_nil)) (vt_name (i := 16) sc_law.nd) (vss_cons (vs_if (vb_cmp (cm_ne hu) (ve_call (ok_u_law_refused T) (hr.mono (by decide)) rfl T.d_u_law_refused T.F_u_law_refused.kp T.b_u_law_refused tk (va_cons (ve_var (i := 16)) (va_cons (ve_var (i := 2)) (va_cons (ve_var (i := 3)) (va_cons ve_str (va_cons (ve_var (i := 6)) va_nil)))))) (ve_tup (va_cons ve_str (va_cons ve_str va_nil)))) (vss_one (vs_ret ve_bl)) vss_nil)
      (vss_cons (vs_if (VW.b (vw_and (vb_cmp (cm_in hu) (ve_var (i := 16)) (VN.e (vn_lst (va_cons ve_int (va_cons ve_int va_nil))))) (vw_and1 (vb_cmp (cm_ne hu) (ve_call (ok_u_law_refused T) (hr.mono (by decide)) rfl T.d_u_law_refused T.F_u_law_refused.kp T.b_u_law_refused tk (va_cons (ve_var (i := 16)) (va_cons (ve_var (i := 2)) (va_cons (ve_var (i := 3)) (va_cons (ve_var (i := 5)) (va_cons ve_str va_nil)))))) (ve_tup (va_cons ve_str (va_cons ve_str va_nil))))))) (vss_one (vs_ret ve_bl)) vss_nil)
      (vss_cons (vs_if (VW.b (vw_and (vb_cmp (cm_in hu) (ve_var (i := 16)) (VN.e (vn_lst (va_cons ve_int (va_cons ve_int va_nil))))) (vw_and1 (vb_cmp (cm_ne hu) (ve_call (ok_u_law_refused T) (hr.mono (by decide)) rfl T.d_u_law_refused T.F_u_law_refused.kp T.b_u_law_refused tk (va_cons (ve_var (i := 16)) (va_cons (ve_var (i := 2)) (va_cons (ve_var (i := 3)) (va_cons ve_str (va_cons ve_str va_nil)))))) (ve_tup (va_cons ve_str (va_cons ve_str va_nil))))))) (vss_one (vs_ret ve_bl)) vss_nil)
      (vss_fgt (js := [0, 1, 4, 7, 9, 10, 11, 12, 13, 14, 15, 16, 17, 18]) vss_nil))))))
      (vss_one (vs_ret (ve_cmp (cm_eq hu) (ve_blt (bi_repr hgu hu) rfl T.z_repr (by decide +kernel) (va_cons (ve_var (i := 2)) va_nil)) (ve_var (i := 8))))))))))))))))))))))))))⟩
end
end K14

set_option maxHeartbeats 8000000
/-! The last steps. -/
namespace K14
open PySem L2 DL PyProof.Rows
theorem all_mk {P : Program} {w : World} {K : PySem.W.Frag} {h : Heap} {mg : Str → Option Value} {fa : Addr} (X : K.In h) (G : h.Ns mainGlobals mg) (hfa : mg "law" = some (.ref fa))
    {f0 : Addr} {od0 an0 : Option Addr} {sl0 : Array (Option Value)} {oc0 kV0 dc0 pm0 cd0 ct0 : Value}
    {f1 : Addr} {od1 an1 : Option Addr} {sl1 : Array (Option Value)} {oc1 kV1 dc1 pm1 cd1 ct1 : Value}
    {f2 : Addr} {od2 an2 : Option Addr} {sl2 : Array (Option Value)} {oc2 kV2 dc2 pm2 cd2 ct2 : Value}
    {f3 : Addr} {od3 an3 : Option Addr} {sl3 : Array (Option Value)} {oc3 kV3 dc3 pm3 cd3 ct3 : Value}
    {f4 : Addr} {od4 an4 : Option Addr} {sl4 : Array (Option Value)} {oc4 kV4 dc4 pm4 cd4 ct4 : Value}
    {f5 : Addr} {od5 an5 : Option Addr} {sl5 : Array (Option Value)} {oc5 kV5 dc5 pm5 cd5 ct5 : Value}
    {f6 : Addr} {od6 an6 : Option Addr} {sl6 : Array (Option Value)} {oc6 kV6 dc6 pm6 cd6 ct6 : Value}
    {f7 : Addr} {od7 an7 : Option Addr} {sl7 : Array (Option Value)} {oc7 kV7 dc7 pm7 cd7 ct7 : Value}
    {f8 : Addr} {od8 an8 : Option Addr} {sl8 : Array (Option Value)} {oc8 kV8 dc8 pm8 cd8 ct8 : Value}
    {f9 : Addr} {od9 an9 : Option Addr} {sl9 : Array (Option Value)} {oc9 kV9 dc9 pm9 cd9 ct9 : Value}
    {f10 : Addr} {od10 an10 : Option Addr} {sl10 : Array (Option Value)} {oc10 kV10 dc10 pm10 cd10 ct10 : Value}
    {f11 : Addr} {od11 an11 : Option Addr} {sl11 : Array (Option Value)} {oc11 kV11 dc11 pm11 cd11 ct11 : Value}
    {f12 : Addr} {od12 an12 : Option Addr} {sl12 : Array (Option Value)} {oc12 kV12 dc12 pm12 cd12 ct12 : Value}
    {f13 : Addr} {od13 an13 : Option Addr} {sl13 : Array (Option Value)} {oc13 kV13 dc13 pm13 cd13 ct13 : Value}
    {f14 : Addr} {od14 an14 : Option Addr} {sl14 : Array (Option Value)} {oc14 kV14 dc14 pm14 cd14 ct14 : Value}
    {f15 : Addr} {od15 an15 : Option Addr} {sl15 : Array (Option Value)} {oc15 kV15 dc15 pm15 cd15 ct15 : Value}
    {f16 : Addr} {od16 an16 : Option Addr} {sl16 : Array (Option Value)} {oc16 kV16 dc16 pm16 cd16 ct16 : Value}
    {f17 : Addr} {od17 an17 : Option Addr} {sl17 : Array (Option Value)} {oc17 kV17 dc17 pm17 cd17 ct17 : Value}
    {f18 : Addr} {od18 an18 : Option Addr} {sl18 : Array (Option Value)} {oc18 kV18 dc18 pm18 cd18 ct18 : Value}
    {f19 : Addr} {od19 an19 : Option Addr} {sl19 : Array (Option Value)} {oc19 kV19 dc19 pm19 cd19 ct19 : Value}
    {f20 : Addr} {od20 an20 : Option Addr} {sl20 : Array (Option Value)} {oc20 kV20 dc20 pm20 cd20 ct20 : Value}
    {f21 : Addr} {od21 an21 : Option Addr} {sl21 : Array (Option Value)} {oc21 kV21 dc21 pm21 cd21 ct21 : Value}
    {f22 : Addr} {od22 an22 : Option Addr} {sl22 : Array (Option Value)} {oc22 kV22 dc22 pm22 cd22 ct22 : Value}
    {f23 : Addr} {od23 an23 : Option Addr} {sl23 : Array (Option Value)} {oc23 kV23 dc23 pm23 cd23 ct23 : Value}
    {f24 : Addr} {od24 an24 : Option Addr} {sl24 : Array (Option Value)} {oc24 kV24 dc24 pm24 cd24 ct24 : Value}
    {f25 : Addr} {od25 an25 : Option Addr} {sl25 : Array (Option Value)} {oc25 kV25 dc25 pm25 cd25 ct25 : Value}
    {f26 : Addr} {od26 an26 : Option Addr} {sl26 : Array (Option Value)} {oc26 kV26 dc26 pm26 cd26 ct26 : Value}
    {f27 : Addr} {od27 an27 : Option Addr} {sl27 : Array (Option Value)} {oc27 kV27 dc27 pm27 cd27 ct27 : Value}
    {f28 : Addr} {od28 an28 : Option Addr} {sl28 : Array (Option Value)} {oc28 kV28 dc28 pm28 cd28 ct28 : Value}
    {f29 : Addr} {od29 an29 : Option Addr} {sl29 : Array (Option Value)} {oc29 kV29 dc29 pm29 cd29 ct29 : Value}
    {f30 : Addr} {od30 an30 : Option Addr} {sl30 : Array (Option Value)} {oc30 kV30 dc30 pm30 cd30 ct30 : Value}
    {f31 : Addr} {od31 an31 : Option Addr} {sl31 : Array (Option Value)} {oc31 kV31 dc31 pm31 cd31 ct31 : Value}
    {f32 : Addr} {od32 an32 : Option Addr} {sl32 : Array (Option Value)} {oc32 kV32 dc32 pm32 cd32 ct32 : Value}
    {f33 : Addr} {od33 an33 : Option Addr} {sl33 : Array (Option Value)} {oc33 kV33 dc33 pm33 cd33 ct33 : Value}
    {f34 : Addr} {od34 an34 : Option Addr} {sl34 : Array (Option Value)} {oc34 kV34 dc34 pm34 cd34 ct34 : Value}
    {f35 : Addr} {od35 an35 : Option Addr} {sl35 : Array (Option Value)} {oc35 kV35 dc35 pm35 cd35 ct35 : Value}
    {f36 : Addr} {od36 an36 : Option Addr} {sl36 : Array (Option Value)} {oc36 kV36 dc36 pm36 cd36 ct36 : Value}
    {f37 : Addr} {od37 an37 : Option Addr} {sl37 : Array (Option Value)} {oc37 kV37 dc37 pm37 cd37 ct37 : Value}
    {f38 : Addr} {od38 an38 : Option Addr} {sl38 : Array (Option Value)} {oc38 kV38 dc38 pm38 cd38 ct38 : Value}
    {f39 : Addr} {od39 an39 : Option Addr} {sl39 : Array (Option Value)} {oc39 kV39 dc39 pm39 cd39 ct39 : Value}
    {f40 : Addr} {od40 an40 : Option Addr} {sl40 : Array (Option Value)} {oc40 kV40 dc40 pm40 cd40 ct40 : Value}
    {f41 : Addr} {od41 an41 : Option Addr} {sl41 : Array (Option Value)} {oc41 kV41 dc41 pm41 cd41 ct41 : Value}
    {f42 : Addr} {od42 an42 : Option Addr} {sl42 : Array (Option Value)} {oc42 kV42 dc42 pm42 cd42 ct42 : Value}
    {f43 : Addr} {od43 an43 : Option Addr} {sl43 : Array (Option Value)} {oc43 kV43 dc43 pm43 cd43 ct43 : Value}
    {f44 : Addr} {od44 an44 : Option Addr} {sl44 : Array (Option Value)} {oc44 kV44 dc44 pm44 cd44 ct44 : Value}
    {f45 : Addr} {od45 an45 : Option Addr} {sl45 : Array (Option Value)} {oc45 kV45 dc45 pm45 cd45 ct45 : Value}
    {f46 : Addr} {od46 an46 : Option Addr} {sl46 : Array (Option Value)} {oc46 kV46 dc46 pm46 cd46 ct46 : Value}
    {f47 : Addr} {od47 an47 : Option Addr} {sl47 : Array (Option Value)} {oc47 kV47 dc47 pm47 cd47 ct47 : Value}
    {f48 : Addr} {od48 an48 : Option Addr} {sl48 : Array (Option Value)} {oc48 kV48 dc48 pm48 cd48 ct48 : Value}
    {f49 : Addr} {od49 an49 : Option Addr} {sl49 : Array (Option Value)} {oc49 kV49 dc49 pm49 cd49 ct49 : Value}
    (a0 : PySem.W.nsIn K mainGlobals "arch" = some (some (.ref f0)))
    (l0 : K.lookup f0 = some ⟨oc0, od0, .func (PySem.W.fnOf "arch" "arch" (defArgs s_arch) (defBody s_arch) (defScope s_arch) .none kV0 dc0 pm0 an0 cd0 ct0), sl0⟩) (c0 : PySem.W.codeIn K cd0 "arch" = true) (k0 : PySem.W.keepIn K (.ref f0) = true)
    (a1 : PySem.W.nsIn K mainGlobals "wave" = some (some (.ref f1)))
    (l1 : K.lookup f1 = some ⟨oc1, od1, .func (PySem.W.fnOf "wave" "wave" (defArgs s_wave) (defBody s_wave) (defScope s_wave) .none kV1 dc1 pm1 an1 cd1 ct1), sl1⟩) (c1 : PySem.W.codeIn K cd1 "wave" = true) (k1 : PySem.W.keepIn K (.ref f1) = true)
    (a2 : PySem.W.nsIn K mainGlobals "cosine" = some (some (.ref f2)))
    (l2 : K.lookup f2 = some ⟨oc2, od2, .func (PySem.W.fnOf "cosine" "cosine" (defArgs s_cosine) (defBody s_cosine) (defScope s_cosine) .none kV2 dc2 pm2 an2 cd2 ct2), sl2⟩) (c2 : PySem.W.codeIn K cd2 "cosine" = true) (k2 : PySem.W.keepIn K (.ref f2) = true)
    (a3 : PySem.W.nsIn K mainGlobals "is_number" = some (some (.ref f3)))
    (l3 : K.lookup f3 = some ⟨oc3, od3, .func (PySem.W.fnOf "is_number" "is_number" (defArgs s_is_number) (defBody s_is_number) (defScope s_is_number) .none kV3 dc3 pm3 an3 cd3 ct3), sl3⟩) (c3 : PySem.W.codeIn K cd3 "is_number" = true) (k3 : PySem.W.keepIn K (.ref f3) = true)
    (a4 : PySem.W.nsIn K mainGlobals "letters_of" = some (some (.ref f4)))
    (l4 : K.lookup f4 = some ⟨oc4, od4, .func (PySem.W.fnOf "letters_of" "letters_of" (defArgs s_letters_of) (defBody s_letters_of) (defScope s_letters_of) .none kV4 dc4 pm4 an4 cd4 ct4), sl4⟩) (c4 : PySem.W.codeIn K cd4 "letters_of" = true) (k4 : PySem.W.keepIn K (.ref f4) = true)
    (a5 : PySem.W.nsIn K mainGlobals "is_expression" = some (some (.ref f5)))
    (l5 : K.lookup f5 = some ⟨oc5, od5, .func (PySem.W.fnOf "is_expression" "is_expression" (defArgs s_is_expression) (defBody s_is_expression) (defScope s_is_expression) .none kV5 dc5 pm5 an5 cd5 ct5), sl5⟩) (c5 : PySem.W.codeIn K cd5 "is_expression" = true) (k5 : PySem.W.keepIn K (.ref f5) = true)
    (a6 : PySem.W.nsIn K mainGlobals "fits" = some (some (.ref f6)))
    (l6 : K.lookup f6 = some ⟨oc6, od6, .func (PySem.W.fnOf "fits" "fits" (defArgs s_fits) (defBody s_fits) (defScope s_fits) .none kV6 dc6 pm6 an6 cd6 ct6), sl6⟩) (c6 : PySem.W.codeIn K cd6 "fits" = true) (k6 : PySem.W.keepIn K (.ref f6) = true)
    (a7 : PySem.W.nsIn K mainGlobals "is_quantity" = some (some (.ref f7)))
    (l7 : K.lookup f7 = some ⟨oc7, od7, .func (PySem.W.fnOf "is_quantity" "is_quantity" (defArgs s_is_quantity) (defBody s_is_quantity) (defScope s_is_quantity) .none kV7 dc7 pm7 an7 cd7 ct7), sl7⟩) (c7 : PySem.W.codeIn K cd7 "is_quantity" = true) (k7 : PySem.W.keepIn K (.ref f7) = true)
    (a8 : PySem.W.nsIn K mainGlobals "is_angle" = some (some (.ref f8)))
    (l8 : K.lookup f8 = some ⟨oc8, od8, .func (PySem.W.fnOf "is_angle" "is_angle" (defArgs s_is_angle) (defBody s_is_angle) (defScope s_is_angle) .none kV8 dc8 pm8 an8 cd8 ct8), sl8⟩) (c8 : PySem.W.codeIn K cd8 "is_angle" = true) (k8 : PySem.W.keepIn K (.ref f8) = true)
    (a9 : PySem.W.nsIn K mainGlobals "negative" = some (some (.ref f9)))
    (l9 : K.lookup f9 = some ⟨oc9, od9, .func (PySem.W.fnOf "negative" "negative" (defArgs s_negative) (defBody s_negative) (defScope s_negative) .none kV9 dc9 pm9 an9 cd9 ct9), sl9⟩) (c9 : PySem.W.codeIn K cd9 "negative" = true) (k9 : PySem.W.keepIn K (.ref f9) = true)
    (a10 : PySem.W.nsIn K mainGlobals "term_quantity" = some (some (.ref f10)))
    (l10 : K.lookup f10 = some ⟨oc10, od10, .func (PySem.W.fnOf "term_quantity" "term_quantity" (defArgs s_term_quantity) (defBody s_term_quantity) (defScope s_term_quantity) .none kV10 dc10 pm10 an10 cd10 ct10), sl10⟩) (c10 : PySem.W.codeIn K cd10 "term_quantity" = true) (k10 : PySem.W.keepIn K (.ref f10) = true)
    (a11 : PySem.W.nsIn K mainGlobals "terms_quantity" = some (some (.ref f11)))
    (l11 : K.lookup f11 = some ⟨oc11, od11, .func (PySem.W.fnOf "terms_quantity" "terms_quantity" (defArgs s_terms_quantity) (defBody s_terms_quantity) (defScope s_terms_quantity) .none kV11 dc11 pm11 an11 cd11 ct11), sl11⟩) (c11 : PySem.W.codeIn K cd11 "terms_quantity" = true) (k11 : PySem.W.keepIn K (.ref f11) = true)
    (a12 : PySem.W.nsIn K mainGlobals "body_of" = some (some (.ref f12)))
    (l12 : K.lookup f12 = some ⟨oc12, od12, .func (PySem.W.fnOf "body_of" "body_of" (defArgs s_body_of) (defBody s_body_of) (defScope s_body_of) .none kV12 dc12 pm12 an12 cd12 ct12), sl12⟩) (c12 : PySem.W.codeIn K cd12 "body_of" = true) (k12 : PySem.W.keepIn K (.ref f12) = true)
    (a13 : PySem.W.nsIn K mainGlobals "longitude" = some (some (.ref f13)))
    (l13 : K.lookup f13 = some ⟨oc13, od13, .func (PySem.W.fnOf "longitude" "longitude" (defArgs s_longitude) (defBody s_longitude) (defScope s_longitude) .none kV13 dc13 pm13 an13 cd13 ct13), sl13⟩) (c13 : PySem.W.codeIn K cd13 "longitude" = true) (k13 : PySem.W.keepIn K (.ref f13) = true)
    (a14 : PySem.W.nsIn K mainGlobals "latitude" = some (some (.ref f14)))
    (l14 : K.lookup f14 = some ⟨oc14, od14, .func (PySem.W.fnOf "latitude" "latitude" (defArgs s_latitude) (defBody s_latitude) (defScope s_latitude) .none kV14 dc14 pm14 an14 cd14 ct14), sl14⟩) (c14 : PySem.W.codeIn K cd14 "latitude" = true) (k14 : PySem.W.keepIn K (.ref f14) = true)
    (a15 : PySem.W.nsIn K mainGlobals "elongation" = some (some (.ref f15)))
    (l15 : K.lookup f15 = some ⟨oc15, od15, .func (PySem.W.fnOf "elongation" "elongation" (defArgs s_elongation) (defBody s_elongation) (defScope s_elongation) .none kV15 dc15 pm15 an15 cd15 ct15), sl15⟩) (c15 : PySem.W.codeIn K cd15 "elongation" = true) (k15 : PySem.W.keepIn K (.ref f15) = true)
    (a16 : PySem.W.nsIn K mainGlobals "product" = some (some (.ref f16)))
    (l16 : K.lookup f16 = some ⟨oc16, od16, .func (PySem.W.fnOf "product" "product" (defArgs s_product) (defBody s_product) (defScope s_product) .none kV16 dc16 pm16 an16 cd16 ct16), sl16⟩) (c16 : PySem.W.codeIn K cd16 "product" = true) (k16 : PySem.W.keepIn K (.ref f16) = true)
    (a17 : PySem.W.nsIn K mainGlobals "share" = some (some (.ref f17)))
    (l17 : K.lookup f17 = some ⟨oc17, od17, .func (PySem.W.fnOf "share" "share" (defArgs s_share) (defBody s_share) (defScope s_share) .none kV17 dc17 pm17 an17 cd17 ct17), sl17⟩) (c17 : PySem.W.codeIn K cd17 "share" = true) (k17 : PySem.W.keepIn K (.ref f17) = true)
    (a18 : PySem.W.nsIn K mainGlobals "coordinates" = some (some (.ref f18)))
    (l18 : K.lookup f18 = some ⟨oc18, od18, .func (PySem.W.fnOf "coordinates" "coordinates" (defArgs s_coordinates) (defBody s_coordinates) (defScope s_coordinates) .none kV18 dc18 pm18 an18 cd18 ct18), sl18⟩) (c18 : PySem.W.codeIn K cd18 "coordinates" = true) (k18 : PySem.W.keepIn K (.ref f18) = true)
    (a19 : PySem.W.nsIn K mainGlobals "equatorial" = some (some (.ref f19)))
    (l19 : K.lookup f19 = some ⟨oc19, od19, .func (PySem.W.fnOf "equatorial" "equatorial" (defArgs s_equatorial) (defBody s_equatorial) (defScope s_equatorial) .none kV19 dc19 pm19 an19 cd19 ct19), sl19⟩) (c19 : PySem.W.codeIn K cd19 "equatorial" = true) (k19 : PySem.W.keepIn K (.ref f19) = true)
    (a20 : PySem.W.nsIn K mainGlobals "turned" = some (some (.ref f20)))
    (l20 : K.lookup f20 = some ⟨oc20, od20, .func (PySem.W.fnOf "turned" "turned" (defArgs s_turned) (defBody s_turned) (defScope s_turned) .none kV20 dc20 pm20 an20 cd20 ct20), sl20⟩) (c20 : PySem.W.codeIn K cd20 "turned" = true) (k20 : PySem.W.keepIn K (.ref f20) = true)
    (a21 : PySem.W.nsIn K mainGlobals "altitude" = some (some (.ref f21)))
    (l21 : K.lookup f21 = some ⟨oc21, od21, .func (PySem.W.fnOf "altitude" "altitude" (defArgs s_altitude) (defBody s_altitude) (defScope s_altitude) .none kV21 dc21 pm21 an21 cd21 ct21), sl21⟩) (c21 : PySem.W.codeIn K cd21 "altitude" = true) (k21 : PySem.W.keepIn K (.ref f21) = true)
    (a22 : PySem.W.nsIn K mainGlobals "need_bodies" = some (some (.ref f22)))
    (l22 : K.lookup f22 = some ⟨oc22, od22, .func (PySem.W.fnOf "need_bodies" "need_bodies" (defArgs s_need_bodies) (defBody s_need_bodies) (defScope s_need_bodies) .none kV22 dc22 pm22 an22 cd22 ct22), sl22⟩) (c22 : PySem.W.codeIn K cd22 "need_bodies" = true) (k22 : PySem.W.keepIn K (.ref f22) = true)
    (a23 : PySem.W.nsIn K mainGlobals "nearness" = some (some (.ref f23)))
    (l23 : K.lookup f23 = some ⟨oc23, od23, .func (PySem.W.fnOf "nearness" "nearness" (defArgs s_nearness) (defBody s_nearness) (defScope s_nearness) .none kV23 dc23 pm23 an23 cd23 ct23), sl23⟩) (c23 : PySem.W.codeIn K cd23 "nearness" = true) (k23 : PySem.W.keepIn K (.ref f23) = true)
    (a24 : PySem.W.nsIn K mainGlobals "east" = some (some (.ref f24)))
    (l24 : K.lookup f24 = some ⟨oc24, od24, .func (PySem.W.fnOf "east" "east" (defArgs s_east) (defBody s_east) (defScope s_east) .none kV24 dc24 pm24 an24 cd24 ct24), sl24⟩) (c24 : PySem.W.codeIn K cd24 "east" = true) (k24 : PySem.W.keepIn K (.ref f24) = true)
    (a25 : PySem.W.nsIn K mainGlobals "south" = some (some (.ref f25)))
    (l25 : K.lookup f25 = some ⟨oc25, od25, .func (PySem.W.fnOf "south" "south" (defArgs s_south) (defBody s_south) (defScope s_south) .none kV25 dc25 pm25 an25 cd25 ct25), sl25⟩) (c25 : PySem.W.codeIn K cd25 "south" = true) (k25 : PySem.W.keepIn K (.ref f25) = true)
    (a26 : PySem.W.nsIn K mainGlobals "_law_start" = some (some (.ref f26)))
    (l26 : K.lookup f26 = some ⟨oc26, od26, .func (PySem.W.fnOf "_law_start" "_law_start" (defArgs s_u_law_start) (defBody s_u_law_start) (defScope s_u_law_start) .none kV26 dc26 pm26 an26 cd26 ct26), sl26⟩) (c26 : PySem.W.codeIn K cd26 "_law_start" = true) (k26 : PySem.W.keepIn K (.ref f26) = true)
    (a27 : PySem.W.nsIn K mainGlobals "_law_draw" = some (some (.ref f27)))
    (l27 : K.lookup f27 = some ⟨oc27, od27, .func (PySem.W.fnOf "_law_draw" "_law_draw" (defArgs s_u_law_draw) (defBody s_u_law_draw) (defScope s_u_law_draw) .none kV27 dc27 pm27 an27 cd27 ct27), sl27⟩) (c27 : PySem.W.codeIn K cd27 "_law_draw" = true) (k27 : PySem.W.keepIn K (.ref f27) = true)
    (a28 : PySem.W.nsIn K mainGlobals "_law_pick" = some (some (.ref f28)))
    (l28 : K.lookup f28 = some ⟨oc28, od28, .func (PySem.W.fnOf "_law_pick" "_law_pick" (defArgs s_u_law_pick) (defBody s_u_law_pick) (defScope s_u_law_pick) .none kV28 dc28 pm28 an28 cd28 ct28), sl28⟩) (c28 : PySem.W.codeIn K cd28 "_law_pick" = true) (k28 : PySem.W.keepIn K (.ref f28) = true)
    (a29 : PySem.W.nsIn K mainGlobals "_law_is" = some (some (.ref f29)))
    (l29 : K.lookup f29 = some ⟨oc29, od29, .func (PySem.W.fnOf "_law_is" "_law_is" (defArgs s_u_law_is) (defBody s_u_law_is) (defScope s_u_law_is) .none kV29 dc29 pm29 an29 cd29 ct29), sl29⟩) (c29 : PySem.W.codeIn K cd29 "_law_is" = true) (k29 : PySem.W.keepIn K (.ref f29) = true)
    (a30 : PySem.W.nsIn K mainGlobals "_law_arch" = some (some (.ref f30)))
    (l30 : K.lookup f30 = some ⟨oc30, od30, .func (PySem.W.fnOf "_law_arch" "_law_arch" (defArgs s_u_law_arch) (defBody s_u_law_arch) (defScope s_u_law_arch) .none kV30 dc30 pm30 an30 cd30 ct30), sl30⟩) (c30 : PySem.W.codeIn K cd30 "_law_arch" = true) (k30 : PySem.W.keepIn K (.ref f30) = true)
    (a31 : PySem.W.nsIn K mainGlobals "_law_wave" = some (some (.ref f31)))
    (l31 : K.lookup f31 = some ⟨oc31, od31, .func (PySem.W.fnOf "_law_wave" "_law_wave" (defArgs s_u_law_wave) (defBody s_u_law_wave) (defScope s_u_law_wave) .none kV31 dc31 pm31 an31 cd31 ct31), sl31⟩) (c31 : PySem.W.codeIn K cd31 "_law_wave" = true) (k31 : PySem.W.keepIn K (.ref f31) = true)
    (a32 : PySem.W.nsIn K mainGlobals "_law_motion" = some (some (.ref f32)))
    (l32 : K.lookup f32 = some ⟨oc32, od32, .func (PySem.W.fnOf "_law_motion" "_law_motion" (defArgs s_u_law_motion) (defBody s_u_law_motion) (defScope s_u_law_motion) .none kV32 dc32 pm32 an32 cd32 ct32), sl32⟩) (c32 : PySem.W.codeIn K cd32 "_law_motion" = true) (k32 : PySem.W.keepIn K (.ref f32) = true)
    (a33 : PySem.W.nsIn K mainGlobals "_law_terms" = some (some (.ref f33)))
    (l33 : K.lookup f33 = some ⟨oc33, od33, .func (PySem.W.fnOf "_law_terms" "_law_terms" (defArgs s_u_law_terms) (defBody s_u_law_terms) (defScope s_u_law_terms) .none kV33 dc33 pm33 an33 cd33 ct33), sl33⟩) (c33 : PySem.W.codeIn K cd33 "_law_terms" = true) (k33 : PySem.W.keepIn K (.ref f33) = true)
    (a34 : PySem.W.nsIn K mainGlobals "_law_body" = some (some (.ref f34)))
    (l34 : K.lookup f34 = some ⟨oc34, od34, .func (PySem.W.fnOf "_law_body" "_law_body" (defArgs s_u_law_body) (defBody s_u_law_body) (defScope s_u_law_body) .none kV34 dc34 pm34 an34 cd34 ct34), sl34⟩) (c34 : PySem.W.codeIn K cd34 "_law_body" = true) (k34 : PySem.W.keepIn K (.ref f34) = true)
    (a35 : PySem.W.nsIn K mainGlobals "_law_sky" = some (some (.ref f35)))
    (l35 : K.lookup f35 = some ⟨oc35, od35, .func (PySem.W.fnOf "_law_sky" "_law_sky" (defArgs s_u_law_sky) (defBody s_u_law_sky) (defScope s_u_law_sky) .none kV35 dc35 pm35 an35 cd35 ct35), sl35⟩) (c35 : PySem.W.codeIn K cd35 "_law_sky" = true) (k35 : PySem.W.keepIn K (.ref f35) = true)
    (a36 : PySem.W.nsIn K mainGlobals "_law_place" = some (some (.ref f36)))
    (l36 : K.lookup f36 = some ⟨oc36, od36, .func (PySem.W.fnOf "_law_place" "_law_place" (defArgs s_u_law_place) (defBody s_u_law_place) (defScope s_u_law_place) .none kV36 dc36 pm36 an36 cd36 ct36), sl36⟩) (c36 : PySem.W.codeIn K cd36 "_law_place" = true) (k36 : PySem.W.keepIn K (.ref f36) = true)
    (a37 : PySem.W.nsIn K mainGlobals "_law_terms_q" = some (some (.ref f37)))
    (l37 : K.lookup f37 = some ⟨oc37, od37, .func (PySem.W.fnOf "_law_terms_q" "_law_terms_q" (defArgs s_u_law_terms_q) (defBody s_u_law_terms_q) (defScope s_u_law_terms_q) .none kV37 dc37 pm37 an37 cd37 ct37), sl37⟩) (c37 : PySem.W.codeIn K cd37 "_law_terms_q" = true) (k37 : PySem.W.keepIn K (.ref f37) = true)
    (a38 : PySem.W.nsIn K mainGlobals "_law_longitude" = some (some (.ref f38)))
    (l38 : K.lookup f38 = some ⟨oc38, od38, .func (PySem.W.fnOf "_law_longitude" "_law_longitude" (defArgs s_u_law_longitude) (defBody s_u_law_longitude) (defScope s_u_law_longitude) .none kV38 dc38 pm38 an38 cd38 ct38), sl38⟩) (c38 : PySem.W.codeIn K cd38 "_law_longitude" = true) (k38 : PySem.W.keepIn K (.ref f38) = true)
    (a39 : PySem.W.nsIn K mainGlobals "_law_latitude" = some (some (.ref f39)))
    (l39 : K.lookup f39 = some ⟨oc39, od39, .func (PySem.W.fnOf "_law_latitude" "_law_latitude" (defArgs s_u_law_latitude) (defBody s_u_law_latitude) (defScope s_u_law_latitude) .none kV39 dc39 pm39 an39 cd39 ct39), sl39⟩) (c39 : PySem.W.codeIn K cd39 "_law_latitude" = true) (k39 : PySem.W.keepIn K (.ref f39) = true)
    (a40 : PySem.W.nsIn K mainGlobals "_law_ahead" = some (some (.ref f40)))
    (l40 : K.lookup f40 = some ⟨oc40, od40, .func (PySem.W.fnOf "_law_ahead" "_law_ahead" (defArgs s_u_law_ahead) (defBody s_u_law_ahead) (defScope s_u_law_ahead) .none kV40 dc40 pm40 an40 cd40 ct40), sl40⟩) (c40 : PySem.W.codeIn K cd40 "_law_ahead" = true) (k40 : PySem.W.keepIn K (.ref f40) = true)
    (a41 : PySem.W.nsIn K mainGlobals "_law_times" = some (some (.ref f41)))
    (l41 : K.lookup f41 = some ⟨oc41, od41, .func (PySem.W.fnOf "_law_times" "_law_times" (defArgs s_u_law_times) (defBody s_u_law_times) (defScope s_u_law_times) .none kV41 dc41 pm41 an41 cd41 ct41), sl41⟩) (c41 : PySem.W.codeIn K cd41 "_law_times" = true) (k41 : PySem.W.keepIn K (.ref f41) = true)
    (a42 : PySem.W.nsIn K mainGlobals "_law_part" = some (some (.ref f42)))
    (l42 : K.lookup f42 = some ⟨oc42, od42, .func (PySem.W.fnOf "_law_part" "_law_part" (defArgs s_u_law_part) (defBody s_u_law_part) (defScope s_u_law_part) .none kV42 dc42 pm42 an42 cd42 ct42), sl42⟩) (c42 : PySem.W.codeIn K cd42 "_law_part" = true) (k42 : PySem.W.keepIn K (.ref f42) = true)
    (a43 : PySem.W.nsIn K mainGlobals "_law_coordinates" = some (some (.ref f43)))
    (l43 : K.lookup f43 = some ⟨oc43, od43, .func (PySem.W.fnOf "_law_coordinates" "_law_coordinates" (defArgs s_u_law_coordinates) (defBody s_u_law_coordinates) (defScope s_u_law_coordinates) .none kV43 dc43 pm43 an43 cd43 ct43), sl43⟩) (c43 : PySem.W.codeIn K cd43 "_law_coordinates" = true) (k43 : PySem.W.keepIn K (.ref f43) = true)
    (a44 : PySem.W.nsIn K mainGlobals "_law_equator" = some (some (.ref f44)))
    (l44 : K.lookup f44 = some ⟨oc44, od44, .func (PySem.W.fnOf "_law_equator" "_law_equator" (defArgs s_u_law_equator) (defBody s_u_law_equator) (defScope s_u_law_equator) .none kV44 dc44 pm44 an44 cd44 ct44), sl44⟩) (c44 : PySem.W.codeIn K cd44 "_law_equator" = true) (k44 : PySem.W.keepIn K (.ref f44) = true)
    (a45 : PySem.W.nsIn K mainGlobals "_law_turned" = some (some (.ref f45)))
    (l45 : K.lookup f45 = some ⟨oc45, od45, .func (PySem.W.fnOf "_law_turned" "_law_turned" (defArgs s_u_law_turned) (defBody s_u_law_turned) (defScope s_u_law_turned) .none kV45 dc45 pm45 an45 cd45 ct45), sl45⟩) (c45 : PySem.W.codeIn K cd45 "_law_turned" = true) (k45 : PySem.W.keepIn K (.ref f45) = true)
    (a46 : PySem.W.nsIn K mainGlobals "_law_altitude" = some (some (.ref f46)))
    (l46 : K.lookup f46 = some ⟨oc46, od46, .func (PySem.W.fnOf "_law_altitude" "_law_altitude" (defArgs s_u_law_altitude) (defBody s_u_law_altitude) (defScope s_u_law_altitude) .none kV46 dc46 pm46 an46 cd46 ct46), sl46⟩) (c46 : PySem.W.codeIn K cd46 "_law_altitude" = true) (k46 : PySem.W.keepIn K (.ref f46) = true)
    (a47 : PySem.W.nsIn K mainGlobals "_law_near" = some (some (.ref f47)))
    (l47 : K.lookup f47 = some ⟨oc47, od47, .func (PySem.W.fnOf "_law_near" "_law_near" (defArgs s_u_law_near) (defBody s_u_law_near) (defScope s_u_law_near) .none kV47 dc47 pm47 an47 cd47 ct47), sl47⟩) (c47 : PySem.W.codeIn K cd47 "_law_near" = true) (k47 : PySem.W.keepIn K (.ref f47) = true)
    (a48 : PySem.W.nsIn K mainGlobals "_law_refused" = some (some (.ref f48)))
    (l48 : K.lookup f48 = some ⟨oc48, od48, .func (PySem.W.fnOf "_law_refused" "_law_refused" (defArgs s_u_law_refused) (defBody s_u_law_refused) (defScope s_u_law_refused) .none kV48 dc48 pm48 an48 cd48 ct48), sl48⟩) (c48 : PySem.W.codeIn K cd48 "_law_refused" = true) (k48 : PySem.W.keepIn K (.ref f48) = true)
    (a49 : PySem.W.nsIn K mainGlobals "law" = some (some (.ref f49)))
    (l49 : K.lookup f49 = some ⟨oc49, od49, .func (PySem.W.fnOf "law" "law" (defArgs s_law) (defBody s_law) (defScope s_law) .none kV49 dc49 pm49 an49 cd49 ct49), sl49⟩) (c49 : PySem.W.codeIn K cd49 "law" = true) (k49 : PySem.W.keepIn K (.ref f49) = true)
    (z_divmod : PySem.W.nsIn K mainGlobals "divmod" = some none)
    (z_isinstance : PySem.W.nsIn K mainGlobals "isinstance" = some none)
    (z_int : PySem.W.nsIn K mainGlobals "int" = some none)
    (z_bool : PySem.W.nsIn K mainGlobals "bool" = some none)
    (z_tuple : PySem.W.nsIn K mainGlobals "tuple" = some none)
    (z_len : PySem.W.nsIn K mainGlobals "len" = some none)
    (z_str : PySem.W.nsIn K mainGlobals "str" = some none)
    (z_all : PySem.W.nsIn K mainGlobals "all" = some none)
    (z_zip : PySem.W.nsIn K mainGlobals "zip" = some none)
    (z_min : PySem.W.nsIn K mainGlobals "min" = some none)
    (z_range : PySem.W.nsIn K mainGlobals "range" = some none)
    (z_sorted : PySem.W.nsIn K mainGlobals "sorted" = some none)
    (z_repr : PySem.W.nsIn K mainGlobals "repr" = some none)
    (z_abs : PySem.W.nsIn K mainGlobals "abs" = some none)
    (z_super : PySem.W.nsIn K mainGlobals "super" = some none) (opq : PySem.W.nsIn K cStatics "thirdparty.any" = some none) (top : (P.main.scope.names.lookup ("super" : Str)).isSome = false)
    {C_SkyError : Addr} (aC_SkyError : PySem.W.nsIn K mainGlobals "SkyError" = some (some (.ref C_SkyError)))
    (ex_SkyError : PySem.W.subIn K (.ref C_SkyError) (.type "BaseException") = some true) (ty_SkyError : PySem.W.typeIn K (.ref C_SkyError) = some (.type "type")) (is_SkyError : PySem.W.isClsIn K C_SkyError = true)
    {nm_SkyError} {qn_SkyError} {N_SkyError} {bs_SkyError} {bm_SkyError} {sn_SkyError} {sub_SkyError} {ab_SkyError} {col_SkyError} {dd_SkyError} {k0_SkyError} {k1_SkyError} {k2_SkyError} {k3_SkyError} {k5_SkyError} (lC_SkyError : K.lookup C_SkyError = some (excClassObj nm_SkyError qn_SkyError C_SkyError N_SkyError bs_SkyError bm_SkyError true sn_SkyError sub_SkyError ab_SkyError col_SkyError dd_SkyError k0_SkyError k1_SkyError k2_SkyError k3_SkyError k5_SkyError "ValueError.__new__")) (re_SkyError : PySem.HandSPX.refsVE bm_SkyError = true) (sa_SkyError : PySem.W.findIn K (.ref C_SkyError) "__setattr__" = some (some (.builtin "object.__setattr__"))) (kC_SkyError : PySem.W.keepIn K (.ref C_SkyError) = true) {i_SkyError : Addr} (iC_SkyError : PySem.W.findIn K (.ref C_SkyError) "__init__" = some (some (.ref i_SkyError))) (tI_SkyError : PySem.W.typeIn K (.ref i_SkyError) = some (.type "function")) {oc_SkyError kV_SkyError doc_SkyError pm_SkyError ct_SkyError : Value} {od_SkyError an_SkyError : Option Addr} {osl_SkyError : Array (Option Value)} {cda_SkyError cc_SkyError : Addr} (lf_SkyError : K.lookup i_SkyError = some ⟨oc_SkyError, od_SkyError, .func (PySem.W.ksFn "__init__" "SkyError.__init__" (defArgs (inClass (topS 10) 0)) (defBody (inClass (topS 10) 0)) (defScope (inClass (topS 10) 0)) .none kV_SkyError doc_SkyError pm_SkyError an_SkyError (.ref cda_SkyError) ct_SkyError cc_SkyError), osl_SkyError⟩) (cd_SkyError : PySem.W.codeIn K (.ref cda_SkyError) "SkyError.__init__" = true) {cl1_SkyError : Value} {od1_SkyError : Option Addr} {vs1_SkyError : Array Value} {sl1_SkyError : Array (Option Value)} {fi_SkyError : Str} {tf_SkyError : Tok} (lcd_SkyError : K.lookup cda_SkyError = some ⟨cl1_SkyError, od1_SkyError, .fields vs1_SkyError, sl1_SkyError⟩) (v2_SkyError : vs1_SkyError[2]? = some (.str fi_SkyError tf_SkyError)) (pf_SkyError : (P.main.file == fi_SkyError) = true) {cl2_SkyError : Value} {od2_SkyError : Option Addr} {sl2_SkyError : Array (Option Value)} (lcc_SkyError : K.lookup cc_SkyError = some ⟨cl2_SkyError, od2_SkyError, .cell (some (.ref C_SkyError)), sl2_SkyError⟩) (sup_SkyError : PySem.W.ks_superIn K C_SkyError C_SkyError "__init__" = some (some (.builtin "ValueError.__init__"))) (sub_SkyError : PySem.W.subIn K (.ref C_SkyError) (.type "ValueError") = some true) (mro_SkyError : PySem.W.mroIn K C_SkyError (.ref C_SkyError) = some true) (ga_SkyError : PySem.W.findIn K (.ref C_SkyError) "__getattribute__" = some (some (.builtin "BaseException.__getattribute__"))) (gg_SkyError : PySem.W.findIn K (.ref C_SkyError) "__getattr__" = some none) (hdC_SkyError : PySem.W.hasDictIn K C_SkyError = true)
    (nf_SkyError_code : PySem.W.findIn K (.ref C_SkyError) "code" = some none)
    (nf_SkyError_name : PySem.W.findIn K (.ref C_SkyError) "name" = some none)
    (sb_SkyError_SkyError : PySem.W.subIn K (.ref C_SkyError) (.ref C_SkyError) = some true)
    {t_ONE : Tok} (g_ONE : PySem.W.nsIn K mainGlobals "ONE" = some (some (.int (1000000) t_ONE)))
    {t_QUARTER : Tok} (g_QUARTER : PySem.W.nsIn K mainGlobals "QUARTER" = some (some (.int (324000) t_QUARTER)))
    {t_TURN : Tok} (g_TURN : PySem.W.nsIn K mainGlobals "TURN" = some (some (.int (1296000) t_TURN)))
    {t_GREATEST : Tok} (g_GREATEST : PySem.W.nsIn K mainGlobals "GREATEST" = some (some (.int (1000000000000) t_GREATEST)))
    {a_FORMS : Addr} {es_FORMS : Array DictEntry} {n_FORMS : Nat} (g_FORMS : PySem.W.nsIn K mainGlobals "FORMS" = some (some (.ref a_FORMS))) (l_FORMS : K.lookup a_FORMS = some ⟨.type "dict", none, .dict es_FORMS n_FORMS, #[]⟩) (kl_FORMS : PySem.W.KeysLit w.params es_FORMS.toList) (lo_FORMS : (a_FORMS == sysModules) = false) (en_FORMS : Ents es_FORMS.toList [("number", "qn"), ("wave", "qa"), ("sum", "q"), ("share", "qqnd"), ("product", "qqqd"), ("later", "qqn"), ("turning", "annd"), ("moved", "aaq"), ("minus", "aaa")])
    {t_DEEPEST : Tok} (g_DEEPEST : PySem.W.nsIn K mainGlobals "DEEPEST" = some (some (.int (20) t_DEEPEST))) :
    ∃ fd : FuncData, (∀ (s : Shared) (v : Value), BindsTo s fd ⟨[v], []⟩ [("script", v)]) ∧ ∀ base : Heap, K.In base → base.Ns mainGlobals mg → RunG P w K mg base 63 fa fd ["script"] (spLaw K) := by
  have e := hfa.symm.trans (PySem.W.mg_of X G a49)
  cases e
  let T : Txt P w K mg := { a_arch := f0, e_arch := _, F_arch := fun_mk l0 c0 k0, b_arch := (fun_mk (st := s_arch) l0 c0 k0).binds (fun _ _ _ _ _ _ us hl => match us, hl with | [_], _ => rfl), d_arch := PySem.W.mg_of X G a0, a_wave := f1, e_wave := _, F_wave := fun_mk l1 c1 k1, b_wave := (fun_mk (st := s_wave) l1 c1 k1).binds (fun _ _ _ _ _ _ us hl => match us, hl with | [_], _ => rfl), d_wave := PySem.W.mg_of X G a1, a_cosine := f2, e_cosine := _, F_cosine := fun_mk l2 c2 k2, b_cosine := (fun_mk (st := s_cosine) l2 c2 k2).binds (fun _ _ _ _ _ _ us hl => match us, hl with | [_], _ => rfl), d_cosine := PySem.W.mg_of X G a2, a_is_number := f3, e_is_number := _, F_is_number := fun_mk l3 c3 k3, b_is_number := (fun_mk (st := s_is_number) l3 c3 k3).binds (fun _ _ _ _ _ _ us hl => match us, hl with | [_, _], _ => rfl), d_is_number := PySem.W.mg_of X G a3, a_letters_of := f4, e_letters_of := _, F_letters_of := fun_mk l4 c4 k4, b_letters_of := (fun_mk (st := s_letters_of) l4 c4 k4).binds (fun _ _ _ _ _ _ us hl => match us, hl with | [_, _], _ => rfl), d_letters_of := PySem.W.mg_of X G a4, a_is_expression := f5, e_is_expression := _, F_is_expression := fun_mk l5 c5 k5, b_is_expression := (fun_mk (st := s_is_expression) l5 c5 k5).binds (fun _ _ _ _ _ _ us hl => match us, hl with | [_, _, _], _ => rfl), d_is_expression := PySem.W.mg_of X G a5, a_fits := f6, e_fits := _, F_fits := fun_mk l6 c6 k6, b_fits := (fun_mk (st := s_fits) l6 c6 k6).binds (fun _ _ _ _ _ _ us hl => match us, hl with | [_, _, _], _ => rfl), d_fits := PySem.W.mg_of X G a6, a_is_quantity := f7, e_is_quantity := _, F_is_quantity := fun_mk l7 c7 k7, b_is_quantity := (fun_mk (st := s_is_quantity) l7 c7 k7).binds (fun _ _ _ _ _ _ us hl => match us, hl with | [_], _ => rfl), d_is_quantity := PySem.W.mg_of X G a7, a_is_angle := f8, e_is_angle := _, F_is_angle := fun_mk l8 c8 k8, b_is_angle := (fun_mk (st := s_is_angle) l8 c8 k8).binds (fun _ _ _ _ _ _ us hl => match us, hl with | [_], _ => rfl), d_is_angle := PySem.W.mg_of X G a8, a_negative := f9, e_negative := _, F_negative := fun_mk l9 c9 k9, b_negative := (fun_mk (st := s_negative) l9 c9 k9).binds (fun _ _ _ _ _ _ us hl => match us, hl with | [_], _ => rfl), d_negative := PySem.W.mg_of X G a9, a_term_quantity := f10, e_term_quantity := _, F_term_quantity := fun_mk l10 c10 k10, b_term_quantity := (fun_mk (st := s_term_quantity) l10 c10 k10).binds (fun _ _ _ _ _ _ us hl => match us, hl with | [_], _ => rfl), d_term_quantity := PySem.W.mg_of X G a10, a_terms_quantity := f11, e_terms_quantity := _, F_terms_quantity := fun_mk l11 c11 k11, b_terms_quantity := (fun_mk (st := s_terms_quantity) l11 c11 k11).binds (fun _ _ _ _ _ _ us hl => match us, hl with | [_], _ => rfl), d_terms_quantity := PySem.W.mg_of X G a11, a_body_of := f12, e_body_of := _, F_body_of := fun_mk l12 c12 k12, b_body_of := (fun_mk (st := s_body_of) l12 c12 k12).binds (fun _ _ _ _ _ _ us hl => match us, hl with | [_, _], _ => rfl), d_body_of := PySem.W.mg_of X G a12, a_longitude := f13, e_longitude := _, F_longitude := fun_mk l13 c13 k13, b_longitude := (fun_mk (st := s_longitude) l13 c13 k13).binds (fun _ _ _ _ _ _ us hl => match us, hl with | [_, _], _ => rfl), d_longitude := PySem.W.mg_of X G a13, a_latitude := f14, e_latitude := _, F_latitude := fun_mk l14 c14 k14, b_latitude := (fun_mk (st := s_latitude) l14 c14 k14).binds (fun _ _ _ _ _ _ us hl => match us, hl with | [_, _], _ => rfl), d_latitude := PySem.W.mg_of X G a14, a_elongation := f15, e_elongation := _, F_elongation := fun_mk l15 c15 k15, b_elongation := (fun_mk (st := s_elongation) l15 c15 k15).binds (fun _ _ _ _ _ _ us hl => match us, hl with | [_, _, _], _ => rfl), d_elongation := PySem.W.mg_of X G a15, a_product := f16, e_product := _, F_product := fun_mk l16 c16 k16, b_product := (fun_mk (st := s_product) l16 c16 k16).binds (fun _ _ _ _ _ _ us hl => match us, hl with | [_, _], _ => rfl), d_product := PySem.W.mg_of X G a16, a_share := f17, e_share := _, F_share := fun_mk l17 c17 k17, b_share := (fun_mk (st := s_share) l17 c17 k17).binds (fun _ _ _ _ _ _ us hl => match us, hl with | [_, _], _ => rfl), d_share := PySem.W.mg_of X G a17, a_coordinates := f18, e_coordinates := _, F_coordinates := fun_mk l18 c18 k18, b_coordinates := (fun_mk (st := s_coordinates) l18 c18 k18).binds (fun _ _ _ _ _ _ us hl => match us, hl with | [_, _], _ => rfl), d_coordinates := PySem.W.mg_of X G a18, a_equatorial := f19, e_equatorial := _, F_equatorial := fun_mk l19 c19 k19, b_equatorial := (fun_mk (st := s_equatorial) l19 c19 k19).binds (fun _ _ _ _ _ _ us hl => match us, hl with | [_, _], _ => rfl), d_equatorial := PySem.W.mg_of X G a19, a_turned := f20, e_turned := _, F_turned := fun_mk l20 c20 k20, b_turned := (fun_mk (st := s_turned) l20 c20 k20).binds (fun _ _ _ _ _ _ us hl => match us, hl with | [_, _], _ => rfl), d_turned := PySem.W.mg_of X G a20, a_altitude := f21, e_altitude := _, F_altitude := fun_mk l21 c21 k21, b_altitude := (fun_mk (st := s_altitude) l21 c21 k21).binds (fun _ _ _ _ _ _ us hl => match us, hl with | [_, _, _], _ => rfl), d_altitude := PySem.W.mg_of X G a21, a_need_bodies := f22, e_need_bodies := _, F_need_bodies := fun_mk l22 c22 k22, b_need_bodies := (fun_mk (st := s_need_bodies) l22 c22 k22).binds (fun _ _ _ _ _ _ us hl => match us, hl with | [_, _], _ => rfl), d_need_bodies := PySem.W.mg_of X G a22, a_nearness := f23, e_nearness := _, F_nearness := fun_mk l23 c23 k23, b_nearness := (fun_mk (st := s_nearness) l23 c23 k23).binds (fun _ _ _ _ _ _ us hl => match us, hl with | [_, _, _, _], _ => rfl), d_nearness := PySem.W.mg_of X G a23, a_east := f24, e_east := _, F_east := fun_mk l24 c24 k24, b_east := (fun_mk (st := s_east) l24 c24 k24).binds (fun _ _ _ _ _ _ us hl => match us, hl with | [_, _, _], _ => rfl), d_east := PySem.W.mg_of X G a24, a_south := f25, e_south := _, F_south := fun_mk l25 c25 k25, b_south := (fun_mk (st := s_south) l25 c25 k25).binds (fun _ _ _ _ _ _ us hl => match us, hl with | [_, _, _], _ => rfl), d_south := PySem.W.mg_of X G a25, a_u_law_start := f26, e_u_law_start := _, F_u_law_start := fun_mk l26 c26 k26, b_u_law_start := (fun_mk (st := s_u_law_start) l26 c26 k26).binds (fun _ _ _ _ _ _ us hl => match us, hl with | [_], _ => rfl), d_u_law_start := PySem.W.mg_of X G a26, a_u_law_draw := f27, e_u_law_draw := _, F_u_law_draw := fun_mk l27 c27 k27, b_u_law_draw := (fun_mk (st := s_u_law_draw) l27 c27 k27).binds (fun _ _ _ _ _ _ us hl => match us, hl with | [_, _], _ => rfl), d_u_law_draw := PySem.W.mg_of X G a27, a_u_law_pick := f28, e_u_law_pick := _, F_u_law_pick := fun_mk l28 c28 k28, b_u_law_pick := (fun_mk (st := s_u_law_pick) l28 c28 k28).binds (fun _ _ _ _ _ _ us hl => match us, hl with | [_, _], _ => rfl), d_u_law_pick := PySem.W.mg_of X G a28, a_u_law_is := f29, e_u_law_is := _, F_u_law_is := fun_mk l29 c29 k29, b_u_law_is := (fun_mk (st := s_u_law_is) l29 c29 k29).binds (fun _ _ _ _ _ _ us hl => match us, hl with | [_, _], _ => rfl), d_u_law_is := PySem.W.mg_of X G a29, a_u_law_arch := f30, e_u_law_arch := _, F_u_law_arch := fun_mk l30 c30 k30, b_u_law_arch := (fun_mk (st := s_u_law_arch) l30 c30 k30).binds (fun _ _ _ _ _ _ us hl => match us, hl with | [_], _ => rfl), d_u_law_arch := PySem.W.mg_of X G a30, a_u_law_wave := f31, e_u_law_wave := _, F_u_law_wave := fun_mk l31 c31 k31, b_u_law_wave := (fun_mk (st := s_u_law_wave) l31 c31 k31).binds (fun _ _ _ _ _ _ us hl => match us, hl with | [_], _ => rfl), d_u_law_wave := PySem.W.mg_of X G a31, a_u_law_motion := f32, e_u_law_motion := _, F_u_law_motion := fun_mk l32 c32 k32, b_u_law_motion := (fun_mk (st := s_u_law_motion) l32 c32 k32).binds (fun _ _ _ _ _ _ us hl => match us, hl with | [_], _ => rfl), d_u_law_motion := PySem.W.mg_of X G a32, a_u_law_terms := f33, e_u_law_terms := _, F_u_law_terms := fun_mk l33 c33 k33, b_u_law_terms := (fun_mk (st := s_u_law_terms) l33 c33 k33).binds (fun _ _ _ _ _ _ us hl => match us, hl with | [_, _, _], _ => rfl), d_u_law_terms := PySem.W.mg_of X G a33, a_u_law_body := f34, e_u_law_body := _, F_u_law_body := fun_mk l34 c34 k34, b_u_law_body := (fun_mk (st := s_u_law_body) l34 c34 k34).binds (fun _ _ _ _ _ _ us hl => match us, hl with | [_], _ => rfl), d_u_law_body := PySem.W.mg_of X G a34, a_u_law_sky := f35, e_u_law_sky := _, F_u_law_sky := fun_mk l35 c35 k35, b_u_law_sky := (fun_mk (st := s_u_law_sky) l35 c35 k35).binds (fun _ _ _ _ _ _ us hl => match us, hl with | [_, _], _ => rfl), d_u_law_sky := PySem.W.mg_of X G a35, a_u_law_place := f36, e_u_law_place := _, F_u_law_place := fun_mk l36 c36 k36, b_u_law_place := (fun_mk (st := s_u_law_place) l36 c36 k36).binds (fun _ _ _ _ _ _ us hl => match us, hl with | [_], _ => rfl), d_u_law_place := PySem.W.mg_of X G a36, a_u_law_terms_q := f37, e_u_law_terms_q := _, F_u_law_terms_q := fun_mk l37 c37 k37, b_u_law_terms_q := (fun_mk (st := s_u_law_terms_q) l37 c37 k37).binds (fun _ _ _ _ _ _ us hl => match us, hl with | [_], _ => rfl), d_u_law_terms_q := PySem.W.mg_of X G a37, a_u_law_longitude := f38, e_u_law_longitude := _, F_u_law_longitude := fun_mk l38 c38 k38, b_u_law_longitude := (fun_mk (st := s_u_law_longitude) l38 c38 k38).binds (fun _ _ _ _ _ _ us hl => match us, hl with | [_, _], _ => rfl), d_u_law_longitude := PySem.W.mg_of X G a38, a_u_law_latitude := f39, e_u_law_latitude := _, F_u_law_latitude := fun_mk l39 c39 k39, b_u_law_latitude := (fun_mk (st := s_u_law_latitude) l39 c39 k39).binds (fun _ _ _ _ _ _ us hl => match us, hl with | [_, _], _ => rfl), d_u_law_latitude := PySem.W.mg_of X G a39, a_u_law_ahead := f40, e_u_law_ahead := _, F_u_law_ahead := fun_mk l40 c40 k40, b_u_law_ahead := (fun_mk (st := s_u_law_ahead) l40 c40 k40).binds (fun _ _ _ _ _ _ us hl => match us, hl with | [_], _ => rfl), d_u_law_ahead := PySem.W.mg_of X G a40, a_u_law_times := f41, e_u_law_times := _, F_u_law_times := fun_mk l41 c41 k41, b_u_law_times := (fun_mk (st := s_u_law_times) l41 c41 k41).binds (fun _ _ _ _ _ _ us hl => match us, hl with | [_, _], _ => rfl), d_u_law_times := PySem.W.mg_of X G a41, a_u_law_part := f42, e_u_law_part := _, F_u_law_part := fun_mk l42 c42 k42, b_u_law_part := (fun_mk (st := s_u_law_part) l42 c42 k42).binds (fun _ _ _ _ _ _ us hl => match us, hl with | [_, _], _ => rfl), d_u_law_part := PySem.W.mg_of X G a42, a_u_law_coordinates := f43, e_u_law_coordinates := _, F_u_law_coordinates := fun_mk l43 c43 k43, b_u_law_coordinates := (fun_mk (st := s_u_law_coordinates) l43 c43 k43).binds (fun _ _ _ _ _ _ us hl => match us, hl with | [_, _], _ => rfl), d_u_law_coordinates := PySem.W.mg_of X G a43, a_u_law_equator := f44, e_u_law_equator := _, F_u_law_equator := fun_mk l44 c44 k44, b_u_law_equator := (fun_mk (st := s_u_law_equator) l44 c44 k44).binds (fun _ _ _ _ _ _ us hl => match us, hl with | [_, _], _ => rfl), d_u_law_equator := PySem.W.mg_of X G a44, a_u_law_turned := f45, e_u_law_turned := _, F_u_law_turned := fun_mk l45 c45 k45, b_u_law_turned := (fun_mk (st := s_u_law_turned) l45 c45 k45).binds (fun _ _ _ _ _ _ us hl => match us, hl with | [_, _], _ => rfl), d_u_law_turned := PySem.W.mg_of X G a45, a_u_law_altitude := f46, e_u_law_altitude := _, F_u_law_altitude := fun_mk l46 c46 k46, b_u_law_altitude := (fun_mk (st := s_u_law_altitude) l46 c46 k46).binds (fun _ _ _ _ _ _ us hl => match us, hl with | [_, _, _], _ => rfl), d_u_law_altitude := PySem.W.mg_of X G a46, a_u_law_near := f47, e_u_law_near := _, F_u_law_near := fun_mk l47 c47 k47, b_u_law_near := (fun_mk (st := s_u_law_near) l47 c47 k47).binds (fun _ _ _ _ _ _ us hl => match us, hl with | [_, _, _, _], _ => rfl), d_u_law_near := PySem.W.mg_of X G a47, a_u_law_refused := f48, e_u_law_refused := _, F_u_law_refused := fun_mk l48 c48 k48, b_u_law_refused := (fun_mk (st := s_u_law_refused) l48 c48 k48).binds (fun _ _ _ _ _ _ us hl => match us, hl with | [_, _, _, _, _], _ => rfl), d_u_law_refused := PySem.W.mg_of X G a48, a_law := fa, e_law := _, F_law := fun_mk l49 c49 k49, b_law := (fun_mk (st := s_law) l49 c49 k49).binds (fun _ _ _ _ _ _ us hl => match us, hl with | [_], _ => rfl), d_law := PySem.W.mg_of X G a49, C_SkyError := C_SkyError, c_SkyError := PySem.W.mg_of X G aC_SkyError, nf_SkyError_code := nf_SkyError_code, nf_SkyError_name := nf_SkyError_name, oex_SkyError := ⟨⟨_, _, _, _, _, _, _, _, _, _, _, _, _, _, _, lC_SkyError, re_SkyError⟩, sa_SkyError, ex_SkyError, ty_SkyError, kC_SkyError⟩, i_SkyError := i_SkyError, e_SkyError := _, iC_SkyError := iC_SkyError, tI_SkyError := tI_SkyError, xf_SkyError := ⟨ga_SkyError, gg_SkyError, ex_SkyError, hdC_SkyError⟩, ok_SkyError := fun w base => err2R (k := 0) sc_SkyError ⟨⟨⟨_, _, _, _, _, _, _, _, _, _, _, _, _, _, _, lC_SkyError, re_SkyError⟩, sa_SkyError, ex_SkyError, ty_SkyError, kC_SkyError⟩, ⟨_, _, _, _, _, _, lcd_SkyError, v2_SkyError, pf_SkyError⟩, ⟨_, _, _, lf_SkyError⟩, ⟨_, _, _, lcc_SkyError⟩, top, opq, sup_SkyError, sub_SkyError, mro_SkyError⟩ cd_SkyError rfl rfl (PySem.W.mg_none_of X G z_super) nf_SkyError_code (by decide) (by decide) (by decide) nf_SkyError_name (by decide) (by decide) (by decide), b_SkyError := .all (fun us hl => match us, hl with | [_, _, _], _ => rfl), em_SkyError_SkyError := exm_mk ex_SkyError is_SkyError ty_SkyError sb_SkyError_SkyError, z_divmod := PySem.W.mg_none_of X G z_divmod, z_isinstance := PySem.W.mg_none_of X G z_isinstance, z_int := PySem.W.mg_none_of X G z_int, z_bool := PySem.W.mg_none_of X G z_bool, z_tuple := PySem.W.mg_none_of X G z_tuple, z_len := PySem.W.mg_none_of X G z_len, z_str := PySem.W.mg_none_of X G z_str, z_all := PySem.W.mg_none_of X G z_all, z_zip := PySem.W.mg_none_of X G z_zip, z_min := PySem.W.mg_none_of X G z_min, z_range := PySem.W.mg_none_of X G z_range, z_sorted := PySem.W.mg_none_of X G z_sorted, z_repr := PySem.W.mg_none_of X G z_repr, z_abs := PySem.W.mg_none_of X G z_abs, t_ONE := t_ONE, g_ONE := PySem.W.mg_of X G g_ONE, t_QUARTER := t_QUARTER, g_QUARTER := PySem.W.mg_of X G g_QUARTER, t_TURN := t_TURN, g_TURN := PySem.W.mg_of X G g_TURN, t_GREATEST := t_GREATEST, g_GREATEST := PySem.W.mg_of X G g_GREATEST, a_FORMS := a_FORMS, g_FORMS := PySem.W.mg_of X G g_FORMS, q_FORMS := ⟨_, _, ⟨l_FORMS, kl_FORMS, lo_FORMS⟩, en_FORMS⟩, t_DEEPEST := t_DEEPEST, g_DEEPEST := PySem.W.mg_of X G g_DEEPEST }
  refine ⟨T.e_law, fun s v => .of_eq rfl, fun base _ _ => ?_⟩
  exact law_okG (ok_law T) vc_law
end K14
open PySem PySem.W PyProof.Rows
set_option maxRecDepth 100000 in
set_option maxHeartbeats 0 in
theorem PySem.Challenge.cw_foreverdays_k14_quantities_of_the_sky_holds : PySem.Challenge.rw_foreverdays_k14_quantities_of_the_sky.Holds := by
  w_on; o_law; k_head; (case hw => w_witness2)
  k_fill
  refine DL.walkG (l := PySem.Challenge.rw_foreverdays_k14_quantities_of_the_sky) (k := 63) rfl rfl ⟨rfl, by decide, by decide⟩ (fun w h Y => PySem.W.kIn_of Y) ?F
  case F =>
    intro w mg fa h KX G hmg
    refine' K14.all_mk KX G hmg ?a0 ?l0 ?c0 ?k0 ?a1 ?l1 ?c1 ?k1 ?a2 ?l2 ?c2 ?k2 ?a3 ?l3 ?c3 ?k3 ?a4 ?l4 ?c4 ?k4 ?a5 ?l5 ?c5 ?k5 ?a6 ?l6 ?c6 ?k6 ?a7 ?l7 ?c7 ?k7 ?a8 ?l8 ?c8 ?k8 ?a9 ?l9 ?c9 ?k9 ?a10 ?l10 ?c10 ?k10 ?a11 ?l11 ?c11 ?k11 ?a12 ?l12 ?c12 ?k12 ?a13 ?l13 ?c13 ?k13 ?a14 ?l14 ?c14 ?k14 ?a15 ?l15 ?c15 ?k15 ?a16 ?l16 ?c16 ?k16 ?a17 ?l17 ?c17 ?k17 ?a18 ?l18 ?c18 ?k18 ?a19 ?l19 ?c19 ?k19 ?a20 ?l20 ?c20 ?k20 ?a21 ?l21 ?c21 ?k21 ?a22 ?l22 ?c22 ?k22 ?a23 ?l23 ?c23 ?k23 ?a24 ?l24 ?c24 ?k24 ?a25 ?l25 ?c25 ?k25 ?a26 ?l26 ?c26 ?k26 ?a27 ?l27 ?c27 ?k27 ?a28 ?l28 ?c28 ?k28 ?a29 ?l29 ?c29 ?k29 ?a30 ?l30 ?c30 ?k30 ?a31 ?l31 ?c31 ?k31 ?a32 ?l32 ?c32 ?k32 ?a33 ?l33 ?c33 ?k33 ?a34 ?l34 ?c34 ?k34 ?a35 ?l35 ?c35 ?k35 ?a36 ?l36 ?c36 ?k36 ?a37 ?l37 ?c37 ?k37 ?a38 ?l38 ?c38 ?k38 ?a39 ?l39 ?c39 ?k39 ?a40 ?l40 ?c40 ?k40 ?a41 ?l41 ?c41 ?k41 ?a42 ?l42 ?c42 ?k42 ?a43 ?l43 ?c43 ?k43 ?a44 ?l44 ?c44 ?k44 ?a45 ?l45 ?c45 ?k45 ?a46 ?l46 ?c46 ?k46 ?a47 ?l47 ?c47 ?k47 ?a48 ?l48 ?c48 ?k48 ?a49 ?l49 ?c49 ?k49 ?z_divmod ?z_isinstance ?z_int ?z_bool ?z_tuple ?z_len ?z_str ?z_all ?z_zip ?z_min ?z_range ?z_sorted ?z_repr ?z_abs ?z_super ?opq ?top ?aC_SkyError ?ex_SkyError ?ty_SkyError ?is_SkyError ?lC_SkyError ?re_SkyError ?sa_SkyError ?kC_SkyError ?iC_SkyError ?tI_SkyError ?lf_SkyError ?cd_SkyError ?lcd_SkyError ?v2_SkyError ?pf_SkyError ?lcc_SkyError ?sup_SkyError ?sub_SkyError ?mro_SkyError ?ga_SkyError ?gg_SkyError ?hdC_SkyError ?nf_SkyError_code ?nf_SkyError_name ?sb_SkyError_SkyError ?g_ONE ?g_QUARTER ?g_TURN ?g_GREATEST ?g_FORMS ?l_FORMS ?kl_FORMS ?lo_FORMS ?en_FORMS ?g_DEEPEST
    (case a0 => k_is)
    (case l0 => k_is)
    (case c0 => k_is)
    (case k0 => k_is)
    (case a1 => k_is)
    (case l1 => k_is)
    (case c1 => k_is)
    (case k1 => k_is)
    (case a2 => k_is)
    (case l2 => k_is)
    (case c2 => k_is)
    (case k2 => k_is)
    (case a3 => k_is)
    (case l3 => k_is)
    (case c3 => k_is)
    (case k3 => k_is)
    (case a4 => k_is)
    (case l4 => k_is)
    (case c4 => k_is)
    (case k4 => k_is)
    (case a5 => k_is)
    (case l5 => k_is)
    (case c5 => k_is)
    (case k5 => k_is)
    (case a6 => k_is)
    (case l6 => k_is)
    (case c6 => k_is)
    (case k6 => k_is)
    (case a7 => k_is)
    (case l7 => k_is)
    (case c7 => k_is)
    (case k7 => k_is)
    (case a8 => k_is)
    (case l8 => k_is)
    (case c8 => k_is)
    (case k8 => k_is)
    (case a9 => k_is)
    (case l9 => k_is)
    (case c9 => k_is)
    (case k9 => k_is)
    (case a10 => k_is)
    (case l10 => k_is)
    (case c10 => k_is)
    (case k10 => k_is)
    (case a11 => k_is)
    (case l11 => k_is)
    (case c11 => k_is)
    (case k11 => k_is)
    (case a12 => k_is)
    (case l12 => k_is)
    (case c12 => k_is)
    (case k12 => k_is)
    (case a13 => k_is)
    (case l13 => k_is)
    (case c13 => k_is)
    (case k13 => k_is)
    (case a14 => k_is)
    (case l14 => k_is)
    (case c14 => k_is)
    (case k14 => k_is)
    (case a15 => k_is)
    (case l15 => k_is)
    (case c15 => k_is)
    (case k15 => k_is)
    (case a16 => k_is)
    (case l16 => k_is)
    (case c16 => k_is)
    (case k16 => k_is)
    (case a17 => k_is)
    (case l17 => k_is)
    (case c17 => k_is)
    (case k17 => k_is)
    (case a18 => k_is)
    (case l18 => k_is)
    (case c18 => k_is)
    (case k18 => k_is)
    (case a19 => k_is)
    (case l19 => k_is)
    (case c19 => k_is)
    (case k19 => k_is)
    (case a20 => k_is)
    (case l20 => k_is)
    (case c20 => k_is)
    (case k20 => k_is)
    (case a21 => k_is)
    (case l21 => k_is)
    (case c21 => k_is)
    (case k21 => k_is)
    (case a22 => k_is)
    (case l22 => k_is)
    (case c22 => k_is)
    (case k22 => k_is)
    (case a23 => k_is)
    (case l23 => k_is)
    (case c23 => k_is)
    (case k23 => k_is)
    (case a24 => k_is)
    (case l24 => k_is)
    (case c24 => k_is)
    (case k24 => k_is)
    (case a25 => k_is)
    (case l25 => k_is)
    (case c25 => k_is)
    (case k25 => k_is)
    (case a26 => k_is)
    (case l26 => k_is)
    (case c26 => k_is)
    (case k26 => k_is)
    (case a27 => k_is)
    (case l27 => k_is)
    (case c27 => k_is)
    (case k27 => k_is)
    (case a28 => k_is)
    (case l28 => k_is)
    (case c28 => k_is)
    (case k28 => k_is)
    (case a29 => k_is)
    (case l29 => k_is)
    (case c29 => k_is)
    (case k29 => k_is)
    (case a30 => k_is)
    (case l30 => k_is)
    (case c30 => k_is)
    (case k30 => k_is)
    (case a31 => k_is)
    (case l31 => k_is)
    (case c31 => k_is)
    (case k31 => k_is)
    (case a32 => k_is)
    (case l32 => k_is)
    (case c32 => k_is)
    (case k32 => k_is)
    (case a33 => k_is)
    (case l33 => k_is)
    (case c33 => k_is)
    (case k33 => k_is)
    (case a34 => k_is)
    (case l34 => k_is)
    (case c34 => k_is)
    (case k34 => k_is)
    (case a35 => k_is)
    (case l35 => k_is)
    (case c35 => k_is)
    (case k35 => k_is)
    (case a36 => k_is)
    (case l36 => k_is)
    (case c36 => k_is)
    (case k36 => k_is)
    (case a37 => k_is)
    (case l37 => k_is)
    (case c37 => k_is)
    (case k37 => k_is)
    (case a38 => k_is)
    (case l38 => k_is)
    (case c38 => k_is)
    (case k38 => k_is)
    (case a39 => k_is)
    (case l39 => k_is)
    (case c39 => k_is)
    (case k39 => k_is)
    (case a40 => k_is)
    (case l40 => k_is)
    (case c40 => k_is)
    (case k40 => k_is)
    (case a41 => k_is)
    (case l41 => k_is)
    (case c41 => k_is)
    (case k41 => k_is)
    (case a42 => k_is)
    (case l42 => k_is)
    (case c42 => k_is)
    (case k42 => k_is)
    (case a43 => k_is)
    (case l43 => k_is)
    (case c43 => k_is)
    (case k43 => k_is)
    (case a44 => k_is)
    (case l44 => k_is)
    (case c44 => k_is)
    (case k44 => k_is)
    (case a45 => k_is)
    (case l45 => k_is)
    (case c45 => k_is)
    (case k45 => k_is)
    (case a46 => k_is)
    (case l46 => k_is)
    (case c46 => k_is)
    (case k46 => k_is)
    (case a47 => k_is)
    (case l47 => k_is)
    (case c47 => k_is)
    (case k47 => k_is)
    (case a48 => k_is)
    (case l48 => k_is)
    (case c48 => k_is)
    (case k48 => k_is)
    (case a49 => k_is)
    (case l49 => k_is)
    (case c49 => k_is)
    (case k49 => k_is)
    (case z_divmod => k_is)
    (case z_isinstance => k_is)
    (case z_int => k_is)
    (case z_bool => k_is)
    (case z_tuple => k_is)
    (case z_len => k_is)
    (case z_str => k_is)
    (case z_all => k_is)
    (case z_zip => k_is)
    (case z_min => k_is)
    (case z_range => k_is)
    (case z_sorted => k_is)
    (case z_repr => k_is)
    (case z_abs => k_is)
    (case z_super => k_is)
    (case opq => k_is)
    (case top => first | rfl | decide +kernel)
    (case aC_SkyError => k_is)
    (case ex_SkyError => k_is)
    (case ty_SkyError => k_is)
    (case is_SkyError => k_is)
    (case lC_SkyError => k_is)
    (case re_SkyError => first | rfl | decide +kernel)
    (case sa_SkyError => k_is)
    (case kC_SkyError => k_is)
    (case iC_SkyError => k_is)
    (case tI_SkyError => k_is)
    (case lf_SkyError => k_is)
    (case cd_SkyError => k_is)
    (case lcd_SkyError => k_is)
    (case v2_SkyError => rfl)
    (case pf_SkyError => first | rfl | decide +kernel)
    (case lcc_SkyError => k_is)
    (case sup_SkyError => ks_is)
    (case sub_SkyError => k_is)
    (case mro_SkyError => k_is)
    (case ga_SkyError => k_is)
    (case gg_SkyError => k_is)
    (case hdC_SkyError => k_is)
    (case nf_SkyError_code => k_is)
    (case nf_SkyError_name => k_is)
    (case sb_SkyError_SkyError => k_is)
    (case g_ONE => k_is)
    (case g_QUARTER => k_is)
    (case g_TURN => k_is)
    (case g_GREATEST => k_is)
    (case g_FORMS => k_is)
    (case l_FORMS => k_is)
    (case kl_FORMS => (repeat first | exact True.intro | refine ⟨⟨_, _, rfl, rfl⟩, ?_⟩))
    (case lo_FORMS => first | rfl | decide +kernel)
    (case en_FORMS => (repeat first | exact .nil | refine .cons ?_))
    (case g_DEEPEST => k_is)
