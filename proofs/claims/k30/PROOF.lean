import PyProof.Rows.All
import Wide.All
import OpenK.AllK
import Wide.FinOn
import HandS.ForMost
import HandS.ForExc
import HandS.Wide
import HandS.TupAny
import HandS.TupLen
import HandS.Style
import HandS.Flow
import HandS.SortInts
import HandS.IsInst
import HandS.Conv
import HandS.EndBits
import HandS.NoneIn
import HandS.Lambda
import HandS.TupMul
import HandS.Deep
import HandS.Iter
import HandS.Zip
import HandS.Rev
import HandS.CallSlots
import HandS.SortRule
import HandS.More
import HandS.Gcd
import HandS.Text
import KE.SortData
import HandS.StrMore
import HandS.StrSplit
import PyProof.StrCalls6
import HandS.ExcInit
import HandS.FStr
import KE.KExcSuper
import HandS.TryOnly
import HandS.ExcField
import PyProof.StrLawsRepr
import HandS.DictComp
import KE.KDictCopyH
import PyProof.MinMaxWalk
import PyProof.WalkInts
import PyProof.WalksMore
import HandS.EndTab
import HandS.SetFor
import PySem.Challenge.RW_foreverdays_k30_whole_kept_clocks
set_option Elab.async false
set_option linter.all false
set_option maxRecDepth 100000
/-! DCore: deep data D, environments by slots, and the transformers that a def's body is read as. No heap, no program: plain Lean. -/
namespace DL
open PySem

abbrev Key := Sum Int Str

/-- deep data -/
inductive D where
  | non
  | bl (b : Bool)
  | int (i : Int)
  | str (x : Str)
  | tup (l : List D)
  | lst (l : List D)
  | dk (l : List (Key × D))
  | dt (l : List (List Key × D))
  | ins (c : String) (l : List (Str × D))
  /-- the drawing state of a law; the script; a class or def -/
  | st
  | scr (ns : List Int)
  | fn (x : String)

/-- a slot: nothing known, frozen data, a list or dict of the def's own that may still change -/
inductive Sl where
  | no
  | v (d : D)
  | o (d : D)

abbrev Env := List Sl
structure Err where
  cls : String
  fs : List (Str × D)
abbrev EK := Err → Env → Prop
abbrev DK := D → Prop
abbrev DT := EK → Env → DK → Prop
abbrev DB := EK → Env → (Bool → Prop) → Prop
abbrev DA := EK → Env → (List D → Prop) → Prop
abbrev DI := EK → Env → (List D → Prop) → Prop
structure DE where
  nx : Env → Prop
  rt : DK
  bk : Env → Prop := fun _ => False
  ct : Env → Prop := fun _ => False
  /-- what is given, where the own slots still count -/
  ro : D → Env → Prop := fun _ _ => False
abbrev DS := EK → DE → Env → Prop
abbrev DG := D → Env → (Env → Prop) → Prop
abbrev DGs := List D → Env → (Env → Prop) → Prop
abbrev DO := EK → Env → (Option Int → Prop) → Prop
/-- what a def is read as: arguments, what is wanted of the value, of an error -/
abbrev DF := List D → DK → (Err → Prop) → Prop

/-! ### limits of the model -/
def lineMax : Nat := 16777216

/-! ### operations on data -/
def eqK (a b : Key) : Bool := decide (a = b)
mutual
def eqD : D → D → Bool
  | .non, .non => true
  | .bl a, .bl b => a == b
  | .bl a, .int j => (if a then 1 else 0) == j
  | .int i, .bl b => i == (if b then 1 else 0)
  | .int i, .int j => i == j
  | .str x, .str y => x == y
  | .tup xs, .tup ys => eqDs xs ys
  | .lst xs, .lst ys => eqDs xs ys
  | _, _ => false
def eqDs : List D → List D → Bool
  | [], [] => true
  | x :: xs, y :: ys => eqD x y && eqDs xs ys
  | _, _ => false
end
mutual
/-- data whose == is known here: None, bools, ints, texts, tuples and lists of these, not too deep -/
def okD : Nat → D → Bool
  | _, .non => true
  | _, .bl _ => true
  | _, .int _ => true
  | _, .str x => x.cps.all (· < 0x110000)
  | n + 1, .tup xs => okDs n xs
  | n + 1, .lst xs => okDs n xs
  | _, _ => false
def okDs : Nat → List D → Bool
  | _, [] => true
  | n, x :: xs => okD n x && okDs n xs
end
def isFlat : D → Bool
  | .non => true
  | .bl _ => true
  | .int _ => true
  | .str _ => true
  | _ => false

def oAdd (x y : D) (Q : DK) : Prop := match x, y with
  | .int i, .int j => Q (.int (i + j))
  | .str a, .str b => a.length + b.length ≤ lineMax ∧ Q (.str (a ++ b))
  | .lst a, .lst b => a.length + b.length ≤ lineMax ∧ Q (.lst (a ++ b))
  | .tup a, .tup b => a.length + b.length ≤ lineMax ∧ Q (.tup (a ++ b))
  | _, _ => False
def oSub (x y : D) (Q : DK) : Prop := match x, y with
  | .int i, .int j => Q (.int (i - j))
  | _, _ => False
/-- a factor below 2^64, or both together below a million bits -/
def mulOk (i j : Int) : Prop := i.natAbs.log2 + j.natAbs.log2 < 1000000
def oMul (x y : D) (Q : DK) : Prop := match x, y with
  | .int i, .int j => mulOk i j ∧ Q (.int (i * j))
  | .lst a, .int k => -(2 ^ 63) ≤ k ∧ k < 2 ^ 63 ∧ a.length * k.toNat ≤ lineMax ∧ Q (.lst (List.replicate k.toNat a).flatten)
  | .tup a, .int k => -(2 ^ 63) ≤ k ∧ k ≤ 1000 ∧ a.length ≤ 1000 ∧ Q (.tup (List.replicate k.toNat a).flatten)
  | _, _ => False
def divOk (j : Int) : Prop := 0 < j ∧ j.natAbs.log2 < 9000
def oDiv (x y : D) (Q : DK) : Prop := match x, y with
  | .int i, .int j => divOk j ∧ Q (.int (i / j))
  | _, _ => False
def oMod (x y : D) (Q : DK) : Prop := match x, y with
  | .int i, .int j => 0 < j ∧ Q (.int (i % j))
  | _, _ => False
def oPow (x y : D) (Q : DK) : Prop := match x, y with
  | .int i, .int j => (0 ≤ j ∧ j ≤ 1000000 ∧ i.natAbs < 2 ^ 64) ∧ Q (.int (i ^ j.toNat))
  | _, _ => False
def oNeg (x : D) (Q : DK) : Prop := match x with
  | .int i => Q (.int (-i))
  | _ => False
def oEq (x y : D) (Q : DK) : Prop := okD 60 x = true ∧ okD 60 y = true ∧ Q (.bl (eqD x y))
def oNe (x y : D) (Q : DK) : Prop := okD 60 x = true ∧ okD 60 y = true ∧ Q (.bl (!eqD x y))
def oLt (x y : D) (Q : DK) : Prop := match x, y with
  | .int i, .int j => Q (.bl (decide (i < j)))
  | .str a, .str b => Q (.bl (decide (a.cps.toList < b.cps.toList)))
  | _, _ => False
def oLe (x y : D) (Q : DK) : Prop := match x, y with
  | .int i, .int j => Q (.bl (decide (i ≤ j)))
  | .str a, .str b => Q (.bl (!decide (b.cps.toList < a.cps.toList)))
  | _, _ => False
def oGt (x y : D) (Q : DK) : Prop := match x, y with
  | .int i, .int j => Q (.bl (decide (j < i)))
  | .str a, .str b => Q (.bl (decide (b.cps.toList < a.cps.toList)))
  | _, _ => False
def oGe (x y : D) (Q : DK) : Prop := match x, y with
  | .int i, .int j => Q (.bl (decide (j ≤ i)))
  | .str a, .str b => Q (.bl (!decide (a.cps.toList < b.cps.toList)))
  | _, _ => False
def isNon : D → Bool
  | .non => true
  | _ => false
def oIsN (x : D) (Q : DK) : Prop := Q (.bl (isNon x))
def oNotN (x : D) (Q : DK) : Prop := Q (.bl (!isNon x))
def oIs (x y : D) (Q : DK) : Prop := isNon y = true ∧ oIsN x Q
def oIsNot (x y : D) (Q : DK) : Prop := isNon y = true ∧ oNotN x Q
def oAddI (x y : D) (Q : DK) : Prop := match x, y with
  | .int i, .int j => Q (.int (i + j))
  | _, _ => False
def inD (x : D) (xs : List D) : Bool := xs.any fun y => eqD y x
/-- keys -/
def keyOf : D → Option Key
  | .int i => some (.inl i)
  | .str x => some (.inr x)
  | _ => none
def keysOf : List D → Option (List Key)
  | [] => some []
  | d :: r => match keyOf d, keysOf r with
    | some k, some ks => some (k :: ks)
    | _, _ => none
def dKey : Key → D
  | .inl i => .int i
  | .inr x => .str x
def lookD {κ : Type} [DecidableEq κ] (kvs : List (κ × D)) (k : κ) : Option D := (kvs.find? fun kv => decide (kv.1 = k)).map (·.2)
/-- in its place, or at the end -/
def putD {κ : Type} [DecidableEq κ] (kvs : List (κ × D)) (k : κ) (v : D) : List (κ × D) :=
  if (kvs.any fun kv => decide (kv.1 = k)) = true then kvs.map (fun kv => if kv.1 = k then (kv.1, v) else kv) else kvs ++ [(k, v)]
def oIn (x y : D) (Q : DK) : Prop := match y with
  | .lst xs => okD 60 x = true ∧ okDs 59 xs = true ∧ Q (.bl (inD x xs))
  | .tup xs => ((isFlat x = true ∧ xs.all isFlat = true) ∨ (okD 60 x = true ∧ okDs 59 xs = true)) ∧ Q (.bl (inD x xs))
  | .dk kvs => match keyOf x with
    | some k => Q (.bl (lookD kvs k).isSome)
    | none => False
  | _ => False
def neg1 (Q : DK) : DK := fun d => match d with
  | .bl b => Q (.bl (!b))
  | _ => False
def oNotIn (x y : D) (Q : DK) : Prop := oIn x y (neg1 Q)
/-- the place that an index means -/
def ixN (n : Nat) (i : Int) : Option Nat := if 0 ≤ i then (if i < n then some i.toNat else none) else if -(n : Int) ≤ i then some (i + n).toNat else none
def atI {α : Type} (xs : List α) (i : Int) : Option α := (ixN xs.length i).bind fun j => xs[j]?
def oGet (o : Option D) (Q : DK) : Prop := match o with
  | some d => Q d
  | none => False
def oIx (x y : D) (Q : DK) : Prop := match x, y with
  | .lst xs, .int i => oGet (atI xs i) Q
  | .tup xs, .int i => oGet (atI xs i) Q
  | .str z, .int i => z.length ≤ lineMax ∧ oGet ((atI z.cps.toList i).map fun c => .str ⟨#[c]⟩) Q
  | .dk kvs, y => match keyOf y with
    | some k => oGet (lookD kvs k) Q
    | none => False
  | _, _ => False
/-- the cut of a slice -/
def sIx (n d : Nat) : Option Int → Nat
  | none => d
  | some i => if i < 0 then (i + n).toNat else min i.toNat n
def cutL {α : Type} (xs : List α) (lo hi : Option Int) : List α := (xs.drop (sIx xs.length 0 lo)).take (sIx xs.length xs.length hi - sIx xs.length 0 lo)
def oCut (x : D) (lo hi : Option Int) (Q : DK) : Prop := match x with
  | .lst xs => Q (.lst (cutL xs lo hi))
  | .tup xs => Q (.tup (cutL xs lo hi))
  | .str z => z.length ≤ lineMax ∧ Q (.str ⟨(cutL z.cps.toList lo hi).toArray⟩)
  | _ => False

/-! ### expressions -/
def dVar (i : Nat) : DT := fun _ ρ Q => match ρ[i]? with
  | some (.v d) => Q d
  | _ => False
def dC (d : D) : DT := fun _ _ Q => Q d
def dOp (f : D → D → DK → Prop) (a b : DT) : DT := fun E ρ Q => a E ρ fun x => b E ρ fun y => f x y Q
def dUn (f : D → DK → Prop) (a : DT) : DT := fun E ρ Q => a E ρ fun x => f x Q
/-- a < b < c -/
def dChain (f g : D → D → DK → Prop) (a b c : DT) : DT := fun E ρ Q => a E ρ fun x => b E ρ fun y => f x y fun z => match z with
  | .bl k => if k = true then c E ρ fun u => g y u Q else Q (.bl false)
  | _ => False
def aNil : DA := fun _ _ Q => Q []
def aCons (a : DT) (r : DA) : DA := fun E ρ Q => a E ρ fun x => r E ρ fun xs => Q (x :: xs)
def dTup (a : DA) : DT := fun E ρ Q => a E ρ fun xs => xs.length ≤ lineMax ∧ Q (.tup xs)
def dLst (a : DA) : DT := fun E ρ Q => a E ρ fun xs => xs.length ≤ lineMax ∧ Q (.lst xs)
/-- what a def gives, and all that follows from it -/
def up (W : DF) : DF := fun ds Q E => ∃ Q' E', W ds Q' E' ∧ (∀ d, Q' d → Q d) ∧ ∀ e, E' e → E e
theorem up.of {W : DF} {ds : List D} {Q : DK} {E : Err → Prop} (h : W ds Q E) : up W ds Q E := ⟨Q, E, h, fun _ q => q, fun _ q => q⟩
theorem up.mono {W : DF} {ds : List D} {Q Q' : DK} {E E' : Err → Prop} (h : up W ds Q E) (hq : ∀ d, Q d → Q' d) (he : ∀ e, E e → E' e) : up W ds Q' E' := by
  obtain ⟨Q1, E1, h, a, b⟩ := h
  exact ⟨Q1, E1, h, fun d q => hq d (a d q), fun e q => he e (b e q)⟩
/-- a recursive def, by the depth of its calls -/
def upN (G : Nat → DF) (N : Nat) : DF := fun ds Q E => ∃ n, n ≤ N ∧ G n ds Q E
def dCall (W : DF) (a : DA) : DT := fun E ρ Q => a E ρ fun xs => up W xs Q fun e => E e ρ
/-- a call of a built-in by values -/
def dBlt (f : List D → DK → Prop) (a : DA) : DT := fun E ρ Q => a E ρ fun xs => f xs Q
def bT (a : DT) : DB := fun E ρ Q => a E ρ fun x => match x with
  | .bl b => Q b
  | _ => False
def truthD (x : D) (Q : Bool → Prop) : Prop := match x with
  | .bl b => Q b
  | .non => Q false
  | .int i => Q (i != 0)
  | .str z => z.length ≤ lineMax ∧ Q (z.length != 0)
  | .lst xs => Q (!xs.isEmpty)
  | .tup xs => Q (!xs.isEmpty)
  | .dk kvs => Q (!kvs.isEmpty)
  | _ => False
def bTruth (a : DT) : DB := fun E ρ Q => a E ρ fun x => truthD x Q
def bAnd (a b : DB) : DB := fun E ρ Q => a E ρ fun c => if c = true then b E ρ Q else Q false
def bOr (a b : DB) : DB := fun E ρ Q => a E ρ fun c => if c = true then Q true else b E ρ Q
def bNot (a : DB) : DB := fun E ρ Q => a E ρ fun c => Q (!c)
def dAndV (a b : DT) : DT := fun E ρ Q => a E ρ fun x => match x with
  | .bl c => if c = true then b E ρ Q else Q (.bl false)
  | _ => False
def dOrV (a b : DT) : DT := fun E ρ Q => a E ρ fun x => match x with
  | .bl c => if c = true then Q (.bl true) else b E ρ Q
  | _ => False
def dNotV (a : DT) : DT := fun E ρ Q => a E ρ fun x => match x with
  | .bl c => Q (.bl (!c))
  | _ => False
def dIf (c : DB) (a b : DT) : DT := fun E ρ Q => c E ρ fun k => if k = true then a E ρ Q else b E ρ Q
def oN : DO := fun _ _ Q => Q none
def oS (a : DT) : DO := fun E ρ Q => a E ρ fun x => match x with
  | .int i => Q (some i)
  | _ => False
def dSlice (a : DT) (lo hi : DO) : DT := fun E ρ Q => a E ρ fun x => lo E ρ fun l => hi E ρ fun h => oCut x l h Q

/-! ### what is walked -/
def rng (lo : Int) (n : Nat) : List D := (List.range n).map fun k => .int (lo + (k : Nat))
def rngC (lo c : Int) (n : Nat) : List D := (List.range n).map fun k => .int (lo + (k : Nat) * c)
def iSeq (a : DT) : DI := fun E ρ Q => a E ρ fun x => match x with
  | .lst xs => Q xs
  | .tup xs => Q xs
  | .str z => Q (z.cps.toList.map fun c => .str ⟨#[c]⟩)
  | _ => False
def iRng1 (a : DA) : DI := fun E ρ Q => a E ρ fun xs => match xs with
  | [.int j] => -(2 ^ 62) ≤ j ∧ j < 2 ^ 62 ∧ Q (rng 0 j.toNat)
  | _ => False
def iRng2 (a : DA) : DI := fun E ρ Q => a E ρ fun xs => match xs with
  | [.int i, .int j] => (-(2 ^ 62) ≤ i ∧ i < 2 ^ 62 ∧ -(2 ^ 62) ≤ j ∧ j < 2 ^ 62) ∧ Q (rng i (j - i).toNat)
  | _ => False

/-- enumerate, zip, reversed -/
def enumD (xs : List D) : List D := xs.zipIdx.map fun p => .tup [.int (p.2 : Nat), p.1]
def zipD (xs ys : List D) : List D := (xs.zip ys).map fun p => .tup [p.1, p.2]
def iEnum (a : DA) : DI := fun E ρ Q => a E ρ fun xs => match xs with
  | [.lst xs] => Q (enumD xs)
  | _ => False
def iZip (a : DA) : DI := fun E ρ Q => a E ρ fun xs => match xs with
  | [.lst xs, .lst ys] => Q (zipD xs ys)
  | [.tup xs, .tup ys] => Q (zipD xs ys)
  | _ => False
def iRev (a : DT) : DI := fun E ρ Q => a E ρ fun x => match x with
  | .lst xs => Q xs.reverse
  | .tup xs => Q xs.reverse
  | _ => False

/-! ### targets -/
def gName (i : Nat) : DG := fun d ρ Q => Q (ρ.set i (.v d))
def gNil : DGs := fun xs ρ Q => xs = [] ∧ Q ρ
def gCons (g : DG) (r : DGs) : DGs := fun xs ρ Q => match xs with
  | x :: ys => g x ρ fun ρ' => r ys ρ' Q
  | [] => False
def gTup (g : DGs) : DG := fun d ρ Q => match d with
  | .tup xs => g xs ρ Q
  | .lst xs => g xs ρ Q
  | _ => False

/-! ### statements -/
def sNext : DS := fun _ K ρ => K.nx ρ
def sSeq (a b : DS) : DS := fun E K ρ => a E { K with nx := b E K } ρ
def sBreak : DS := fun _ K ρ => K.bk ρ
def sCont : DS := fun _ K ρ => K.ct ρ
def sDrop (a : DT) : DS := fun E K ρ => a E ρ fun _ => K.nx ρ
def sRet (a : DT) : DS := fun E K ρ => a E ρ K.rt
def sRetN : DS := fun _ K _ => K.rt .non
/-- return e, where the own slots still count -/
def sRetX (a : DT) : DS := fun E K ρ => a E ρ fun d => K.ro d ρ
def sRetNX : DS := fun _ K ρ => K.ro .non ρ
def sIf (c : DB) (a b : DS) : DS := fun E K ρ => c E ρ fun k => if k = true then a E K ρ else b E K ρ
def sAsg (a : DT) (g : DG) : DS := fun E K ρ => a E ρ fun x => g x ρ K.nx
def sSet (i : Nat) (a : DT) : DS := fun E K ρ => a E ρ fun x => K.nx (ρ.set i (.v x))
/-- a new list (or dict) of the def's own, kept to be changed -/
def sOwn (i : Nat) (a : DT) : DS := fun E K ρ => a E ρ fun x => K.nx (ρ.set i (.o x))
/-- what slot i holds changes no more -/
def frz (i : Nat) (ρ : Env) : Env := match ρ[i]? with
  | some (.o d) => ρ.set i (.v d)
  | _ => ρ
def sFrz (i : Nat) (a : DS) : DS := fun E K ρ => a E K (frz i ρ)
/-- the slots js are forgotten -/
def fgt (js : List Nat) (ρ : Env) : Env := js.foldl (fun ρ j => ρ.set j .no) ρ
def sFgt (js : List Nat) (a : DS) : DS := fun E K ρ => a E K (fgt js ρ)
def sPar (i j : Nat) (a : DA) : DS := fun E K ρ => a E ρ fun xs => match xs with
  | [x, y] => K.nx ((ρ.set i (.v x)).set j (.v y))
  | _ => False
def sAug (i : Nat) (f : D → D → DK → Prop) (a : DT) : DS := fun E K ρ => match ρ[i]? with
  | some (.v x) => a E ρ fun y => f x y fun z => K.nx (ρ.set i (.v z))
  | _ => False
/-- xs.append(e) -/
def sApp (i : Nat) (a : DT) : DS := fun E K ρ => match ρ[i]? with
  | some (.o (.lst xs)) => a E ρ fun x => xs.length < lineMax ∧ K.nx (ρ.set i (.o (.lst (xs ++ [x]))))
  | _ => False
/-- one turn after another, over what is left -/
def forL (g : DG) (b : DS) (E : EK) (K : DE) : List D → Env → Prop
  | [], ρ => K.nx ρ
  | x :: r, ρ => g x ρ fun ρ' => b E { nx := forL g b E K r, ct := forL g b E K r, bk := K.nx, rt := K.rt, ro := K.ro } ρ'
def sFor (it : DI) (g : DG) (b : DS) : DS := fun E K ρ => it E ρ fun xs => forL g b E K xs ρ
def whileN (c : DB) (b : DS) (E : EK) (K : DE) : Nat → Env → Prop
  | 0, _ => False
  | n + 1, ρ => c E ρ fun k => if k = true then b E { nx := whileN c b E K n, ct := whileN c b E K n, bk := K.nx, rt := K.rt, ro := K.ro } ρ else K.nx ρ
def sWhile (c : DB) (b : DS) : DS := fun E K ρ => ∃ n, whileN c b E K n ρ
/-- a def: its parameters in the first slots, the rest empty -/
def envOf (n : Nat) (ds : List D) : Env := ds.map Sl.v ++ List.replicate (n - ds.length) .no
def defT (np n : Nat) (b : DS) : DF := fun ds Q E => ds.length = np ∧ b (fun e _ => E e) { nx := fun _ => Q .non, rt := Q } (envOf n ds)
/-- a list comprehension: own slots wiped, one turn after another -/
def wipeE (ρ : Env) (vs : List Nat) : Env := vs.foldl (fun ρ j => ρ.set j .no) ρ
def noE : EK := fun _ _ => False
def lcL (g : DG) (t : DB) (e : DT) (ρ : Env) : List D → List D → (List D → Prop) → Prop
  | [], acc, Q => Q acc
  | x :: r, acc, Q => g x ρ fun ρ' => t noE ρ' fun k => if k = true then e noE ρ' fun y => acc.length < lineMax ∧ lcL g t e ρ r (acc ++ [y]) Q else lcL g t e ρ r acc Q
/-- a def's own objects are not seen in a comprehension -/
def noOwn (ρ : Env) : Env := ρ.map fun s => match s with
  | .v d => .v d
  | _ => .no
def dLc (it : DI) (g : DG) (t : DB) (e : DT) (vs : List Nat) : DT := fun E ρ Q => it E ρ fun xs => lcL g t e (noOwn (wipeE ρ vs)) xs [] fun r => Q (.lst r)
def bYes : DB := fun _ _ Q => Q true

/-! ### built-ins -/
def intsOf : List D → Option (List Int)
  | [] => some []
  | .int i :: r => (intsOf r).map fun ns => i :: ns
  | _ :: _ => none
def blsOf : List D → Option (List Bool)
  | [] => some []
  | .bl i :: r => (blsOf r).map fun ns => i :: ns
  | _ :: _ => none
def fLen (xs : List D) (Q : DK) : Prop := match xs with
  | [.lst l] => Q (.int l.length)
  | [.tup l] => Q (.int l.length)
  | [.str z] => z.length ≤ lineMax ∧ Q (.int z.length)
  | [.dk l] => Q (.int l.length)
  | [.scr ns] => Q (.int ns.length)
  | _ => False
def fAbs (xs : List D) (Q : DK) : Prop := match xs with
  | [.int i] => Q (.int (if i < 0 then -i else i))
  | _ => False
def fGcd (xs : List D) (Q : DK) : Prop := match xs with
  | [.int i, .int j] => Q (.int ((Nat.gcd i.natAbs j.natAbs : Nat) : Int))
  | _ => False
def fMin (xs : List D) (Q : DK) : Prop := match xs with
  | [.int i, .int j] => Q (.int (if j < i then j else i))
  | [.lst l] => match intsOf l with
    | some ns => ns ≠ [] ∧ ∀ m, m ∈ ns → (∀ y ∈ ns, m ≤ y) → Q (.int m)
    | none => False
  | _ => False
def fMax (xs : List D) (Q : DK) : Prop := match xs with
  | [.int i, .int j] => Q (.int (if j > i then j else i))
  | [.lst l] => match intsOf l with
    | some ns => ns ≠ [] ∧ ∀ m, m ∈ ns → (∀ y ∈ ns, y ≤ m) → Q (.int m)
    | none => False
  | _ => False
def fSum (xs : List D) (Q : DK) : Prop := match xs with
  | [.lst l] => match intsOf l with
    | some ns => Q (.int ns.sum)
    | none => False
  | [.tup l] => match intsOf l with
    | some ns => Q (.int ns.sum)
    | none => False
  | _ => False
def fAll (xs : List D) (Q : DK) : Prop := match xs with
  | [.lst l] => match blsOf l with
    | some ns => Q (.bl (ns.all id))
    | none => False
  | _ => False
def fAny (xs : List D) (Q : DK) : Prop := match xs with
  | [.lst l] => match blsOf l with
    | some ns => Q (.bl (ns.any id))
    | none => False
  | _ => False
/-- sorted ints: the one ascending arrangement -/
def keyD : Key → D
  | .inl i => .int i
  | .inr x => .str x
/-- a dict's keys, all ints -/
def ikeys : List (Key × D) → Option (List Int)
  | [] => some []
  | (.inl i, _) :: r => (ikeys r).map (i :: ·)
  | _ => none
def pairD (p : Int × Int) : D := .tup [.int p.1, .int p.2]
/-- a list of pairs of ints -/
def pair1 : D → Option (Int × Int)
  | .tup [.int i, .int j] => some (i, j)
  | _ => none
def pairsOf : List D → Option (List (Int × Int))
  | [] => some []
  | x :: r => (pair1 x).bind fun p => (pairsOf r).map (p :: ·)
theorem pair1_eq {x : D} {p : Int × Int} (h : pair1 x = some p) : x = pairD p := by
  unfold pair1 at h
  split at h
  · cases h; rfl
  · cases h
def lexLe (p q : Int × Int) : Prop := p.1 < q.1 ∨ (p.1 = q.1 ∧ p.2 ≤ q.2)
def fSorted (xs : List D) (Q : DK) : Prop := match xs with
  | [.lst l] => match intsOf l with
    | some ns => ∀ ns' : List Int, ns'.Perm ns → ns'.Pairwise (· ≤ ·) → Q (.lst (ns'.map .int))
    | none => match pairsOf l with
      | some ps => ∀ ps' : List (Int × Int), ps'.Perm ps → ps'.Pairwise lexLe → Q (.lst (ps'.map pairD))
      | none => False
  | [.dk kvs] => match ikeys kvs with
    | some ns => ns.length < 64 ∧ ∀ ns' : List Int, ns'.Perm ns → ns'.Pairwise (· ≤ ·) → Q (.lst (ns'.map .int))
    | none => False
  | _ => False
/-- sorted(set(xs)): the ascending list of the same numbers -/
def fSetSorted (xs : List D) (Q : DK) : Prop := match xs with
  | [.lst l] => match intsOf l with
    | some ns => ns.length ≤ 4000 ∧ ∀ ys : List Int, ys.Pairwise (· < ·) → (∀ j, j ∈ ys ↔ j ∈ ns) → Q (.lst (ys.map .int))
    | none => False
  | _ => False
def fList (xs : List D) (Q : DK) : Prop := match xs with
  | [.lst l] => Q (.lst l)
  | [.tup l] => Q (.lst l)
  | [.dk kvs] => Q (.lst (kvs.map fun kv => keyD kv.1))
  | [.scr ns] => Q (.lst (ns.map .int))
  | _ => False
def fTuple (xs : List D) (Q : DK) : Prop := match xs with
  | [.lst l] => Q (.tup l)
  | [.tup l] => Q (.tup l)
  | _ => False
def fInt (xs : List D) (Q : DK) : Prop := match xs with
  | [.int i] => Q (.int i)
  | [.bl b] => Q (.int (if b then 1 else 0))
  | _ => False
def fStr (xs : List D) (Q : DK) : Prop := match xs with
  | [.int i] => i.natAbs.log2 < 1920 ∧ Q (.str (Str.ofString (toString i)))
  | _ => False
def fDivmod (xs : List D) (Q : DK) : Prop := match xs with
  | [.int i, .int j] => (0 < j ∧ j < 1073741824) ∧ Q (.tup [.int (i / j), .int (i % j)])
  | _ => False
def tyName : D → String
  | .non => "NoneType"
  | .bl _ => "bool"
  | .int _ => "int"
  | .str _ => "str"
  | .tup _ => "tuple"
  | .lst _ => "list"
  | .dk _ => "dict"
  | _ => ""
/-- isinstance against one of int, bool, str, tuple, list, dict -/
def isTy (c : String) (d : D) : Bool := tyName d == c || (tyName d == "bool" && c == "int")
def dIsi (c : String) (a : DT) : DT := fun E ρ Q => a E ρ fun d => tyName d ≠ "" ∧ Q (.bl (isTy c d))
/-- own objects are only looked at, the answer is flat -/
def bor (ρ : Env) : Env := ρ.map fun s => match s with
  | .o d => .v d
  | s => s
def dBor (a : DT) : DT := fun _ ρ Q => a noE (bor ρ) fun d => isFlat d = true ∧ Q d
/-- xs[i] of a list of the def's own -/
def dIxO (i : Nat) (a : DT) : DT := fun E ρ Q => match ρ[i]? with
  | some (.o (.lst xs)) => a E ρ fun y => match y with
    | .int k => oGet (atI xs k) Q
    | _ => False
  | _ => False
/-- list(xs), tuple(xs) of a list of the def's own, which stays its own -/
def dListO (i : Nat) : DT := fun _ ρ Q => match ρ[i]? with
  | some (.o (.lst xs)) => Q (.lst xs)
  | _ => False
def dTupleO (i : Nat) : DT := fun _ ρ Q => match ρ[i]? with
  | some (.o (.lst xs)) => Q (.tup xs)
  | _ => False
/-- a test in which own objects are only looked at -/
def bBor (a : DB) : DB := fun _ ρ Q => a noE (bor ρ) Q
/-! the laws' own draws -/
def wStart : DF := fun ds Q _ => match ds with
  | [.scr ns] => ns.length ≤ 63 ∧ Q .st
  | _ => False
def wDraw : DF := fun ds Q _ => match ds with
  | [.st, .int b] => 0 < b ∧ b.natAbs.log2 < 9000 ∧ ∀ r, 0 ≤ r → r < b → Q (.int r)
  | _ => False
/-! instances -/
def putFD (f : Str) (v : D) : List (Str × D) → List (Str × D)
  | [] => [(f, v)]
  | (g, x) :: r => if g = f then (g, v) :: r else (g, x) :: putFD f v r
/-- x.f -/
def dFld (c : String) (f : Str) (a : DT) : DT := fun E ρ Q => a E ρ fun x => match x with
  | .ins c' fs => c' = c ∧ oGet (fs.lookup f) Q
  | _ => False
/-- self.f = value, self being made -/
def sFldO (c : String) (i : Nat) (f : Str) (a : DT) : DS := fun E K ρ => match ρ[i]? with
  | some (.o (.ins c' fs)) => c' = c ∧ a E ρ fun v => fs.length < 1000 ∧ K.nx (ρ.set i (.o (.ins c (putFD f v fs))))
  | _ => False
/-- x.m(..), nothing let out -/
def dMeth (c : String) (m : Str) (W : DF) (a : DT) (r : DA) : DT := fun E ρ Q => a E ρ fun x => match x with
  | .ins c' fs => c' = c ∧ fs.lookup m = none ∧ r E ρ fun xs => up W (.ins c' fs :: xs) Q fun _ => False
  | _ => False
/-- C(..), nothing let out -/
def dMake (W : DF) (r : DA) : DT := fun E ρ Q => r E ρ fun xs => up W xs Q fun _ => False
/-- what __init__ makes -/
def madeQ (Q : DK) (ρ : Env) : Prop := match ρ[(0 : Nat)]? with
  | some (.o (.ins c fs)) => Q (.ins c fs)
  | _ => False
def mkT (c : String) (np n : Nat) (b : DS) : DF := fun ds Q E => ds.length + 1 = np ∧ b (fun e _ => E e) { nx := madeQ Q, rt := fun _ => False } ((envOf n (.non :: ds)).set 0 (.o (.ins c [])))
/-! ### own lists and dicts changed -/
def gOL (o : Option Sl) (Q : List D → Prop) : Prop := match o with
  | some (.o (.lst xs)) => Q xs
  | _ => False
def gOD (o : Option Sl) (Q : List (Key × D) → Prop) : Prop := match o with
  | some (.o (.dk xs)) => Q xs
  | _ => False
def gI (d : D) (Q : Int → Prop) : Prop := match d with
  | .int b => Q b
  | _ => False
def gK (d : D) (Q : Key → Prop) : Prop := match keyOf d with
  | some k => Q k
  | none => False
def gSm {α : Type} (o : Option α) (Q : α → Prop) : Prop := match o with
  | some k => Q k
  | none => False
/-- an own list's method, its value dropped -/
def sLop (f : List D → List D → (List D → Prop) → Prop) (i : Nat) (a : DA) : DS := fun E K ρ => gOL ρ[i]? fun xs => a E ρ fun ys => f xs ys fun zs => K.nx (ρ.set i (.o (.lst zs)))
def lExt (xs ys : List D) (Q : List D → Prop) : Prop := match ys with
  | [.lst zs] => xs.length + zs.length ≤ lineMax ∧ Q (xs ++ zs)
  | _ => False
def lIns (xs ys : List D) (Q : List D → Prop) : Prop := match ys with
  | [.int k, y] => (xs.length < lineMax ∧ 0 ≤ k ∧ k < 2 ^ 63) ∧ Q (xs.take k.toNat ++ [y] ++ xs.drop k.toNat)
  | _ => False
def lRev (xs ys : List D) (Q : List D → Prop) : Prop := ys = [] ∧ Q xs.reverse
def lClr (xs ys : List D) (Q : List D → Prop) : Prop := ys = [] ∧ Q []
/-- pop: what is given, what is left -/
def lPop0 (xs : List D) (Q : D → List D → Prop) : Prop := gSm xs[xs.length - 1]? fun y => Q y xs.dropLast
def lPop1 (xs : List D) (k : Int) (Q : D → List D → Prop) : Prop := (-(2 ^ 63) ≤ k ∧ k < 2 ^ 63) ∧ gSm (ixN xs.length k) fun j => gSm xs[j]? fun y => Q y (xs.eraseIdx j)
def lPop (xs ys : List D) (Q : D → List D → Prop) : Prop := match ys with
  | [] => lPop0 xs Q
  | [.int k] => lPop1 xs k Q
  | _ => False
/-- xs.pop(..) -/
def sPop (i : Nat) (a : DA) : DS := fun E K ρ => gOL ρ[i]? fun xs => a E ρ fun ys => lPop xs ys fun _ zs => K.nx (ρ.set i (.o (.lst zs)))
/-- y = xs.pop(..) -/
def sPopTo (i j : Nat) (a : DA) : DS := fun E K ρ => gOL ρ[i]? fun xs => a E ρ fun ys => lPop xs ys fun y zs => K.nx ((ρ.set i (.o (.lst zs))).set j (.v y))
/-- xs.append(xs.pop(..)) -/
def sPopApp (i : Nat) (a : DA) : DS := fun E K ρ => gOL ρ[i]? fun xs => a E ρ fun ys => lPop xs ys fun y zs => zs.length < lineMax ∧ K.nx (ρ.set i (.o (.lst (zs ++ [y]))))
/-- xs[i] = v -/
def sSetIx (i : Nat) (a b : DT) : DS := fun E K ρ => gOL ρ[i]? fun xs => b E ρ fun v => a E ρ fun k => gI k fun k => gSm (ixN xs.length k) fun j => K.nx (ρ.set i (.o (.lst (xs.set j v))))
/-- xs[i] += v -/
def sAugIx (f : D → D → DK → Prop) (i : Nat) (a b : DT) : DS := fun E K ρ => gOL ρ[i]? fun xs => a E ρ fun k => gI k fun k => gSm (ixN xs.length k) fun j => gSm xs[j]? fun x => b E ρ fun y => f x y fun z => K.nx (ρ.set i (.o (.lst (xs.set j z))))
/-- {} -/
def dNewK : DT := fun _ _ Q => Q (.dk [])
/-- d[k] = v -/
def sPutK (i : Nat) (a b : DT) : DS := fun E K ρ => gOD ρ[i]? fun kvs => b E ρ fun v => a E ρ fun k => gK k fun k => kvs.length < 1000000 ∧ K.nx (ρ.set i (.o (.dk (putD kvs k v))))
/-- d[k] of an own dict -/
def dIxK (i : Nat) (a : DT) : DT := fun E ρ Q => gOD ρ[i]? fun kvs => a E ρ fun k => gK k fun k => oGet (lookD kvs k) Q
def gDk (d : D) (Q : List (Key × D) → Prop) : Prop := match d with
  | .dk kvs => Q kvs
  | _ => False
/-- x.get(k), x.get(k, d) -/
def dGetK1 (a b : DT) : DT := fun E ρ Q => a E ρ fun x => gDk x fun kvs => b E ρ fun k => gK k fun k => Q ((lookD kvs k).getD .non)
def dGetK2 (a b c : DT) : DT := fun E ρ Q => a E ρ fun x => gDk x fun kvs => b E ρ fun k => c E ρ fun z => gK k fun k => Q ((lookD kvs k).getD z)
/-- {k: v, ..} -/
def keyV : List (D × D) → Option (List (Key × D))
  | [] => some []
  | (k, v) :: r => match keyOf k, keyV r with
    | some k, some kvs => some ((k, v) :: kvs)
    | _, _ => none
def mergeD (kvs : List (Key × D)) : List (Key × D) := kvs.foldl (fun acc p => putD acc p.1 p.2) []
def DPs := EK → Env → (List (D × D) → Prop) → Prop
def pNil : DPs := fun _ _ Q => Q []
def pCons (a b : DT) (r : DPs) : DPs := fun E ρ Q => a E ρ fun x => b E ρ fun y => r E ρ fun ps => Q ((x, y) :: ps)
def dDisp (a : DPs) : DT := fun E ρ Q => a E ρ fun ps => gSm (keyV ps) fun kvs => ps.length ≤ 15 ∧ Q (.dk (mergeD kvs))
/-! a def that gives a new list of its own -/
def gO (o : Option Sl) (Q : DK) : Prop := match o with
  | some (.o d) => Q d
  | _ => False
def sRetO (i : Nat) : DS := fun _ K ρ => gO ρ[i]? K.rt
def defF (np n : Nat) (b : DS) : DF := fun ds Q E => ds.length = np ∧ b (fun e _ => E e) { nx := fun _ => False, rt := Q } (envOf n ds)
/-! a def that changes the list or dict that stands at its parameter j: what is given, what stands there then -/
def dPair (d o : D) : D := .tup [d, o]
def defX (j np n : Nat) (b : DS) : DF := fun ds Q E => ds.length = np ∧ b (fun e _ => E e) { nx := fun ρ => gO ρ[j]? fun o => Q (dPair .non o), rt := fun _ => False, ro := fun d ρ => gO ρ[j]? fun o => Q (dPair d o) } ((envOf n ds).set j (.o (ds.getD j .non)))
/-- the arguments, the own thing of slot i among them -/
def aOwn (i : Nat) (r : DA) : DA := fun E ρ Q => gO ρ[i]? fun d => r E ρ fun xs => Q (d :: xs)
def gPair (d : D) (Q : D → D → Prop) : Prop := match d with
  | .tup [x, y] => Q x y
  | _ => False
/-- f(.., x, ..) of the own thing x of slot i, its value dropped; kept in slot k -/
def sCallX (i : Nat) (W : DF) (a : DA) : DS := fun E K ρ => a E ρ fun xs => up W xs (fun r => gPair r fun _ o => K.nx (ρ.set i (.o o))) fun e => E e (ρ.set i .no)
def sCallXTo (i k : Nat) (W : DF) (a : DA) : DS := fun E K ρ => a E ρ fun xs => up W xs (fun r => gPair r fun d o => K.nx ((ρ.set i (.o o)).set k (.v d))) fun e => E e (ρ.set i .no)
/-- what an own error may carry -/
def okE : D → Prop
  | .str x => x.length ≤ 1000 ∧ ∀ c ∈ x.cps.toList, c < 16 ^ 8
  | .int i => i.natAbs.log2 < 1920
  | _ => False
def sRaise (c : String) (fs : List Str) (a : DA) : DS := fun E _ ρ => a E ρ fun xs => xs.length = fs.length ∧ (∀ x ∈ xs, okE x) ∧ E ⟨c, (fs.zip xs).reverse⟩ ρ
/-- try: b, except one of ms: s; the others, of os, go on -/
def sTry (ms os : List String) (b s : DS) : DS := fun E B ρ => b (fun e ρ' => if e.cls ∈ ms then s noE B ρ' else e.cls ∈ os ∧ E e ρ') B ρ
/-- try: b, except m as n: return n.f; n's slot is i -/
def sTryR (m : String) (os : List String) (i : Nat) (f : Str) (b : DS) : DS := fun E B ρ => b (fun e ρ' => if e.cls = m then i < ρ'.length ∧ (match e.fs.lookup f with | some d => B.rt d | none => False) else e.cls ∈ os ∧ E e ρ') B ρ
/-- the keys of an own dict, walked -/
def iKeyO (i : Nat) : DI := fun _ ρ Q => gOD ρ[i]? fun kvs => Q (kvs.map fun kv => keyD kv.1)
end DL

/-! DWalk: the transformers of DCore are sound for the hand layer's readings. -/
namespace DL
open PySem L2

abbrev Fg := PySem.W.Frag
/-- the tables of code objects, and the name of the lambdas whose code objects stand in each -/
class TN where
  ts : List Addr
  nm : Addr → Str
variable [TN]
/-- the text's names of classes and defs; what stands at a drawing state's address a: its cells at c, n of them -/
structure Cl where
  nm : String → Option Addr
  so : Bool × (Addr → Addr → Nat → HO)
  /-- the instance that is being made -/
  me : Option Addr := none
  /-- what is given back is a new object of the def's own -/
  fr : Bool := false
  /-- the own things that stand at parameters -/
  pin : Nat → Option Addr := fun _ => none
  /-- the tables of code objects -/
  tabs : List Addr := []

/-! ### what a value represents in a frozen heap -/
mutual
inductive Rep (K : Fg) (cl : Cl) (F : Hp) : V → D → Prop
  | non : Rep K cl F .non .non
  | bl (b : Bool) : Rep K cl F (.bl b) (.bl b)
  | int (i : Int) : Rep K cl F (.int i) (.int i)
  | str (x : Str) : Rep K cl F (.str x) (.str x)
  | tup {a : Addr} {vs : List V} {ds : List D} : SqT K F a vs → Reps K cl F vs ds → Rep K cl F (.ref a) (.tup ds)
  | lst {a : Addr} {vs : List V} {ds : List D} : F a = some (.lst vs) → Reps K cl F vs ds → Rep K cl F (.ref a) (.lst ds)
  | dk {a : Addr} {ws : List (L2.Key × V)} {kvs : List (DL.Key × D)} : F a = some (.dK ws) → KReps K cl F ws kvs → Rep K cl F (.ref a) (.dk kvs)
  | dt {a : Addr} {ws : List (List L2.Key × V)} {kvs : List (List DL.Key × D)} : F a = some (.dT ws) → TReps K cl F ws kvs → Rep K cl F (.ref a) (.dt kvs)
  | ins {a C dx : Addr} {ws : List (Str × V)} {c : String} {kvs : List (Str × D)} : cl.nm c = some C → F a = some (.ins C dx ws) → F dx = some (.own a) → FReps K cl F ws kvs → Rep K cl F (.ref a) (.ins c kvs)
  | st {a c : Addr} {ns : List Int} : F a = some (cl.so.2 a c ns.length) → (cl.so.1 = true → F c = some (.lst (ns.map V.int))) → (∀ n ∈ ns, 0 ≤ n) → Rep K cl F (.ref a) .st
  | scr {a : Addr} {ns : List Int} : SqL K F a (ns.map V.int) → Rep K cl F (.ref a) (.scr ns)
  | fn {a : Addr} {x : String} : cl.nm x = some a → Rep K cl F (.ref a) (.fn x)
inductive Reps (K : Fg) (cl : Cl) (F : Hp) : List V → List D → Prop
  | nil : Reps K cl F [] []
  | cons {v : V} {d : D} {vs : List V} {ds : List D} : Rep K cl F v d → Reps K cl F vs ds → Reps K cl F (v :: vs) (d :: ds)
inductive KReps (K : Fg) (cl : Cl) (F : Hp) : List (L2.Key × V) → List (DL.Key × D) → Prop
  | nil : KReps K cl F [] []
  | cons {k : L2.Key} {v : V} {d : D} {vs : List (L2.Key × V)} {ds : List (DL.Key × D)} : Rep K cl F v d → KReps K cl F vs ds → KReps K cl F ((k, v) :: vs) ((k, d) :: ds)
inductive TReps (K : Fg) (cl : Cl) (F : Hp) : List (List L2.Key × V) → List (List DL.Key × D) → Prop
  | nil : TReps K cl F [] []
  | cons {k : List L2.Key} {v : V} {d : D} {vs : List (List L2.Key × V)} {ds : List (List DL.Key × D)} : Rep K cl F v d → TReps K cl F vs ds → TReps K cl F ((k, v) :: vs) ((k, d) :: ds)
inductive FReps (K : Fg) (cl : Cl) (F : Hp) : List (Str × V) → List (Str × D) → Prop
  | nil : FReps K cl F [] []
  | cons {k : Str} {v : V} {d : D} {vs : List (Str × V)} {ds : List (Str × D)} : Rep K cl F v d → FReps K cl F vs ds → FReps K cl F ((k, v) :: vs) ((k, d) :: ds)
end
theorem same_t {K : Fg} {H H' : Hp} {a : Addr} {xs : List V} (e : Same H H') (h : SqT K H a xs) : SqT K H' a xs := by
  rcases h with (h | ⟨o, h⟩) | h
  · exact .inl (.inl (e _ _ h))
  · exact .inl (.inr ⟨o, e _ _ h⟩)
  · exact .inr h
section
variable {K : Fg} {cl : Cl} {F F' : Hp}
mutual
theorem Rep.mono (e : Same F F') : ∀ {v : V} {d : D}, Rep K cl F v d → Rep K cl F' v d
  | _, _, .non => .non
  | _, _, .bl b => .bl b
  | _, _, .int b => .int b
  | _, _, .str b => .str b
  | _, _, .tup h r => .tup (same_t e h) (Reps.mono e r)
  | _, _, .lst h r => .lst (e _ _ h) (Reps.mono e r)
  | _, _, .dk h r => .dk (e _ _ h) (KReps.mono e r)
  | _, _, .dt h r => .dt (e _ _ h) (TReps.mono e r)
  | _, _, .ins c h g r => .ins c (e _ _ h) (e _ _ g) (FReps.mono e r)
  | _, _, .st h g z => .st (e _ _ h) (fun t => e _ _ (g t)) z
  | _, _, .scr h => .scr (e.seq h)
  | _, _, .fn h => .fn h
theorem Reps.mono (e : Same F F') : ∀ {vs : List V} {ds : List D}, Reps K cl F vs ds → Reps K cl F' vs ds
  | _, _, .nil => .nil
  | _, _, .cons h r => .cons (Rep.mono e h) (Reps.mono e r)
theorem KReps.mono (e : Same F F') : ∀ {vs : List (L2.Key × V)} {ds : List (DL.Key × D)}, KReps K cl F vs ds → KReps K cl F' vs ds
  | _, _, .nil => .nil
  | _, _, .cons h r => .cons (Rep.mono e h) (KReps.mono e r)
theorem TReps.mono (e : Same F F') : ∀ {vs : List (List L2.Key × V)} {ds : List (List DL.Key × D)}, TReps K cl F vs ds → TReps K cl F' vs ds
  | _, _, .nil => .nil
  | _, _, .cons h r => .cons (Rep.mono e h) (TReps.mono e r)
theorem FReps.mono (e : Same F F') : ∀ {vs : List (Str × V)} {ds : List (Str × D)}, FReps K cl F vs ds → FReps K cl F' vs ds
  | _, _, .nil => .nil
  | _, _, .cons h r => .cons (Rep.mono e h) (FReps.mono e r)
end
end

/-! ### growth -/
/-- a table whose code objects are all of a kind -/
def TabC (C : Addr → Prop) (H : Hp) (P : Addr) : Prop := ∃ ps : Array Value, H P = some (.tbl ps) ∧ TriplesOk ps.toList ∧ ∀ (pos : Pos) (cv : Value), codeAmong pos ps.toList = some cv → ∃ c, cv = .ref c ∧ C c
theorem TabC.of {C : Addr → Prop} {H H' : Hp} {P : Addr} (t : TabC C H P) (e : ∀ ps, H P = some (.tbl ps) → H' P = some (.tbl ps)) : TabC C H' P := by
  obtain ⟨ps, h1, h2, h3⟩ := t
  exact ⟨ps, e ps h1, h2, h3⟩
/-- what was tracked stays; a table may have grown -/
structure Kp (H H' : Hp) : Prop where
  o : ∀ b u, H b = some u → (∀ ps, u ≠ .tbl ps) → H' b = some u
  t : ∀ (P : Addr), P ∈ TN.ts → ∀ C : Addr → Prop, (∀ c, H' c = some (LamX.CodeO c (TN.nm P)) → C c) → TabC C H P → TabC C H' P
  f : ∀ b, H' b = none → H b = none
  b : ∀ P ps, H' P = some (.tbl ps) → ∃ ps0, H P = some (.tbl ps0)
theorem Kp.get {H H' : Hp} (k : Kp H H') {b : Addr} {u : HO} (e : H b = some u) (n : ∀ ps, u ≠ .tbl ps := by intro _ z; cases z) : H' b = some u := k.o b u e n
theorem Kp.free {H H' : Hp} (k : Kp H H') {b : Addr} (e : H' b = none) : H b = none := k.f b e
/-- more is tracked, but no table -/
structure Nx (H H' : Hp) : Prop where
  s : Same H H'
  b : ∀ P ps, H' P = some (.tbl ps) → ∃ ps0, H P = some (.tbl ps0)
theorem Nx.refl (H : Hp) : Nx H H := ⟨Same.refl H, fun _ ps e => ⟨ps, e⟩⟩
theorem Nx.trans {H H1 H2 : Hp} (a : Nx H H1) (b : Nx H1 H2) : Nx H H2 := ⟨a.s.trans b.s, fun P ps e => (b.b P ps e).elim fun ps1 e1 => a.b P ps1 e1⟩
theorem nx_upd {H : Hp} {p : Addr} {o : HO} (h : H p = none) (no : ∀ ps, o ≠ .tbl ps := by intro _ z; cases z) : Nx H (upd H p o) := ⟨fun b x e => by
  rw [upd_ne (ne_of_none e h)]
  exact e, fun P ps e => by
  by_cases hp : P = p
  · rw [hp, upd_same] at e
    exact absurd (Option.some.inj e) (no ps)
  · rw [upd_ne hp] at e
    exact ⟨ps, e⟩⟩
theorem Nx.kp {H H' : Hp} (e : Nx H H') : Kp H H' := ⟨fun b u h _ => e.s b u h, fun P _ C _ t => t.of fun ps h => e.s _ _ h, fun b h => e.s.free h, e.b⟩
theorem Kp.refl (H : Hp) : Kp H H := (Nx.refl H).kp
theorem Kp.tab {H H' : Hp} (k : Kp H H') {P : Addr} (hm : P ∈ TN.ts) (t : LamX.TabS H P (TN.nm P)) : LamX.TabS H' P (TN.nm P) := k.t P hm (fun c => H' c = some (LamX.CodeO c (TN.nm P))) (fun _ h => h) (by
  obtain ⟨ps, h1, h2, h3⟩ := t
  refine ⟨ps, h1, h2, fun pos cv hc => ?_⟩
  obtain ⟨c, e1, e2⟩ := h3 pos cv hc
  exact ⟨c, e1, k.o _ _ e2 LamX.codeO_ne⟩)
theorem Kp.trans {H H1 H2 : Hp} (a : Kp H H1) (b : Kp H1 H2) : Kp H H2 :=
  ⟨fun c u e n => b.o c u (a.o c u e n) n, fun P hm C hC t => b.t P hm C hC (a.t P hm C (fun c h => hC c (b.o _ _ h LamX.codeO_ne)) t), fun c e => a.f c (b.f c e), fun P ps e => (b.b P ps e).elim fun ps1 e1 => a.b P ps1 e1⟩
/-- frozen F in H grows to F' in H': what was tracked stays, what is newly frozen is new -/
structure Gr (F H F' H' : Hp) : Prop where
  f : Same F F'
  k : Kp H H'
  s : Same F' H'
  n : ∀ p, F' p ≠ none → F p = none → H p = none
  w : ∀ p ps, F' p = some (.tbl ps) → H p = none ∨ H p = some (.tbl ps)
  v : ∀ p ps, F' p = some (.tbl ps) → F p = some (.tbl ps)
theorem Gr.refl {F H : Hp} (s : Same F H) : Gr F H F H := ⟨Same.refl _, Kp.refl _, s, fun _ a b => absurd b a, fun p ps e => .inr (s _ _ e), fun _ _ e => e⟩
theorem Gr.trans {F H F1 H1 F2 H2 : Hp} (a : Gr F H F1 H1) (b : Gr F1 H1 F2 H2) : Gr F H F2 H2 := by
  refine ⟨a.f.trans b.f, a.k.trans b.k, b.s, fun p h2 h0 => ?_, fun p ps e => ?_, fun p ps e => a.v p ps (b.v p ps e)⟩
  · cases h1 : F1 p with
    | none => exact a.k.free (b.n p h2 h1)
    | some o => exact a.n p (by rw [h1]; simp) h0
  · cases h1 : F1 p with
    | none => exact .inl (a.k.free (b.n p (by rw [e]; simp) h1))
    | some o =>
      have z := b.f _ _ h1
      rw [e] at z
      cases z
      exact a.w p ps h1
theorem Gr.h {F H H' : Hp} (s : Same F H) (k : Nx H H') : Gr F H F H' := ⟨Same.refl _, k.kp, s.trans k.s, fun _ a b => absurd b a, fun p ps e => .inr (s _ _ e), fun _ _ e => e⟩
theorem Gr.hk {F H H' : Hp} (s : Same F H) (k : Kp H H') (s' : Same F H') : Gr F H F H' := ⟨Same.refl _, k, s', fun _ a b => absurd b a, fun p ps e => .inr (s _ _ e), fun _ _ e => e⟩
theorem same_upd {H : Hp} {p : Addr} {o : HO} (h : H p = none) : Same H (upd H p o) := fun b x e => by
  rw [upd_ne (ne_of_none e h)]
  exact e
theorem same_upd2 {F H : Hp} {p : Addr} {o : HO} (e : Same F H) : Same (upd F p o) (upd H p o) := fun b x q => by
  by_cases hb : b = p
  · subst hb
    rw [upd_same] at q ⊢
    exact q
  · rw [upd_ne hb] at q ⊢
    exact e b x q
/-- a new object is laid and frozen -/
theorem Gr.new {F H : Hp} {p : Addr} {o : HO} (s : Same F H) (h : H p = none) (no : ∀ ps, o ≠ .tbl ps := by intro _ z; cases z) : Gr F H (upd F p o) (upd H p o) := by
  refine ⟨same_upd (s.free h), (nx_upd h no).kp, same_upd2 s, fun q a b => ?_, fun q ps e => ?_, fun q ps e => ?_⟩
  · by_cases hq : q = p
    · subst hq
      exact h
    · rw [upd_ne hq] at a
      exact absurd b a
  · by_cases hq : q = p
    · subst hq
      exact .inl h
    · rw [upd_ne hq] at e
      exact .inr (s _ _ e)
  · by_cases hq : q = p
    · rw [hq, upd_same] at e
      exact absurd (Option.some.inj e) (no ps)
    · rwa [upd_ne hq] at e
/-- what the def has made of its own may be frozen -/
theorem Gr.keepNone {F H F' H' : Hp} (g : Gr F H F' H') {l : Addr} {o : HO} (h : H l = some o) (f : F l = none) : F' l = none := by
  cases q : F' l with
  | none => rfl
  | some u =>
    have z := g.n l (by rw [q]; simp) f
    rw [h] at z
    cases z

/-! ### slots -/
def Own (K : Fg) (cl : Cl) (F H : Hp) (a : Addr) : D → Prop
  | .lst ds => ∃ vs, H a = some (.lst vs) ∧ Reps K cl F vs ds
  | .dk kvs => ∃ ws, H a = some (.dK ws) ∧ KReps K cl F ws kvs
  | .dt kvs => ∃ ws, H a = some (.dT ws) ∧ TReps K cl F ws kvs
  | .ins c kvs => ∃ ws, (∃ C dx, cl.nm c = some C ∧ H a = some (.ins C dx ws) ∧ F dx = some (.own a) ∧ ∀ m, cl.me = some m → m = a) ∧ FReps K cl F ws kvs
  | _ => False
theorem Own.there {K : Fg} {cl : Cl} {F H : Hp} {a : Addr} {d : D} (h : Own K cl F H a d) : ∃ o, H a = some o := by
  cases d <;> first | exact h.elim | (obtain ⟨_, e, _⟩ := h; exact ⟨_, e⟩) | (obtain ⟨_, ⟨_, _, _, e, _⟩, _⟩ := h; exact ⟨_, e⟩)
theorem Own.mono {K : Fg} {cl : Cl} {F H F' H' : Hp} {a : Addr} {d : D} (f : Same F F') (k : ∀ o, H a = some o → (∀ ps, o ≠ .tbl ps) → H' a = some o) (h : Own K cl F H a d) : Own K cl F' H' a d := by
  cases d with
  | lst ds => obtain ⟨vs, e, r⟩ := h; exact ⟨vs, k _ e (fun _ z => by cases z), r.mono f⟩
  | dk ds => obtain ⟨vs, e, r⟩ := h; exact ⟨vs, k _ e (fun _ z => by cases z), r.mono f⟩
  | dt ds => obtain ⟨vs, e, r⟩ := h; exact ⟨vs, k _ e (fun _ z => by cases z), r.mono f⟩
  | ins c ds => obtain ⟨vs, ⟨C, dx, n, e, o, m⟩, r⟩ := h; exact ⟨vs, ⟨C, dx, n, k _ e (fun _ z => by cases z), f _ _ o, m⟩, r.mono f⟩
  | _ => exact h.elim
/-- the tables are right, and not frozen -/
def TabF (cl : Cl) (F H : Hp) : Prop := ∀ p ∈ cl.tabs, LamX.TabS H p (TN.nm p) ∧ F p = none ∧ p ∈ TN.ts
theorem TabF.nil {cl : Cl} {F H : Hp} (h : cl.tabs = []) : TabF cl F H := fun p hp => by rw [h] at hp; cases hp
theorem TabF.grow {cl : Cl} {F H F' H' : Hp} (t : TabF cl F H) (g : Gr F H F' H') : TabF cl F' H' := fun p hp => by
  obtain ⟨a, b, m⟩ := t p hp
  refine ⟨g.k.tab m a, ?_, m⟩
  obtain ⟨ps, e, _⟩ := a
  exact g.keepNone e b
/-- no table and no code object stands there -/
structure NT (H : Hp) (a : Addr) : Prop where
  t : ∀ ps, H a ≠ some (.tbl ps)
  c : ∀ c q, H a ≠ some (LamX.CodeO c q)
theorem NT.free {H : Hp} {a : Addr} (h : H a = none) : NT H a := ⟨fun _ z => by (rw [h] at z; cases z), fun _ _ z => by (rw [h] at z; cases z)⟩
theorem NT.at {H : Hp} {a : Addr} {o : HO} (h : H a = some o) (n1 : ∀ ps, o ≠ .tbl ps := by intro _ z; cases z) (n2 : ∀ φ, o ≠ .ext φ := by intro _ z; cases z) : NT H a :=
  ⟨fun ps z => n1 ps (Option.some.inj (h.symm.trans z)), fun c q z => by unfold LamX.CodeO at z; exact n2 _ (Option.some.inj (h.symm.trans z))⟩
theorem Own.nt {K : Fg} {cl : Cl} {F H : Hp} {a : Addr} {d : D} (h : Own K cl F H a d) : NT H a := by
  cases d <;> first | exact h.elim | (obtain ⟨_, e, _⟩ := h; exact .at e) | (obtain ⟨_, ⟨_, _, _, e, _⟩, _⟩ := h; exact .at e)
theorem tabS_put {H : Hp} {a : Addr} {o : HO} (n : NT H a) {P : Addr} {q : Str} (t : LamX.TabS H P q) : LamX.TabS (upd H a o) P q := by
  obtain ⟨ps, h1, h2, h3⟩ := t
  refine ⟨ps, by rw [upd_ne (fun z => n.t ps (by rw [← z]; exact h1))]; exact h1, h2, fun pos cv hc => ?_⟩
  obtain ⟨c, e1, e2⟩ := h3 pos cv hc
  exact ⟨c, e1, by rw [upd_ne (fun z => n.c _ _ (by rw [← z]; exact e2))]; exact e2⟩
theorem TabF.put {cl : Cl} {F H : Hp} {a : Addr} {o : HO} (t : TabF cl F H) (n : NT H a) (no : ∀ ps, o ≠ .tbl ps := by intro _ z; cases z) : TabF cl F (upd H a o) := fun p hp => by
  obtain ⟨x, b, m⟩ := t p hp
  exact ⟨tabS_put n x, b, m⟩
theorem TabF.frz {cl : Cl} {F H : Hp} {a : Addr} {o : HO} (t : TabF cl F H) (n : NT H a) (ho : H a = some o) : TabF cl (upd F a o) H := fun p hp => by
  obtain ⟨x, b, m⟩ := t p hp
  obtain ⟨ps, e, _⟩ := x
  refine ⟨(t p hp).1, ?_, m⟩
  exact (by rw [upd_ne (fun z => n.t ps (by rw [← z]; exact e))]; exact b)
/-- what is not known at the start may be written -/
theorem Kp.put {H H' : Hp} (k : Kp H H') {a : Addr} {o : HO} (n : H a = none) (nt : NT H' a) (no : ∀ ps, o ≠ .tbl ps := by intro _ z; cases z) : Kp H (upd H' a o) := by
  have ne : ∀ b u, H b = some u → b ≠ a := fun b u e z => by rw [z, n] at e; cases e
  refine ⟨fun b u e q => by rw [upd_ne (ne b u e)]; exact k.o b u e q, fun P hm C hC t => ?_, fun b e => ?_, fun P ps e => ?_⟩
  · have t2 := k.t P hm C (fun c h => hC c (by rw [upd_ne (fun z => nt.c _ _ (by rw [← z]; exact h))]; exact h)) t
    obtain ⟨ps, e, _⟩ := t
    exact t2.of fun ps' e' => by rw [upd_ne (ne _ _ e)]; exact e'
  · by_cases hb : b = a
    · rw [hb, upd_same] at e; cases e
    · rw [upd_ne hb] at e; exact k.f b e
  · by_cases hb : P = a
    · rw [hb, upd_same] at e
      exact absurd (Option.some.inj e) (no ps)
    · rw [upd_ne hb] at e; exact k.b P ps e
def SlRep (K : Fg) (cl : Cl) (H0 F H : Hp) (x : Option V) (a : Addr) : Sl → Prop
  | .no => True
  | .v d => ∃ v, x = some v ∧ Rep K cl F v d
  | .o d => x = some (.ref a) ∧ H0 a = none ∧ F a = none ∧ Own K cl F H a d
structure Hold (K : Fg) (cl : Cl) (F0 H0 F H : Hp) (σ : L2.St) (ρ : DL.Env) : Prop where
  g : Gr F0 H0 F H
  tb : TabF cl F H
  len : σ.length = ρ.length
  sl : ∃ θ : Nat → Addr, (∀ (i : Nat) s, ρ[i]? = some s → SlRep K cl H0 F H (σ[i]?.join) (θ i) s) ∧ (∀ (i j : Nat) di dj, ρ[i]? = some (.o di) → ρ[j]? = some (.o dj) → θ i = θ j → i = j) ∧ ∀ (i : Nat) a d, cl.pin i = some a → ρ[i]? = some (.o d) → θ i = a
section
variable {K : Fg} {cl : Cl} {F0 H0 F H F' H' : Hp} {σ : L2.St} {ρ : DL.Env}
theorem Hold.grow (h : Hold K cl F0 H0 F H σ ρ) (g : Gr F H F' H') : Hold K cl F0 H0 F' H' σ ρ := by
  obtain ⟨θ, hs, hd⟩ := h.sl
  refine ⟨h.g.trans g, h.tb.grow g, h.len, θ, fun i s e => ?_, hd⟩
  have q := hs i s e
  cases s with
  | no => trivial
  | v d => obtain ⟨v, e1, r⟩ := q; exact ⟨v, e1, r.mono g.f⟩
  | o d =>
    obtain ⟨e1, n0, nf, w⟩ := q
    obtain ⟨o, ho⟩ := w.there
    exact ⟨e1, n0, g.keepNone ho nf, w.mono g.f fun o e n => g.k.o _ _ e n⟩
theorem Hold.same (h : Hold K cl F0 H0 F H σ ρ) : Same F H := h.g.s
theorem join_some {σ : L2.St} {i : Nat} {v : V} (h : σ[i]?.join = some v) : σ[i]? = some (some v) := by
  cases e : σ[i]? with
  | none => rw [e] at h; cases h
  | some x =>
    rw [e] at h
    have h' : x = some v := h
    rw [h']
theorem Hold.var {i : Nat} {d : D} (h : Hold K cl F0 H0 F H σ ρ) (e : ρ[i]? = some (.v d)) : ∃ v, σ[i]? = some (some v) ∧ Rep K cl F v d := by
  obtain ⟨θ, hs, _⟩ := h.sl
  obtain ⟨v, e1, r⟩ := hs i _ e
  exact ⟨v, join_some e1, r⟩
/-- a slot is set to frozen data -/
theorem Hold.set {i : Nat} {d : D} {v : V} (h : Hold K cl F0 H0 F H σ ρ) (r : Rep K cl F v d) : Hold K cl F0 H0 F H (σ.set i (some v)) (ρ.set i (.v d)) := by
  obtain ⟨θ, hs, hd, hp⟩ := h.sl
  have ne : ∀ {a da}, (ρ.set i (Sl.v d))[a]? = some (Sl.o da) → ρ[a]? = some (Sl.o da) := fun {a da} q => by
      by_cases ha : a = i
      · subst ha
        have hl : a < ρ.length := by
          have := (List.getElem?_eq_some_iff.mp q).1
          simpa using this
        rw [List.getElem?_set_self hl] at q
        cases q
      · rwa [List.getElem?_set_ne (Ne.symm ha)] at q
  refine ⟨h.g, h.tb, by simp [h.len], θ, fun j s e => ?_, fun j k dj dk e1 e2 => ?_, fun j a dj e1 e2 => hp j a dj e1 (ne e2)⟩
  · by_cases hj : j = i
    · subst hj
      have hl : j < ρ.length := by
        have := (List.getElem?_eq_some_iff.mp e).1
        simpa using this
      rw [List.getElem?_set_self hl] at e
      cases e
      refine ⟨v, ?_, r⟩
      rw [List.getElem?_set_self (by rw [h.len]; exact hl)]
      rfl
    · rw [List.getElem?_set_ne (Ne.symm hj)] at e ⊢
      exact hs j s e
  · exact hd j k dj dk (ne e1) (ne e2)
/-- a slot is set to a new object of the def's own -/
theorem Hold.own {i : Nat} {d : D} {a : Addr} (hpi : cl.pin i = none) (h : Hold K cl F0 H0 F H σ ρ) (g : Gr F H F' H') (ha : H a = none) (hf : F' a = none) (w : Own K cl F' H' a d) : Hold K cl F0 H0 F' H' (σ.set i (some (.ref a))) (ρ.set i (.o d)) := by
  have h1 := h.grow g
  obtain ⟨θ0, hs0, _⟩ := h.sl
  obtain ⟨θ, hs, hd, hp⟩ := h.sl
  refine ⟨h1.g, h1.tb, by simp [h.len], fun j => if j = i then a else θ j, fun j s e => ?_, fun j k dj dk e1 e2 q => ?_, fun j b dj e1 e2 => ?_⟩
  · by_cases hj : j = i
    · subst hj
      have hl : j < ρ.length := by
        have := (List.getElem?_eq_some_iff.mp e).1
        simpa using this
      rw [List.getElem?_set_self hl] at e
      cases e
      show SlRep K cl H0 F' H' _ (if j = j then a else θ j) _
      rw [if_pos rfl]
      refine ⟨?_, h.g.k.free ha, hf, w⟩
      rw [List.getElem?_set_self (by rw [h.len]; exact hl)]
      rfl
    · rw [List.getElem?_set_ne (Ne.symm hj)] at e ⊢
      show SlRep K cl H0 F' H' _ (if j = i then a else θ j) _
      rw [if_neg hj]
      have q := hs j s e
      cases s with
      | no => trivial
      | v d => obtain ⟨v, e1, r⟩ := q; exact ⟨v, e1, r.mono g.f⟩
      | o d =>
        obtain ⟨e1, n0, nf, w⟩ := q
        obtain ⟨o, ho⟩ := w.there
        exact ⟨e1, n0, g.keepNone ho nf, w.mono g.f fun o e n => g.k.o _ _ e n⟩
  · have q : (if j = i then a else θ j) = (if k = i then a else θ k) := q
    have ne : ∀ {b db}, b ≠ i → (ρ.set i (Sl.o d))[b]? = some (Sl.o db) → ρ[b]? = some (Sl.o db) := fun {b db} hb q => by
      rwa [List.getElem?_set_ne (Ne.symm hb)] at q
    have far : ∀ {b db}, b ≠ i → (ρ.set i (Sl.o d))[b]? = some (Sl.o db) → θ b ≠ a := fun {b db} hb q z => by
      obtain ⟨_, _, _, w⟩ := hs b _ (ne hb q)
      obtain ⟨o, ho⟩ := w.there
      rw [z, ha] at ho
      cases ho
    by_cases hj : j = i
    · by_cases hk : k = i
      · rw [hj, hk]
      · rw [if_pos hj, if_neg hk] at q
        exact absurd q.symm (far hk e2)
    · by_cases hk : k = i
      · rw [if_neg hj, if_pos hk] at q
        exact absurd q (far hj e1)
      · rw [if_neg hj, if_neg hk] at q
        exact hd j k dj dk (ne hj e1) (ne hk e2) q
  · show (if j = i then a else θ j) = b
    by_cases hj : j = i
    · subst hj
      rw [hpi] at e1
      cases e1
    · rw [if_neg hj]
      rw [List.getElem?_set_ne (Ne.symm hj)] at e2
      exact hp j b dj e1 e2
/-- forgetting -/
theorem Hold.drop {i : Nat} (h : Hold K cl F0 H0 F H σ ρ) : Hold K cl F0 H0 F H σ (ρ.set i .no) := by
  obtain ⟨θ, hs, hd, hp⟩ := h.sl
  have ne : ∀ {a : Nat} {s : Sl}, s ≠ Sl.no → (ρ.set i Sl.no)[a]? = some s → ρ[a]? = some s := fun {a s} hn q => by
    by_cases ha : a = i
    · subst ha
      have hl : a < ρ.length := by
        have := (List.getElem?_eq_some_iff.mp q).1
        simpa using this
      rw [List.getElem?_set_self hl] at q
      exact absurd (Option.some.inj q).symm hn
    · rwa [List.getElem?_set_ne (Ne.symm ha)] at q
  refine ⟨h.g, h.tb, by simp [h.len], θ, fun j s e => ?_, fun j k dj dk e1 e2 => hd j k dj dk (ne (by simp) e1) (ne (by simp) e2), fun j a dj e1 e2 => hp j a dj e1 (ne (by simp) e2)⟩
  cases s with
  | no => trivial
  | v d => exact hs j _ (ne (by simp) e)
  | o d => exact hs j _ (ne (by simp) e)
theorem Hold.fgt (js : List Nat) : ∀ {ρ : DL.Env}, Hold K cl F0 H0 F H σ ρ → Hold K cl F0 H0 F H σ (DL.fgt js ρ) := by
  induction js with
  | nil => intro ρ h; exact h
  | cons j r ih => intro ρ h; exact ih h.drop
/-- a slot's own object is frozen -/
theorem Hold.frz (i : Nat) (h : Hold K cl F0 H0 F H σ ρ) : ∃ F', Hold K cl F0 H0 F' H σ (DL.frz i ρ) := by
  unfold DL.frz
  cases e : ρ[i]? with
  | none => exact ⟨F, h⟩
  | some s =>
    cases s with
    | no => exact ⟨F, h⟩
    | v d => exact ⟨F, h⟩
    | o d =>
      obtain ⟨θ, hs, hd, hpn⟩ := h.sl
      obtain ⟨e1, n0, nf, w⟩ := hs i _ e
      obtain ⟨ob, ho⟩ := w.there
      have sf : Same F (upd F (θ i) ob) := same_upd nf
      have s2 : Same (upd F (θ i) ob) H := fun b u q => by
        by_cases hb : b = θ i
        · subst hb
          rw [upd_same] at q
          cases q
          exact ho
        · rw [upd_ne hb] at q
          exact h.g.s b u q
      have rr : Rep K cl (upd F (θ i) ob) (.ref (θ i)) d := by
        have eo : (upd F (θ i) ob) (θ i) = some ob := upd_same
        cases d with
        | lst ds => obtain ⟨vs, q, r⟩ := w; rw [ho] at q; cases q; exact .lst eo (r.mono sf)
        | dk ds => obtain ⟨vs, q, r⟩ := w; rw [ho] at q; cases q; exact .dk eo (r.mono sf)
        | dt ds => obtain ⟨vs, q, r⟩ := w; rw [ho] at q; cases q; exact .dt eo (r.mono sf)
        | ins c ds => obtain ⟨vs, ⟨C, dx, n, q, o, _⟩, r⟩ := w; rw [ho] at q; cases q; exact .ins n eo (sf _ _ o) (r.mono sf)
        | _ => exact w.elim
      have hg : Gr F0 H0 (upd F (θ i) ob) H := ⟨h.g.f.trans sf, h.g.k, s2, fun p a b => by
        by_cases hp : p = θ i
        · subst hp; exact n0
        · rw [upd_ne hp] at a
          exact h.g.n p a b, fun p ps a => by
        by_cases hp : p = θ i
        · subst hp; exact .inl n0
        · rw [upd_ne hp] at a
          exact h.g.w p ps a, fun p ps a => by
        by_cases hp : p = θ i
        · rw [hp, upd_same, ← ho] at a
          exact absurd a (w.nt.t ps)
        · rw [upd_ne hp] at a
          exact h.g.v p ps a⟩
      have ne : ∀ {a : Nat} {s : Sl}, a ≠ i → (ρ.set i (Sl.v d))[a]? = some s → ρ[a]? = some s := fun {a s} hb q => by
        rwa [List.getElem?_set_ne (Ne.symm hb)] at q
      have me : ∀ {s : Sl}, (ρ.set i (Sl.v d))[i]? = some s → s = Sl.v d := fun {s} q => by
        have hl : i < ρ.length := (List.getElem?_eq_some_iff.mp e).1
        rw [List.getElem?_set_self hl] at q
        exact (Option.some.inj q).symm
      refine ⟨upd F (θ i) ob, hg, h.tb.frz w.nt ho, by simp [h.len], θ, fun j s q => ?_, fun j k dj dk q1 q2 => ?_, fun j b dj q1 q2 => ?_⟩
      · by_cases hj : j = i
        · subst hj
          cases me q
          exact ⟨_, e1, rr⟩
        · have q' := hs j s (ne hj q)
          cases s with
          | no => trivial
          | v d' => obtain ⟨v, z1, r⟩ := q'; exact ⟨v, z1, r.mono sf⟩
          | o d' =>
            obtain ⟨z1, z0, zf, zw⟩ := q'
            have hne : θ j ≠ θ i := fun z => hj (hd j i _ _ (ne hj q) e z)
            exact ⟨z1, z0, by rw [upd_ne hne]; exact zf, zw.mono sf fun _ x _ => x⟩
      · have nj : j ≠ i := fun z => by subst z; have := me q1; cases this
        have nk : k ≠ i := fun z => by subst z; have := me q2; cases this
        exact hd j k dj dk (ne nj q1) (ne nk q2)
      · have nj : j ≠ i := fun z => by subst z; have := me q2; cases this
        exact hpn j b dj q1 (ne nj q2)
end
end DL

/-! DJudge: readings of the hand layer refined by the transformers of DCore; the rules. -/
namespace DL
open PySem L2
variable [TN]

theorem line_eq : lineMax = sizeLine := by rw [sizeLine_eq]; rfl
/-- an error's value -/
def RepErr (K : Fg) (cl : Cl) (F : Hp) (c : Value) (dx : Option Addr) (e : Err) : Prop :=
  ∃ C, cl.nm e.cls = some C ∧ c = .ref C ∧ match dx with
    | none => e.fs = []
    | some d => ∃ ws, F d = some (.xd ws) ∧ FReps K cl F ws e.fs
def LinkE (K : Fg) (cl : Cl) (F0 H0 : Hp) (W : WX) (E : EK) : Prop :=
  ∀ err ρ σ F H c dx, Hold K cl F0 H0 F H σ ρ → E err ρ → RepErr K cl F c dx err → W c dx σ H
structure LinkD (K : Fg) (cl : Cl) (F0 H0 : Hp) (A : Ends) (B : DE) : Prop where
  nx : ∀ F H σ ρ, Hold K cl F0 H0 F H σ ρ → B.nx ρ → A.nx σ H
  bk : ∀ F H σ ρ, Hold K cl F0 H0 F H σ ρ → B.bk ρ → A.bk σ H
  ct : ∀ F H σ ρ, Hold K cl F0 H0 F H σ ρ → B.ct ρ → A.ct σ H
  rt : ∀ F H v d, Gr F0 H0 F H → (cl.fr = false → Rep K cl F v d) → (cl.fr = true → ∃ p, v = .ref p ∧ H0 p = none ∧ F p = none ∧ Own K cl F H p d) → B.rt d → A.rt v H
  ro : ∀ F H σ ρ v d, Hold K cl F0 H0 F H σ ρ → Rep K cl F v d → B.ro d ρ → A.rt v H

structure RfE (K : Fg) (cl : Cl) (W : WX) (te : TE) (t : DT) : Prop where
  mono2 : ∀ E E' ρ (P P' : DK), (∀ e ρ, E e ρ → E' e ρ) → (∀ d, P d → P' d) → t E ρ P → t E' ρ P'
  ok : ∀ F0 H0 F H σ ρ E (Q : VK), Hold K cl F0 H0 F H σ ρ → LinkE K cl F0 H0 W E → t E ρ (fun d => ∀ v F' H', Gr F H F' H' → Rep K cl F' v d → Q v H') → te σ H Q
structure RfB (K : Fg) (cl : Cl) (W : WX) (te : TT) (t : DB) : Prop where
  mono2 : ∀ E E' ρ (P P' : Bool → Prop), (∀ e ρ, E e ρ → E' e ρ) → (∀ d, P d → P' d) → t E ρ P → t E' ρ P'
  ok : ∀ F0 H0 F H σ ρ E (Q : Bool → Hp → Prop), Hold K cl F0 H0 F H σ ρ → LinkE K cl F0 H0 W E → t E ρ (fun b => ∀ F' H', Gr F H F' H' → Q b H') → te σ H Q
structure RfA (K : Fg) (cl : Cl) (W : WX) (te : TA) (t : DA) : Prop where
  mono2 : ∀ E E' ρ (P P' : List D → Prop), (∀ e ρ, E e ρ → E' e ρ) → (∀ d, P d → P' d) → t E ρ P → t E' ρ P'
  ok : ∀ F0 H0 F H σ ρ E (Q : List V → Hp → Prop), Hold K cl F0 H0 F H σ ρ → LinkE K cl F0 H0 W E → t E ρ (fun ds => ∀ vs F' H', Gr F H F' H' → Reps K cl F' vs ds → Q vs H') → te σ H Q
/-- an iterator that gives the data ds -/
def WalkD (K : Fg) (cl : Cl) (J : It) (F : Hp) (ds : List D) : Prop :=
  ∀ F2 H2, Same F F2 → Same F2 H2 → J.stop ds.length H2 ∧ ∀ (i : Nat) d, ds[i]? = some d → J.go i H2 ∧ ∀ x H3, J.yld i H2 x H3 → ∃ F3, Gr F2 H2 F3 H3 ∧ Rep K cl F3 x d
structure RfI (K : Fg) (cl : Cl) (W : WX) (wi : TI) (t : DI) : Prop where
  mono2 : ∀ E E' ρ (P P' : List D → Prop), (∀ e ρ, E e ρ → E' e ρ) → (∀ d, P d → P' d) → t E ρ P → t E' ρ P'
  ok : ∀ F0 H0 F H σ ρ E (R : It → Hp → Prop), Hold K cl F0 H0 F H σ ρ → LinkE K cl F0 H0 W E → t E ρ (fun ds => ∀ J F' H', Gr F H F' H' → WalkD K cl J F' ds → R J H') → wi σ H R
def Agree (js : List Nat) (σ σ' : L2.St) : Prop := σ'.length = σ.length ∧ ∀ i : Nat, i ∉ js → σ'[i]? = σ[i]?
structure RfG (K : Fg) (cl : Cl) (js : List Nat) (g : TG) (t : DG) : Prop where
  mono : ∀ d ρ (P P' : DL.Env → Prop), (∀ ρ, P ρ → P' ρ) → t d ρ P → t d ρ P'
  ok : ∀ F0 H0 F H σ ρ v d (Q : L2.St → Hp → Prop), Hold K cl F0 H0 F H σ ρ → Rep K cl F v d → t d ρ (fun ρ' => ∀ σ', Hold K cl F0 H0 F H σ' ρ' → Agree js σ σ' → Q σ' H) → g v σ H Q
structure RfGs (K : Fg) (cl : Cl) (js : List Nat) (g : TGs) (t : DGs) : Prop where
  mono : ∀ d ρ (P P' : DL.Env → Prop), (∀ ρ, P ρ → P' ρ) → t d ρ P → t d ρ P'
  ok : ∀ F0 H0 F H σ ρ v d (Q : L2.St → Hp → Prop), Hold K cl F0 H0 F H σ ρ → Reps K cl F v d → t d ρ (fun ρ' => ∀ σ', Hold K cl F0 H0 F H σ' ρ' → Agree js σ σ' → Q σ' H) → g v σ H Q
structure RfO (K : Fg) (cl : Cl) (W : WX) (te : TO) (t : DO) : Prop where
  mono2 : ∀ E E' ρ (P P' : Option Int → Prop), (∀ e ρ, E e ρ → E' e ρ) → (∀ d, P d → P' d) → t E ρ P → t E' ρ P'
  ok : ∀ F0 H0 F H σ ρ E (Q : Option Int → Hp → Prop), Hold K cl F0 H0 F H σ ρ → LinkE K cl F0 H0 W E → t E ρ (fun b => ∀ F' H', Gr F H F' H' → Q b H') → te σ H Q
structure LeD (A B : DE) : Prop where
  nx : ∀ ρ, A.nx ρ → B.nx ρ
  rt : ∀ d, A.rt d → B.rt d
  bk : ∀ ρ, A.bk ρ → B.bk ρ
  ct : ∀ ρ, A.ct ρ → B.ct ρ
  ro : ∀ d ρ, A.ro d ρ → B.ro d ρ
structure RfS (K : Fg) (cl : Cl) (W : WX) (ts : TS) (t : DS) : Prop where
  mono2 : ∀ E E' A B ρ, (∀ e ρ, E e ρ → E' e ρ) → LeD A B → t E A ρ → t E' B ρ
  ok : ∀ F0 H0 F H σ ρ E B A, Hold K cl F0 H0 F H σ ρ → LinkE K cl F0 H0 W E → LinkD K cl F0 H0 A B → t E B ρ → ts A σ H

theorem RfE.mono {K : Fg} {cl : Cl} {W : WX} {te : TE} {t : DT} (h : RfE K cl W te t) (E : EK) (ρ : DL.Env) (P P' : DK) (f : ∀ d, P d → P' d) (q : t E ρ P) : t E ρ P' := h.mono2 E E ρ P P' (fun _ _ z => z) f q
theorem RfB.mono {K : Fg} {cl : Cl} {W : WX} {te : TT} {t : DB} (h : RfB K cl W te t) (E : EK) (ρ : DL.Env) (P P' : Bool → Prop) (f : ∀ d, P d → P' d) (q : t E ρ P) : t E ρ P' := h.mono2 E E ρ P P' (fun _ _ z => z) f q
theorem RfA.mono {K : Fg} {cl : Cl} {W : WX} {te : TA} {t : DA} (h : RfA K cl W te t) (E : EK) (ρ : DL.Env) (P P' : List D → Prop) (f : ∀ d, P d → P' d) (q : t E ρ P) : t E ρ P' := h.mono2 E E ρ P P' (fun _ _ z => z) f q
theorem RfI.mono {K : Fg} {cl : Cl} {W : WX} {te : TI} {t : DI} (h : RfI K cl W te t) (E : EK) (ρ : DL.Env) (P P' : List D → Prop) (f : ∀ d, P d → P' d) (q : t E ρ P) : t E ρ P' := h.mono2 E E ρ P P' (fun _ _ z => z) f q
theorem RfO.mono {K : Fg} {cl : Cl} {W : WX} {te : TO} {t : DO} (h : RfO K cl W te t) (E : EK) (ρ : DL.Env) (P P' : Option Int → Prop) (f : ∀ d, P d → P' d) (q : t E ρ P) : t E ρ P' := h.mono2 E E ρ P P' (fun _ _ z => z) f q
theorem RfS.mono {K : Fg} {cl : Cl} {W : WX} {ts : TS} {t : DS} (h : RfS K cl W ts t) (E : EK) (A B : DE) (ρ : DL.Env) (f : LeD A B) (q : t E A ρ) : t E B ρ := h.mono2 E E A B ρ (fun _ _ z => z) f q

/-! ### the rules' own form: syntax, reading, transformer -/
structure VE (X : Cx) (K : Fg) (cl : Cl) (W : WX) (e : Expr) (te : TE) (t : DT) : Prop where
  pe : PE X e te
  rf : RfE K cl W te t
  hK : X.K = K
structure VB (X : Cx) (K : Fg) (cl : Cl) (W : WX) (e : Expr) (te : TT) (t : DB) : Prop where
  pe : PT X e te
  rf : RfB K cl W te t
  hK : X.K = K
structure VW (X : Cx) (K : Fg) (cl : Cl) (W : WX) (e : Expr) (te : TT) (t : DB) : Prop where
  pe : PW X e te
  rf : RfB K cl W te t
  hK : X.K = K
structure VA (X : Cx) (K : Fg) (cl : Cl) (W : WX) (e : List Expr) (te : TA) (t : DA) : Prop where
  pe : PA X e te
  rf : RfA K cl W te t
  hK : X.K = K
structure VI (X : Cx) (K : Fg) (cl : Cl) (W : WX) (tg e : Expr) (te : TI) (t : DI) : Prop where
  pe : PI X tg e te
  rf : RfI K cl W te t
  hK : X.K = K
structure VG (X : Cx) (K : Fg) (cl : Cl) (js : List Nat) (e : Expr) (te : TG) (t : DG) : Prop where
  pe : PG X e te
  rf : RfG K cl js te t
  hK : X.K = K
structure VGs (X : Cx) (K : Fg) (cl : Cl) (js : List Nat) (e : List Expr) (te : TGs) (t : DGs) : Prop where
  pe : PGs X e te
  rf : RfGs K cl js te t
  hK : X.K = K
structure VO (X : Cx) (K : Fg) (cl : Cl) (W : WX) (e : Option Expr) (te : TO) (t : DO) : Prop where
  pe : PO X e te
  rf : RfO K cl W te t
  hK : X.K = K
structure VS (X : Cx) (K : Fg) (cl : Cl) (W : WX) (e : Stmt) (te : TS) (t : DS) : Prop where
  pe : PS X e te
  rf : RfS K cl W te t
  hK : X.K = K
structure VSs (X : Cx) (K : Fg) (cl : Cl) (W : WX) (e : List Stmt) (te : TS) (t : DS) : Prop where
  pe : PSs X e te
  rf : RfS K cl W te t
  hK : X.K = K

section
variable {K : Fg} {cl : Cl} {W : WX} {ta tb tc : TE} {a b c : DT}
/-! ### expressions -/
theorem rfe_var {i : Nat} : RfE K cl W (tVar i) (dVar i) where
  mono2 := fun E E' ρ P P' hE h q => by
    unfold dVar at q ⊢
    split at q
    · exact h _ q
    · exact q.elim
  ok := fun F0 H0 F H σ ρ E Q hh _ q => by
    unfold dVar at q
    split at q
    · rename_i d e
      obtain ⟨v, e1, r⟩ := hh.var e
      exact ⟨v, e1, q v F H (Gr.refl hh.g.s) r⟩
    · exact q.elim
theorem rfe_c {v : V} {d : D} (r : ∀ F, Rep K cl F v d) : RfE K cl W (tC v) (dC d) where
  mono2 := fun E E' ρ P P' hE h q => h _ q
  ok := fun F0 H0 F H σ ρ E Q hh _ q => q v F H (Gr.refl hh.g.s) (r F)
structure RfOp (K : Fg) (cl : Cl) (r : R2) (f : D → D → DK → Prop) : Prop where
  mono : ∀ x y (P P' : DK), (∀ d, P d → P' d) → f x y P → f x y P'
  ok : ∀ F H v u x y (Q : VK), Same F H → Rep K cl F v x → Rep K cl F u y → f x y (fun d => ∀ v' F' H', Gr F H F' H' → Rep K cl F' v' d → Q v' H') → r v u H Q
theorem rfe_op {r : R2} {f : D → D → DK → Prop} (o : RfOp K cl r f) (ha : RfE K cl W ta a) (hb : RfE K cl W tb b) : RfE K cl W (tOp r ta tb) (dOp f a b) where
  mono2 := fun E E' ρ P P' hE h q => ha.mono2 E E' ρ _ _ hE (fun x q => hb.mono2 E E' ρ _ _ hE (fun y q => o.mono x y P P' h q) q) q
  ok := fun F0 H0 F H σ ρ E Q hh le q => by
    refine ha.ok F0 H0 F H σ ρ E _ hh le (ha.mono E ρ _ _ (fun x q v F1 H1 g1 r1 => ?_) q)
    refine hb.ok F0 H0 F1 H1 σ ρ E _ (hh.grow g1) le (hb.mono E ρ _ _ (fun y q u F2 H2 g2 r2 => ?_) q)
    exact o.ok F2 H2 v u x y Q g2.s (r1.mono g2.f) r2 (o.mono x y _ _ (fun d q v' F' H' g3 r3 => q v' F' H' ((g1.trans g2).trans g3) r3) q)
structure RfU (K : Fg) (cl : Cl) (r : V → Hp → VK → Prop) (f : D → DK → Prop) : Prop where
  mono : ∀ x (P P' : DK), (∀ d, P d → P' d) → f x P → f x P'
  ok : ∀ F H v x (Q : VK), Same F H → Rep K cl F v x → f x (fun d => ∀ v' F' H', Gr F H F' H' → Rep K cl F' v' d → Q v' H') → r v H Q
theorem rfe_un {r : V → Hp → VK → Prop} {f : D → DK → Prop} (o : RfU K cl r f) (ha : RfE K cl W ta a) : RfE K cl W (tUn r ta) (dUn f a) where
  mono2 := fun E E' ρ P P' hE h q => ha.mono2 E E' ρ _ _ hE (fun x q => o.mono x P P' h q) q
  ok := fun F0 H0 F H σ ρ E Q hh le q => by
    refine ha.ok F0 H0 F H σ ρ E _ hh le (ha.mono E ρ _ _ (fun x q v F1 H1 g1 r1 => ?_) q)
    exact o.ok F1 H1 v x Q g1.s r1 (o.mono x _ _ (fun d q v' F' H' g3 r3 => q v' F' H' (g1.trans g3) r3) q)
/-- calls on lists of values -/
structure RfC (K : Fg) (cl : Cl) (r : List V → Hp → VK → Prop) (f : List D → DK → Prop) : Prop where
  mono : ∀ x (P P' : DK), (∀ d, P d → P' d) → f x P → f x P'
  ok : ∀ F H v x (Q : VK), Same F H → Reps K cl F v x → f x (fun d => ∀ v' F' H', Gr F H F' H' → Rep K cl F' v' d → Q v' H') → r v H Q
theorem rfa_nil : RfA K cl W tNil aNil where
  mono2 := fun E E' ρ P P' hE h q => h _ q
  ok := fun F0 H0 F H σ ρ E Q hh _ q => q [] F H (Gr.refl hh.g.s) .nil
theorem rfa_cons {tr : TA} {r : DA} (ha : RfE K cl W ta a) (hr : RfA K cl W tr r) : RfA K cl W (tCons ta tr) (aCons a r) where
  mono2 := fun E E' ρ P P' hE h q => ha.mono2 E E' ρ _ _ hE (fun x q => hr.mono2 E E' ρ _ _ hE (fun y q => h _ q) q) q
  ok := fun F0 H0 F H σ ρ E Q hh le q => by
    refine ha.ok F0 H0 F H σ ρ E _ hh le (ha.mono E ρ _ _ (fun x q v F1 H1 g1 r1 => ?_) q)
    refine hr.ok F0 H0 F1 H1 σ ρ E _ (hh.grow g1) le (hr.mono E ρ _ _ (fun y q u F2 H2 g2 r2 => ?_) q)
    exact q _ F2 H2 (g1.trans g2) (.cons (r1.mono g2.f) r2)
theorem rfe_cb {tr : TA} {r : DA} {rr : List V → Hp → VK → Prop} {f : List D → DK → Prop} (o : RfC K cl rr f) (hr : RfA K cl W tr r) : RfE K cl W (tCB rr tr) (dBlt f r) where
  mono2 := fun E E' ρ P P' hE h q => hr.mono2 E E' ρ _ _ hE (fun x q => o.mono x P P' h q) q
  ok := fun F0 H0 F H σ ρ E Q hh le q => by
    refine hr.ok F0 H0 F H σ ρ E _ hh le (hr.mono E ρ _ _ (fun x q v F1 H1 g1 r1 => ?_) q)
    exact o.ok F1 H1 v x Q g1.s r1 (o.mono x _ _ (fun d q v' F' H' g3 r3 => q v' F' H' (g1.trans g3) r3) q)
theorem Reps.length {F : Hp} {vs : List V} {ds : List D} (r : Reps K cl F vs ds) : vs.length = ds.length := by
  induction ds generalizing vs with
  | nil => cases r; rfl
  | cons d ds ih => cases r with
    | cons h r => simp [ih r]
theorem rfe_tup {tr : TA} {r : DA} (hr : RfA K cl W tr r) : RfE K cl W (tTup tr) (dTup r) where
  mono2 := fun E E' ρ P P' hE h q => hr.mono2 E E' ρ _ _ hE (fun x q => ⟨q.1, h _ q.2⟩) q
  ok := fun F0 H0 F H σ ρ E Q hh le q => by
    refine hr.ok F0 H0 F H σ ρ E _ hh le (hr.mono E ρ _ _ (fun x q v F1 H1 g1 r1 => ?_) q)
    refine ⟨by rw [r1.length, ← line_eq]; exact q.1, fun p hp => ?_⟩
    exact q.2 _ (upd F1 p (.tup v)) _ (g1.trans (Gr.new g1.s hp)) (.tup (SqT.of upd_same) (r1.mono (same_upd (g1.s.free hp))))
/-- a new list that may still be changed -/
structure RfN (K : Fg) (cl : Cl) (W : WX) (te : TE) (t : DT) : Prop where
  mono2 : ∀ E E' ρ (P P' : DK), (∀ e ρ, E e ρ → E' e ρ) → (∀ d, P d → P' d) → t E ρ P → t E' ρ P'
  ok : ∀ F0 H0 F H σ ρ E (Q : VK), Hold K cl F0 H0 F H σ ρ → LinkE K cl F0 H0 W E → t E ρ (fun d => ∀ p F' H', Gr F H F' H' → H p = none → F' p = none → Own K cl F' H' p d → Q (.ref p) H') → te σ H Q
theorem RfN.mono {te : TE} {t : DT} (h : RfN K cl W te t) (E : EK) (ρ : DL.Env) (P P' : DK) (f : ∀ d, P d → P' d) (q : t E ρ P) : t E ρ P' := h.mono2 E E ρ P P' (fun _ _ z => z) f q
theorem RfN.e {te : TE} {t : DT} (h : RfN K cl W te t) : RfE K cl W te t where
  mono2 := h.mono2
  ok := fun F0 H0 F H σ ρ E Q hh le q => by
    refine h.ok F0 H0 F H σ ρ E Q hh le (h.mono E ρ _ _ (fun d q p F' H' g hp hf w => ?_) q)
    obtain ⟨ob, ho⟩ := w.there
    have sf : Same F' (upd F' p ob) := same_upd hf
    have s2 : Same (upd F' p ob) H' := fun b u z => by
      by_cases hb : b = p
      · subst hb
        rw [upd_same] at z
        cases z
        exact ho
      · rw [upd_ne hb] at z
        exact g.s b u z
    refine q _ (upd F' p ob) H' ⟨g.f.trans sf, g.k, s2, fun c x y => ?_, fun c ps x => ?_, fun c ps x => ?_⟩ ?_
    · by_cases hc : c = p
      · subst hc; exact hp
      · rw [upd_ne hc] at x
        exact g.n c x y
    · by_cases hc : c = p
      · subst hc; exact .inl hp
      · rw [upd_ne hc] at x
        exact g.w c ps x
    · by_cases hc : c = p
      · rw [hc, upd_same, ← ho] at x
        exact absurd x (w.nt.t ps)
      · rw [upd_ne hc] at x
        exact g.v c ps x
    · have eo : (upd F' p ob) p = some ob := upd_same
      cases d with
      | lst ds => obtain ⟨vs, z, r⟩ := w; rw [ho] at z; cases z; exact .lst eo (r.mono sf)
      | dk ds => obtain ⟨vs, z, r⟩ := w; rw [ho] at z; cases z; exact .dk eo (r.mono sf)
      | dt ds => obtain ⟨vs, z, r⟩ := w; rw [ho] at z; cases z; exact .dt eo (r.mono sf)
      | ins c ds => obtain ⟨vs, ⟨C, dx, n, z, o, _⟩, r⟩ := w; rw [ho] at z; cases z; exact .ins n eo (sf _ _ o) (r.mono sf)
      | _ => exact w.elim
theorem rfn_lst {tr : TA} {r : DA} (hr : RfA K cl W tr r) : RfN K cl W (tLst tr) (dLst r) where
  mono2 := fun E E' ρ P P' hE h q => hr.mono2 E E' ρ _ _ hE (fun x q => ⟨q.1, h _ q.2⟩) q
  ok := fun F0 H0 F H σ ρ E Q hh le q => by
    refine hr.ok F0 H0 F H σ ρ E _ hh le (hr.mono E ρ _ _ (fun x q v F1 H1 g1 r1 => ?_) q)
    refine ⟨by rw [r1.length, ← line_eq]; exact q.1, fun p hp => ?_⟩
    exact q.2 p F1 _ (g1.trans (Gr.h g1.s (nx_upd hp))) (g1.k.free hp) (g1.s.free hp) ⟨v, upd_same, r1⟩

/-! ### tests -/
theorem rfb_T {te : TE} {t : DT} (ha : RfE K cl W te t) : RfB K cl W (tB te) (bT t) where
  mono2 := fun E E' ρ P P' hE h q => ha.mono2 E E' ρ _ _ hE (fun x q => by cases x <;> first | exact h _ q | exact q.elim) q
  ok := fun F0 H0 F H σ ρ E Q hh le q => by
    refine ha.ok F0 H0 F H σ ρ E _ hh le (ha.mono E ρ _ _ (fun x q v F1 H1 g1 r1 => ?_) q)
    cases r1 with
    | bl b => exact ⟨b, rfl, q F1 H1 g1⟩
    | _ => exact q.elim
theorem rfb_and {t u : TT} {p r : DB} (ha : RfB K cl W t p) (hb : RfB K cl W u r) : RfB K cl W (tAnd t u) (bAnd p r) where
  mono2 := fun E E' ρ P P' hE h q => ha.mono2 E E' ρ _ _ hE (fun k q => by
    cases k with
    | true => exact hb.mono2 E E' ρ _ _ hE h q
    | false => exact h _ q) q
  ok := fun F0 H0 F H σ ρ E Q hh le q => by
    refine ha.ok F0 H0 F H σ ρ E _ hh le (ha.mono E ρ _ _ (fun k q F1 H1 g1 => ?_) q)
    cases k with
    | true => exact hb.ok F0 H0 F1 H1 σ ρ E Q (hh.grow g1) le (hb.mono E ρ _ _ (fun k q F2 H2 g2 => q F2 H2 (g1.trans g2)) q)
    | false => exact q F1 H1 g1
theorem rfb_or {t u : TT} {p r : DB} (ha : RfB K cl W t p) (hb : RfB K cl W u r) : RfB K cl W (tOr t u) (bOr p r) where
  mono2 := fun E E' ρ P P' hE h q => ha.mono2 E E' ρ _ _ hE (fun k q => by
    cases k with
    | false => exact hb.mono2 E E' ρ _ _ hE h q
    | true => exact h _ q) q
  ok := fun F0 H0 F H σ ρ E Q hh le q => by
    refine ha.ok F0 H0 F H σ ρ E _ hh le (ha.mono E ρ _ _ (fun k q F1 H1 g1 => ?_) q)
    cases k with
    | false => exact hb.ok F0 H0 F1 H1 σ ρ E Q (hh.grow g1) le (hb.mono E ρ _ _ (fun k q F2 H2 g2 => q F2 H2 (g1.trans g2)) q)
    | true => exact q F1 H1 g1
theorem rfb_not {t : TT} {p : DB} (ha : RfB K cl W t p) : RfB K cl W (tNot t) (bNot p) where
  mono2 := fun E E' ρ P P' hE h q => ha.mono2 E E' ρ _ _ hE (fun k q => h _ q) q
  ok := fun F0 H0 F H σ ρ E Q hh le q => ha.ok F0 H0 F H σ ρ E _ hh le q
theorem rfe_andV {ta tb : TE} {a b : DT} (ha : RfE K cl W ta a) (hb : RfE K cl W tb b) : RfE K cl W (tAndV ta tb) (dAndV a b) where
  mono2 := fun E E' ρ P P' hE h q => ha.mono2 E E' ρ _ _ hE (fun x q => by
    cases x with
    | bl k =>
      cases k with
      | true => exact hb.mono2 E E' ρ _ _ hE h q
      | false => exact h _ q
    | _ => exact q.elim) q
  ok := fun F0 H0 F H σ ρ E Q hh le q => by
    refine ha.ok F0 H0 F H σ ρ E _ hh le (ha.mono E ρ _ _ (fun x q v F1 H1 g1 r1 => ?_) q)
    cases r1 with
    | bl k =>
      refine ⟨k, rfl, ?_⟩
      cases k with
      | true => exact hb.ok F0 H0 F1 H1 σ ρ E Q (hh.grow g1) le (hb.mono E ρ _ _ (fun y q v F2 H2 g2 r2 => q v F2 H2 (g1.trans g2) r2) q)
      | false => exact q _ F1 H1 g1 (.bl false)
    | _ => exact q.elim
theorem rfe_orV {ta tb : TE} {a b : DT} (ha : RfE K cl W ta a) (hb : RfE K cl W tb b) : RfE K cl W (tOrV ta tb) (dOrV a b) where
  mono2 := fun E E' ρ P P' hE h q => ha.mono2 E E' ρ _ _ hE (fun x q => by
    cases x with
    | bl k =>
      cases k with
      | false => exact hb.mono2 E E' ρ _ _ hE h q
      | true => exact h _ q
    | _ => exact q.elim) q
  ok := fun F0 H0 F H σ ρ E Q hh le q => by
    refine ha.ok F0 H0 F H σ ρ E _ hh le (ha.mono E ρ _ _ (fun x q v F1 H1 g1 r1 => ?_) q)
    cases r1 with
    | bl k =>
      refine ⟨k, rfl, ?_⟩
      cases k with
      | false => exact hb.ok F0 H0 F1 H1 σ ρ E Q (hh.grow g1) le (hb.mono E ρ _ _ (fun y q v F2 H2 g2 r2 => q v F2 H2 (g1.trans g2) r2) q)
      | true => exact q _ F1 H1 g1 (.bl true)
    | _ => exact q.elim
theorem rfe_notV {ta : TE} {a : DT} (ha : RfE K cl W ta a) : RfE K cl W (tNotV ta) (dNotV a) where
  mono2 := fun E E' ρ P P' hE h q => ha.mono2 E E' ρ _ _ hE (fun x q => by cases x <;> first | exact h _ q | exact q.elim) q
  ok := fun F0 H0 F H σ ρ E Q hh le q => by
    refine ha.ok F0 H0 F H σ ρ E _ hh le (ha.mono E ρ _ _ (fun x q v F1 H1 g1 r1 => ?_) q)
    cases r1 with
    | bl k => exact ⟨k, rfl, q _ F1 H1 g1 (.bl _)⟩
    | _ => exact q.elim
theorem rfe_if {t : TT} {p : DB} (hc : RfB K cl W t p) (ha : RfE K cl W ta a) (hb : RfE K cl W tb b) : RfE K cl W (tIf t ta tb) (dIf p a b) where
  mono2 := fun E E' ρ P P' hE h q => hc.mono2 E E' ρ _ _ hE (fun k q => by
    cases k with
    | true => exact ha.mono2 E E' ρ _ _ hE h q
    | false => exact hb.mono2 E E' ρ _ _ hE h q) q
  ok := fun F0 H0 F H σ ρ E Q hh le q => by
    refine hc.ok F0 H0 F H σ ρ E _ hh le (hc.mono E ρ _ _ (fun k q F1 H1 g1 => ?_) q)
    cases k with
    | true => exact ha.ok F0 H0 F1 H1 σ ρ E Q (hh.grow g1) le (ha.mono E ρ _ _ (fun y q v F2 H2 g2 r2 => q v F2 H2 (g1.trans g2) r2) q)
    | false => exact hb.ok F0 H0 F1 H1 σ ρ E Q (hh.grow g1) le (hb.mono E ρ _ _ (fun y q v F2 H2 g2 r2 => q v F2 H2 (g1.trans g2) r2) q)
theorem rfe_chain {r r' : R2} {f g : D → D → DK → Prop} (o : RfOp K cl r f) (o' : RfOp K cl r' g) (ha : RfE K cl W ta a) (hb : RfE K cl W tb b) (hc : RfE K cl W tc c) : RfE K cl W (tChain r r' ta tb tc) (dChain f g a b c) where
  mono2 := fun E E' ρ P P' hE h q => ha.mono2 E E' ρ _ _ hE (fun x q => hb.mono2 E E' ρ _ _ hE (fun y q => o.mono x y _ _ (fun z q => by
    cases z with
    | bl k =>
      cases k with
      | true => exact hc.mono2 E E' ρ _ _ hE (fun u q => o'.mono y u _ _ h q) q
      | false => exact h _ q
    | _ => exact q.elim) q) q) q
  ok := fun F0 H0 F H σ ρ E Q hh le q => by
    refine ha.ok F0 H0 F H σ ρ E _ hh le (ha.mono E ρ _ _ (fun x q v F1 H1 g1 r1 => ?_) q)
    refine hb.ok F0 H0 F1 H1 σ ρ E _ (hh.grow g1) le (hb.mono E ρ _ _ (fun y q u F2 H2 g2 r2 => ?_) q)
    refine o.ok F2 H2 v u x y _ g2.s (r1.mono g2.f) r2 (o.mono x y _ _ (fun z q w F3 H3 g3 r3 => ?_) q)
    cases r3 with
    | bl k =>
      refine ⟨k, rfl, ?_⟩
      cases k with
      | false => exact q _ F3 H3 ((g1.trans g2).trans g3) (.bl false)
      | true =>
        refine hc.ok F0 H0 F3 H3 σ ρ E _ (((hh.grow g1).grow g2).grow g3) le (hc.mono E ρ _ _ (fun s q t F4 H4 g4 r4 => ?_) q)
        exact o'.ok F4 H4 u t y s Q g4.s ((r2.mono g3.f).mono g4.f) r4 (o'.mono y s _ _ (fun d q v' F' H' g5 r5 => q v' F' H' ((((g1.trans g2).trans g3).trans g4).trans g5) r5) q)
    | _ => exact q.elim
end
end DL

set_option maxHeartbeats 4000000
/-! DTup: tuple * int, the small counts. -/
namespace DL
open PySem PySem.Spec L2 PyProof.Rows
variable [TN]
theorem tupMul_same (l : Addr) (items : Array Value) (n : Nat) (dd : Option Addr) (sl : Array (Option Value)) (x : Int) (u : Tok) (c0 : (decide (x < -(2 ^ 63)) || decide (x ≥ 2 ^ 63)) = false) (c1 : (items.isEmpty || x == 1) = true) :
    Meets (Builtin.«tuple.__mul__» ⟨[.ref l, .int x u], []⟩) (fun _ R s => s.heap.get? l = some { cls := .type "tuple", dict := dd, data := .seq items n, slots := sl } ∧ R (.ok (.ret (Value.ref l))) s) :=
  .of_wp fun prog w A R s h => by
    obtain ⟨hp, g, d, tk, os⟩ := s
    obtain ⟨hl, h⟩ := h
    have f1 := AutoSeq1.idx_int
    wp_walk using wpAny_loadPart' hl
    repeat (first
      | (refine wpAny_ite_false (decide_eq_false (by rw [c0]; exact Bool.false_ne_true)) ?_; wp_walk using wpAny_loadPart' hl)
      | (refine wpAny_ite_true (decide_eq_true c1) ?_; wp_walk using wpAny_loadPart' hl))
    exact ⟨_, rfl, h⟩
theorem tupMul_none (l : Addr) (items : Array Value) (n : Nat) (dd : Option Addr) (sl : Array (Option Value)) (x : Int) (u : Tok) (c0 : (decide (x < -(2 ^ 63)) || decide (x ≥ 2 ^ 63)) = false) (c1 : (items.isEmpty || x == 1) = false) (c2 : (decide (x ≤ 0) || items.isEmpty) = true) :
    Meets (Builtin.«tuple.__mul__» ⟨[.ref l, .int x u], []⟩) (fun _ R s => s.heap.get? l = some { cls := .type "tuple", dict := dd, data := .seq items n, slots := sl } ∧
      R (.ok (.ret (Value.ref s.heap.objs.size))) { s with heap := s.heap.push { cls := Value.type "tuple", data := Data.seq #[] }, toks := s.toks }) :=
  .of_wp fun prog w A R s h => by
    obtain ⟨hp, g, d, tk, os⟩ := s
    obtain ⟨hl, h⟩ := h
    have f1 := AutoSeq1.idx_int
    wp_walk using wpAny_loadPart' hl
    repeat (first
      | (refine wpAny_ite_false (decide_eq_false (by rw [c0]; exact Bool.false_ne_true)) ?_; wp_walk using wpAny_loadPart' hl)
      | (refine wpAny_ite_false (decide_eq_false (by rw [c1]; exact Bool.false_ne_true)) ?_; wp_walk using wpAny_loadPart' hl)
      | (refine wpAny_ite_true (decide_eq_true c2) ?_; wp_walk using wpAny_loadPart' hl))
    exact ⟨_, rfl, h⟩
/-- tuple * int, any small count -/
def rRepU (K : Fg) : R2 := fun x y H Q => ∃ l k xs, x = .ref l ∧ y = .int k ∧ SqT K H l xs ∧ -(2 ^ 63) ≤ k ∧ k ≤ 1000 ∧ xs.length ≤ 1000 ∧
  ((xs = [] ∨ k = 1) ∧ Q (.ref l) H ∨ xs ≠ [] ∧ k ≠ 1 ∧ ∀ p, H p = none → Q (.ref p) (upd H p (.tup (List.replicate k.toNat xs).flatten)))
theorem op_repU {X : Cx} : OpR X (binaryOp .Mult) (rRepU X.K) := by
  intro pins s σ H x y v u Q I rx ry h
  obtain ⟨l, k, xs, rfl, rfl, hT, h0, h2, hz, q⟩ := h
  by_cases hk : xs ≠ [] ∧ 2 ≤ k
  · refine op_repT pins s σ H _ _ v u Q I rx ry ⟨l, k, xs, rfl, rfl, hT, hk.1, hk.2, h2, hz, ?_⟩
    rcases q with ⟨q | q, _⟩ | ⟨_, _, q⟩
    · exact absurd q hk.1
    · omega
    · exact q
  cases rx
  obtain ⟨t, rfl⟩ := ry
  obtain ⟨its, r, ⟨⟨cls, dd, data, sl⟩, ho, hc, n, hd⟩, hs⟩ := I.tuple hT
  simp only at hc hd
  subst hc hd
  have hle : its.length = xs.length := r.length.symm
  have c0 : (decide (k < -(2 ^ 63)) || decide (k ≥ 2 ^ 63)) = false := by
    rw [decide_eq_false (by omega), decide_eq_false (by omega)] <;> rfl
  rcases q with ⟨hq, q⟩ | ⟨hne, hk1, q⟩
  · have c1 : (its.toArray.isEmpty || k == 1) = true := by
      rcases hq with z | z
      · have : its = [] := List.eq_nil_of_length_eq_zero (by rw [hle, z]; rfl)
        rw [this]
        rfl
      · rw [z]
        simp
    refine wpAny_binaryOp_repeat_ref (T := "tuple") (U := "int") (by decide) ⟨_, ho, rfl⟩ (fun s' => typeIs_int s' k t) noFill_tuple_mul F.fills_int_mul F.slot_int_rmul repeat_tuple F.slot_int_index.lookup
      (call_meets F.slot_int_rmul (typeIs_int s k t) F.entry_int_rmul (F.args_int_rmul_2 _ _) (int_rmul_tuple k t l its.toArray n dd sl)
        ⟨ho, rfl, ⟨_, ho, rfl⟩, call_meets F.slot_tuple_mul ⟨_, ho, rfl⟩ F.entry_tuple_mul (F.args_tuple_mul_2 _ _) (tupMul_same l its.toArray n dd sl k t c0 c1) ⟨ho, ?_⟩⟩)
    exact ⟨.ref l, _, I, rfl, q⟩
  · have hn : its ≠ [] := fun e => hne (by
      rw [e] at hle
      exact List.eq_nil_of_length_eq_zero hle.symm)
    have hi : its.toArray.isEmpty = false := by
      cases its with
      | nil => exact absurd rfl hn
      | cons a b => rfl
    have hk0 : k ≤ 0 := by
      rcases Classical.em (2 ≤ k) with z | z
      · exact absurd ⟨hne, z⟩ hk
      · omega
    have c1 : (its.toArray.isEmpty || k == 1) = false := by
      rw [hi, Bool.false_or]
      exact beq_eq_false_iff_ne.mpr (by omega)
    have c2 : (decide (k ≤ 0) || its.toArray.isEmpty) = true := by
      rw [decide_eq_true hk0]
      rfl
    refine wpAny_binaryOp_repeat_ref (T := "tuple") (U := "int") (by decide) ⟨_, ho, rfl⟩ (fun s' => typeIs_int s' k t) noFill_tuple_mul F.fills_int_mul F.slot_int_rmul repeat_tuple F.slot_int_index.lookup
      (call_meets F.slot_int_rmul (typeIs_int s k t) F.entry_int_rmul (F.args_int_rmul_2 _ _) (int_rmul_tuple k t l its.toArray n dd sl)
        ⟨ho, rfl, ⟨_, ho, rfl⟩, call_meets F.slot_tuple_mul ⟨_, ho, rfl⟩ F.entry_tuple_mul (F.args_tuple_mul_2 _ _) (tupMul_none l its.toArray n dd sl k t c0 c1 c2) ⟨ho, ?_⟩⟩)
    have e0 : (List.replicate k.toNat xs).flatten = [] := by
      rw [show k.toNat = 0 by omega]
      rfl
    rw [e0] at q
    exact ⟨.ref s.heap.objs.size, _, I.laid (t' := s.toks) (o := .tup []) (fun b ob q => Heap.get?_push_of_some _ q) (Nat.le_refl _) ⟨Nat.zero_le _, _, .nil, IsTup.new _ _⟩, rfl, q _ (I.hok.fresh (Nat.le_refl _))⟩
end DL

/-! DOps: operators, comparisons, subscripts by data. -/
namespace DL
open PySem L2
variable [TN]
section
variable {X : Cx} {K : Fg} {cl : Cl}
/-! ### + - * // % ** -/
def rAddU (K : Fg) : R2 := fun x y H Q => rI0 (fun i j => .int (i + j)) x y H Q ∨ (∃ i j, x = .str i ∧ y = .str j ∧ i.length + j.length ≤ sizeLine ∧ Q (.str (i ++ j)) H) ∨ rCatA K x y H Q ∨ rCat x y H Q
theorem op_addU : OpR X (binaryOp .Add) (rAddU X.K) := op_add.or (op_add_str.or (op_catA.or op_cat))
theorem Reps.append {F : Hp} {vs us : List V} {ds es : List D} (a : Reps K cl F vs ds) (b : Reps K cl F us es) : Reps K cl F (vs ++ us) (ds ++ es) := by
  induction ds generalizing vs with
  | nil => cases a; exact b
  | cons d ds ih => cases a with
    | cons h r => exact .cons h (ih r)
theorem Reps.nil_iff {F : Hp} {vs : List V} {ds : List D} (a : Reps K cl F vs ds) : vs = [] ↔ ds = [] := by
  cases a <;> simp
theorem rf_add : RfOp K cl (rAddU K) oAdd where
  mono := fun x y P P' h q => by
    cases x <;> cases y <;> first | exact h _ q | exact ⟨q.1, h _ q.2⟩ | exact q.elim
  ok := fun F H v u x y Q s rx ry q => by
    cases rx with
    | int i => cases ry with
      | int j => exact .inl ⟨i, j, rfl, rfl, q _ F H (Gr.refl s) (.int _)⟩
      | _ => exact q.elim
    | str i => cases ry with
      | str j => exact .inr (.inl ⟨i, j, rfl, rfl, by rw [← line_eq]; exact q.1, q.2 _ F H (Gr.refl s) (.str _)⟩)
      | _ => exact q.elim
    | tup hx r1 => cases ry with
      | tup hy r2 =>
        obtain ⟨hz, q⟩ := q
        rename_i a vs ds b us es
        refine .inr (.inr (.inl ⟨a, b, vs, us, rfl, rfl, same_t s hx, same_t s hy, by rw [r1.length, r2.length, ← line_eq]; exact hz, fun e => ?_, fun _ e => ?_, fun _ _ p hp => ?_⟩))
        · have e' := r1.nil_iff.mp e
          subst e'
          exact q _ F H (Gr.refl s) (.tup hy r2)
        · have e' := r2.nil_iff.mp e
          subst e'
          rw [List.append_nil] at q
          exact q _ F H (Gr.refl s) (.tup hx r1)
        · exact q _ (upd F p (.tup (vs ++ us))) _ (Gr.new s hp) (.tup (SqT.of upd_same) ((r1.append r2).mono (same_upd (s.free hp))))
      | _ => exact q.elim
    | lst hx r1 => cases ry with
      | lst hy r2 =>
        obtain ⟨hz, q⟩ := q
        rename_i a vs ds b us es
        refine .inr (.inr (.inr ⟨a, b, vs, us, rfl, rfl, s _ _ hx, s _ _ hy, by rw [r1.length, r2.length, ← line_eq]; exact hz, fun p hp => ?_⟩))
        exact q _ (upd F p (.lst (vs ++ us))) _ (Gr.new s hp) (.lst upd_same ((r1.append r2).mono (same_upd (s.free hp))))
      | _ => exact q.elim
    | _ => exact q.elim
theorem rf_I0 {g : Int → Int → Int} {f : D → D → DK → Prop} (hf : ∀ i j Q, f (.int i) (.int j) Q = Q (.int (g i j))) (hn : ∀ x y Q, f x y Q → ∃ i j, x = .int i ∧ y = .int j) : RfOp K cl (rI0 fun i j => .int (g i j)) f where
  mono := fun x y P P' h q => by
    obtain ⟨i, j, rfl, rfl⟩ := hn x y P q
    rw [hf] at q ⊢
    exact h _ q
  ok := fun F H v u x y Q s rx ry q => by
    obtain ⟨i, j, rfl, rfl⟩ := hn x y _ q
    rw [hf] at q
    cases rx
    cases ry
    exact ⟨i, j, rfl, rfl, q _ F H (Gr.refl s) (.int _)⟩
theorem rf_I {C : Int → Int → Prop} {g : Int → Int → Int} {f : D → D → DK → Prop} (hf : ∀ i j Q, f (.int i) (.int j) Q = (C i j ∧ Q (.int (g i j)))) (hn : ∀ x y Q, f x y Q → ∃ i j, x = .int i ∧ y = .int j) : RfOp K cl (rI C fun i j => .int (g i j)) f where
  mono := fun x y P P' h q => by
    obtain ⟨i, j, rfl, rfl⟩ := hn x y P q
    rw [hf] at q ⊢
    exact ⟨q.1, h _ q.2⟩
  ok := fun F H v u x y Q s rx ry q => by
    obtain ⟨i, j, rfl, rfl⟩ := hn x y _ q
    rw [hf] at q
    cases rx
    cases ry
    exact ⟨i, j, rfl, rfl, q.1, q.2 _ F H (Gr.refl s) (.int _)⟩
theorem rf_sub : RfOp K cl (rI0 fun i j => .int (i - j)) oSub := rf_I0 (fun _ _ _ => rfl) fun x y Q q => by cases x <;> cases y <;> first | exact ⟨_, _, rfl, rfl⟩ | exact q.elim
theorem rf_div : RfOp K cl (rI CDivW fun i j => .int (i / j)) oDiv := rf_I (fun _ _ _ => rfl) fun x y Q q => by cases x <;> cases y <;> first | exact ⟨_, _, rfl, rfl⟩ | exact q.elim
theorem rf_mod : RfOp K cl (rI (fun _ j => 0 < j) fun i j => .int (i % j)) oMod := rf_I (fun _ _ _ => rfl) fun x y Q q => by cases x <;> cases y <;> first | exact ⟨_, _, rfl, rfl⟩ | exact q.elim
theorem rf_pow : RfOp K cl (rI CPow fun i j => .int (i ^ j.toNat)) oPow := rf_I (fun _ _ _ => rfl) fun x y Q q => by cases x <;> cases y <;> first | exact ⟨_, _, rfl, rfl⟩ | exact q.elim
def rMulU (K : Fg) : R2 := fun x y H Q => rI CMulW (fun i j => .int (i * j)) x y H Q ∨ rRep x y H Q ∨ rRepU K x y H Q
theorem op_mulU : OpR X (binaryOp .Mult) (rMulU X.K) := op_mulW.or (op_rep.or op_repU)
theorem Reps.rep {F : Hp} {vs : List V} {ds : List D} (a : Reps K cl F vs ds) : ∀ k : Nat, Reps K cl F (List.replicate k vs).flatten (List.replicate k ds).flatten
  | 0 => .nil
  | k + 1 => by
    rw [List.replicate_succ, List.replicate_succ, List.flatten_cons, List.flatten_cons]
    exact a.append (Reps.rep a k)
theorem rf_mul : RfOp K cl (rMulU K) oMul where
  mono := fun x y P P' h q => by
    cases x <;> cases y <;> first | exact ⟨q.1, h _ q.2⟩ | exact ⟨q.1, q.2.1, q.2.2.1, h _ q.2.2.2⟩ | exact ⟨q.1, q.2.1, q.2.2.1, h _ q.2.2.2⟩ | exact q.elim
  ok := fun F H v u x y Q s rx ry q => by
    cases rx with
    | int i => cases ry with
      | int j => exact .inl ⟨i, j, rfl, rfl, q.1, q.2 _ F H (Gr.refl s) (.int _)⟩
      | _ => exact q.elim
    | lst hx r1 => cases ry with
      | int k =>
        obtain ⟨h1, h2, h3, q⟩ := q
        rename_i a vs ds
        refine .inr (.inl ⟨a, k, vs, rfl, rfl, s _ _ hx, h1, h2, by rw [r1.length, ← line_eq]; exact h3, fun p hp => ?_⟩)
        exact q _ (upd F p (.lst _)) _ (Gr.new s hp) (.lst upd_same ((r1.rep _).mono (same_upd (s.free hp))))
      | _ => exact q.elim
    | tup hx r1 => cases ry with
      | int k =>
        obtain ⟨h1, h2, h3, q⟩ := q
        rename_i a vs ds
        refine .inr (.inr ⟨a, k, vs, rfl, rfl, same_t s hx, h1, h2, by rw [r1.length]; exact h3, ?_⟩)
        by_cases hv : vs = [] ∨ k = 1
        · refine .inl ⟨hv, q _ F H (Gr.refl s) ?_⟩
          have e : (List.replicate k.toNat ds).flatten = ds := by
            rcases hv with z | z
            · subst z
              cases r1
              simp
            · subst z
              simp
          rw [e]
          exact .tup hx r1
        · refine .inr ⟨fun z => hv (.inl z), fun z => hv (.inr z), fun p hp => ?_⟩
          exact q _ (upd F p (.tup _)) _ (Gr.new s hp) (.tup (.inl (.inl upd_same)) ((r1.rep _).mono (same_upd (s.free hp))))
      | _ => exact q.elim
    | _ => exact q.elim
theorem rf_neg : RfU K cl (rU fun i => .int (-i)) oNeg where
  mono := fun x P P' h q => by cases x <;> first | exact h _ q | exact q.elim
  ok := fun F H v x Q s rx q => by
    cases rx with
    | int i => exact ⟨i, rfl, q _ F H (Gr.refl s) (.int _)⟩
    | _ => exact q.elim
/-! ### == != -/
mutual
def toPy : D → PyData
  | .non => .none
  | .bl b => .bool b
  | .int i => .int i
  | .str x => .str x
  | .tup l => .tuple (toPys l)
  | .lst l => .list (toPys l)
  | _ => .none
def toPys : List D → List PyData
  | [] => []
  | d :: r => toPy d :: toPys r
end
mutual
theorem dp_of {F : Hp} : ∀ (n : Nat) (d : D) (v : V), okD n d = true → Rep K cl F v d → Dp K F v (toPy d)
  | _, .non, _, _, .non => by simp only [toPy]; exact .non
  | _, .bl b, _, _, .bl _ => by simp only [toPy]; exact .bl _
  | _, .int i, _, _, .int _ => by simp only [toPy]; exact .int _
  | _, .str x, _, _, .str _ => by simp only [toPy]; exact .str _
  | n + 1, .tup l, _, h, .tup e r => by
    simp only [toPy]
    exact .tup e (dps_of n l _ (by simpa [okD] using h) r)
  | n + 1, .lst l, _, h, .lst e r => by
    simp only [toPy]
    exact .lst (SqL.of e) (dps_of n l _ (by simpa [okD] using h) r)
  | 0, .tup l, _, h, _ => by simp [okD] at h
  | 0, .lst l, _, h, _ => by simp [okD] at h
theorem dps_of {F : Hp} : ∀ (n : Nat) (l : List D) (vs : List V), okDs n l = true → Reps K cl F vs l → DpAll K F vs (toPys l)
  | _, [], _, _, .nil => by simp only [toPys]; exact .nil
  | n, d :: l, _, h, .cons e r => by
    have h' : okD n d = true ∧ okDs n l = true := by simpa [okDs] using h
    simp only [toPys]
    exact .cons (dp_of n d _ h'.1 e) (dps_of n l _ h'.2 r)
end
mutual
theorem eqv_of : ∀ (n m : Nat) (a b : D), okD n a = true → okD m b = true → PyData.eqv (toPy a) (toPy b) = eqD a b
  | n, m, a, b, ha, hb => by
    cases a with
    | tup l =>
      cases n with
      | zero => simp [okD] at ha
      | succ n =>
        have ha' : okDs n l = true := by simpa [okD] using ha
        cases b with
        | tup k =>
          cases m with
          | zero => simp [okD] at hb
          | succ m =>
            have hb' : okDs m k = true := by simpa [okD] using hb
            have := eqvs_of n m l k ha' hb'
            simpa [toPy, eqD, PyData.eqv] using this
        | _ => first | (simp [toPy, eqD, PyData.eqv]; done) | (exfalso; cases m <;> simp [okD] at hb)
    | lst l =>
      cases n with
      | zero => simp [okD] at ha
      | succ n =>
        have ha' : okDs n l = true := by simpa [okD] using ha
        cases b with
        | lst k =>
          cases m with
          | zero => simp [okD] at hb
          | succ m =>
            have hb' : okDs m k = true := by simpa [okD] using hb
            have := eqvs_of n m l k ha' hb'
            simpa [toPy, eqD, PyData.eqv] using this
        | _ => first | (simp [toPy, eqD, PyData.eqv]; done) | (exfalso; cases m <;> simp [okD] at hb)
    | _ =>
      cases b <;> first
        | (simp [toPy, eqD, PyData.eqv]; done)
        | (exfalso; cases n <;> simp [okD] at ha; done)
        | (exfalso; cases m <;> simp [okD] at hb; done)
theorem eqvs_of : ∀ (n m : Nat) (a b : List D), okDs n a = true → okDs m b = true → PyData.eqvAll (toPys a) (toPys b) = eqDs a b
  | n, m, [], [], _, _ => by simp [toPys, eqDs, PyData.eqvAll]
  | n, m, [], _ :: _, _, _ => by simp [toPys, eqDs, PyData.eqvAll]
  | n, m, _ :: _, [], _, _ => by simp [toPys, eqDs, PyData.eqvAll]
  | n, m, x :: a, y :: b, ha, hb => by
    have ha' : okD n x = true ∧ okDs n a = true := by simpa [okDs] using ha
    have hb' : okD m y = true ∧ okDs m b = true := by simpa [okDs] using hb
    simp only [toPys, eqDs, PyData.eqvAll]
    rw [eqv_of n m x y ha'.1 hb'.1, eqvs_of n m a b ha'.2 hb'.2]
end

mutual
theorem lay_of : ∀ (n : Nat) (d : D), okD n d = true → (toPy d).canLay0 = true ∧ (toPy d).depth ≤ n
  | n, .non, _ => by simp [toPy, PyData.canLay0, PyData.depth]
  | n, .bl _, _ => by simp [toPy, PyData.canLay0, PyData.depth]
  | n, .int _, _ => by simp [toPy, PyData.canLay0, PyData.depth]
  | n, .str x, h => by
    have h' : x.cps.all (· < 0x110000) = true := by simpa only [okD] using h
    exact ⟨by simp only [toPy, PyData.canLay0]; exact h', by simp [toPy, PyData.depth]⟩
  | 0, .tup l, h => by simp [okD] at h
  | 0, .lst l, h => by simp [okD] at h
  | n + 1, .tup l, h => by
    have := lays_of n l (by simpa [okD] using h)
    simp only [toPy, PyData.canLay0, PyData.depth]
    exact ⟨this.1, by omega⟩
  | n + 1, .lst l, h => by
    have := lays_of n l (by simpa [okD] using h)
    simp only [toPy, PyData.canLay0, PyData.depth]
    exact ⟨this.1, by omega⟩
  | n, .dk _, h => by cases n <;> simp [okD] at h
  | n, .dt _, h => by cases n <;> simp [okD] at h
  | n, .ins _ _, h => by cases n <;> simp [okD] at h
  | n, .st, h => by cases n <;> simp [okD] at h
  | n, .scr _, h => by cases n <;> simp [okD] at h
  | n, .fn _, h => by cases n <;> simp [okD] at h
theorem lays_of : ∀ (n : Nat) (l : List D), okDs n l = true → PyData.canLayAll0 (toPys l) = true ∧ PyData.depthAll (toPys l) ≤ n
  | n, [], _ => by simp [toPys, PyData.canLayAll0, PyData.depthAll]
  | n, d :: l, h => by
    have h' : okD n d = true ∧ okDs n l = true := by simpa [okDs] using h
    have a := lay_of n d h'.1
    have b := lays_of n l h'.2
    simp only [toPys, PyData.canLayAll0, PyData.depthAll]
    exact ⟨by rw [a.1, b.1]; rfl, by omega⟩
end
theorem shaped_of {n : Nat} {d : D} (hn : n ≤ 64) (h : okD n d = true) : SeqAt.shaped (toPy d) = true := by
  have := lay_of n d h
  unfold SeqAt.shaped
  rw [this.1, decide_eq_true (show (toPy d).depth ≤ 64 by omega)]
  rfl
theorem rf_eq : RfOp K cl (rEqD K) oEq where
  mono := fun x y P P' h q => ⟨q.1, q.2.1, h _ q.2.2⟩
  ok := fun F H v u x y Q s rx ry q => by
    obtain ⟨h1, h2, q⟩ := q
    refine ⟨toPy x, toPy y, dp_of 60 x v h1 (rx.mono s), dp_of 60 y u h2 (ry.mono s), shaped_of (by decide) h1, shaped_of (by decide) h2, ?_⟩
    rw [eqv_of 60 60 x y h1 h2]
    exact q _ F H (Gr.refl s) (.bl _)
theorem rf_ne : RfOp K cl (rNeD K) oNe where
  mono := fun x y P P' h q => ⟨q.1, q.2.1, h _ q.2.2⟩
  ok := fun F H v u x y Q s rx ry q => by
    obtain ⟨h1, h2, q⟩ := q
    refine ⟨toPy x, toPy y, dp_of 60 x v h1 (rx.mono s), dp_of 60 y u h2 (ry.mono s), shaped_of (by decide) h1, shaped_of (by decide) h2, ?_⟩
    rw [eqv_of 60 60 x y h1 h2]
    exact q _ F H (Gr.refl s) (.bl _)
/-! ### order -/
def rCmpU (g : Int → Int → Bool) (h : Str → Str → Bool) : R2 := fun x y H Q => rI0 (fun i j => .bl (g i j)) x y H Q ∨ ∃ i j, x = .str i ∧ y = .str j ∧ Q (.bl (h i j)) H
theorem rf_cmpU {g : Int → Int → Bool} {h : Str → Str → Bool} {f : D → D → DK → Prop} (hi : ∀ i j Q, f (.int i) (.int j) Q = Q (.bl (g i j))) (hs : ∀ i j Q, f (.str i) (.str j) Q = Q (.bl (h i j)))
    (hn : ∀ x y Q, f x y Q → (∃ i j, x = .int i ∧ y = .int j) ∨ ∃ i j, x = .str i ∧ y = .str j) : RfOp K cl (rCmpU g h) f where
  mono := fun x y P P' h q => by
    rcases hn x y P q with ⟨i, j, rfl, rfl⟩ | ⟨i, j, rfl, rfl⟩
    · rw [hi] at q ⊢; exact h _ q
    · rw [hs] at q ⊢; exact h _ q
  ok := fun F H v u x y Q s rx ry q => by
    rcases hn x y _ q with ⟨i, j, rfl, rfl⟩ | ⟨i, j, rfl, rfl⟩
    · rw [hi] at q
      cases rx
      cases ry
      exact .inl ⟨i, j, rfl, rfl, q _ F H (Gr.refl s) (.bl _)⟩
    · rw [hs] at q
      cases rx
      cases ry
      exact .inr ⟨i, j, rfl, rfl, q _ F H (Gr.refl s) (.bl _)⟩
theorem op_ltU : OpR X (compareOp .Lt) (rCmpU (fun i j => decide (i < j)) fun i j => decide (i.cps.toList < j.cps.toList)) := op_lt.or op_lt_str
theorem op_leU : OpR X (compareOp .LtE) (rCmpU (fun i j => decide (i ≤ j)) fun i j => !decide (j.cps.toList < i.cps.toList)) := op_le.or op_le_str
theorem op_gtU : OpR X (compareOp .Gt) (rCmpU (fun i j => decide (j < i)) fun i j => decide (j.cps.toList < i.cps.toList)) := op_gt.or op_gt_str
theorem op_geU : OpR X (compareOp .GtE) (rCmpU (fun i j => decide (j ≤ i)) fun i j => !decide (i.cps.toList < j.cps.toList)) := op_ge.or op_ge_str
theorem rf_lt : RfOp K cl (rCmpU (fun i j => decide (i < j)) fun i j => decide (i.cps.toList < j.cps.toList)) oLt := rf_cmpU (fun _ _ _ => rfl) (fun _ _ _ => rfl) fun x y Q q => by
  cases x <;> cases y <;> first | exact .inl ⟨_, _, rfl, rfl⟩ | exact .inr ⟨_, _, rfl, rfl⟩ | exact q.elim
theorem rf_le : RfOp K cl (rCmpU (fun i j => decide (i ≤ j)) fun i j => !decide (j.cps.toList < i.cps.toList)) oLe := rf_cmpU (fun _ _ _ => rfl) (fun _ _ _ => rfl) fun x y Q q => by
  cases x <;> cases y <;> first | exact .inl ⟨_, _, rfl, rfl⟩ | exact .inr ⟨_, _, rfl, rfl⟩ | exact q.elim
theorem rf_gt : RfOp K cl (rCmpU (fun i j => decide (j < i)) fun i j => decide (j.cps.toList < i.cps.toList)) oGt := rf_cmpU (fun _ _ _ => rfl) (fun _ _ _ => rfl) fun x y Q q => by
  cases x <;> cases y <;> first | exact .inl ⟨_, _, rfl, rfl⟩ | exact .inr ⟨_, _, rfl, rfl⟩ | exact q.elim
theorem rf_ge : RfOp K cl (rCmpU (fun i j => decide (j ≤ i)) fun i j => !decide (i.cps.toList < j.cps.toList)) oGe := rf_cmpU (fun _ _ _ => rfl) (fun _ _ _ => rfl) fun x y Q q => by
  cases x <;> cases y <;> first | exact .inl ⟨_, _, rfl, rfl⟩ | exact .inr ⟨_, _, rfl, rfl⟩ | exact q.elim
/-! ### is None -/
theorem Rep.isNon {F : Hp} {v : V} {d : D} (r : Rep K cl F v d) : decide (v = .non) = DL.isNon d := by
  cases r <;> rfl
theorem rf_isN : RfOp K cl (fun x y H Q => y = .non ∧ Q (.bl (decide (x = .non))) H) (fun x y Q => isNon y = true ∧ oIsN x Q) where
  mono := fun x y P P' h q => ⟨q.1, h _ q.2⟩
  ok := fun F H v u x y Q s rx ry q => by
    refine ⟨?_, ?_⟩
    · have := q.1
      cases ry <;> first | rfl | cases this
    · rw [rx.isNon]
      exact q.2 _ F H (Gr.refl s) (.bl _)
theorem rf_notN : RfOp K cl (fun x y H Q => y = .non ∧ Q (.bl (!decide (x = .non))) H) (fun x y Q => isNon y = true ∧ oNotN x Q) where
  mono := fun x y P P' h q => ⟨q.1, h _ q.2⟩
  ok := fun F H v u x y Q s rx ry q => by
    refine ⟨?_, ?_⟩
    · have := q.1
      cases ry <;> first | rfl | cases this
    · rw [rx.isNon]
      exact q.2 _ F H (Gr.refl s) (.bl _)
end
end DL

/-! DOps2: in, subscripts, slices, truth. -/
namespace DL
open PySem L2 PyProof.Rows
variable [TN]
section
variable {X : Cx} {K : Fg} {cl : Cl}
/-! ### in -/
theorem Reps.flat {F : Hp} : ∀ {vs : List V} {ds : List D}, Reps K cl F vs ds → ds.all isFlat = true → vs.all flatV = true
  | _, _, .nil, _ => rfl
  | _, _, .cons h r, q => by
    rw [List.all_cons, Bool.and_eq_true] at q ⊢
    refine ⟨?_, Reps.flat r q.2⟩
    cases h <;> first | rfl | (have := q.1; cases this)
theorem Rep.flat1 {F : Hp} {v : V} {d : D} (h : Rep K cl F v d) (q : isFlat d = true) : flatV v = true := by
  cases h <;> first | rfl | cases q
theorem eqV_D {F : Hp} {v u : V} {d e : D} (h : Rep K cl F v d) (g : Rep K cl F u e) (q : isFlat d = true) (p : isFlat e = true) : eqV v u = eqD d e := by
  cases h <;> first | (cases q; done) | (cases g <;> first | (cases p; done) | (simp [eqV, eqD]; done))
theorem inV_D {F : Hp} {v : V} {d : D} (h : Rep K cl F v d) (q : isFlat d = true) : ∀ {vs : List V} {ds : List D}, Reps K cl F vs ds → ds.all isFlat = true → inV v vs = inD d ds
  | _, _, .nil, _ => rfl
  | _, _, .cons g r, p => by
    rw [List.all_cons, Bool.and_eq_true] at p
    have ih := inV_D h q r p.2
    unfold inV inD at ih ⊢
    rw [List.any_cons, List.any_cons, ih, eqV_D g h p.1 q]
theorem any_D {n m : Nat} {d : D} (hd : okD n d = true) : ∀ {ds : List D}, okDs m ds = true → ((toPys ds).any fun z => PyData.eqv z (toPy d)) = inD d ds
  | [], _ => rfl
  | e :: ds, h => by
    have h' : okD m e = true ∧ okDs m ds = true := by simpa [okDs] using h
    have ih := any_D hd h'.2
    unfold inD at ih ⊢
    simp only [toPys]
    rw [List.any_cons, List.any_cons, ih, eqv_of m n e d h'.1 hd]
def rInK : R2 := fun y x H Q => ∃ a o, x = .ref a ∧ DGet H a y o ∧ Q (.bl o.isSome) H
theorem op_inK (hu : X.A.units + 1 < cLine) : OpR X (compareOp .In) rInK := by
  intro pins s σ H y x iv u Q I ry rx h
  obtain ⟨a, o, rfl, g, q⟩ := h
  obtain rfl : u = Value.ref a := rx
  exact d_in hu I g ry fun s3 I3 => ⟨.bl o.isSome, H, I3, rfl, q⟩
/-- in a tuple of data of any depth -/
def rInDT (K : Fg) : R2 := fun x y H Q => ∃ d ds, Dp K H x d ∧ Dp K H y (.tuple ds) ∧ SeqAt.shaped d = true ∧ SeqAt.shaped (.tuple ds) = true ∧ Q (.bl (ds.any fun z => PyData.eqv z d)) H
theorem op_inDT (hu : X.A.units + 65 < cLine) : OpR X (compareOp .In) (rInDT X.K) := fun pins s σ H x y v u Q I rx ry h => by
  obtain ⟨e, es, h1, h2, s1, s2, q⟩ := h
  obtain ⟨_, r1⟩ := Dp.reads I e x v h1 rx
  obtain ⟨_, r2⟩ := Dp.reads I (.tuple es) y u h2 ry
  exact SeqAt.in_tuple_reads r2 r1 (SeqAt.canLay_of_shaped s2) (SeqAt.canLay_of_shaped s1) (room_in_shaped s1 hu) ⟨.bl _, H, I, rfl, q⟩
def rNotInDT (K : Fg) : R2 := fun x y H Q => ∃ d ds, Dp K H x d ∧ Dp K H y (.tuple ds) ∧ SeqAt.shaped d = true ∧ SeqAt.shaped (.tuple ds) = true ∧ Q (.bl (!ds.any fun z => PyData.eqv z d)) H
theorem op_notInDT (hu : X.A.units + 65 < cLine) : OpR X (compareOp .NotIn) (rNotInDT X.K) := fun pins s σ H x y v u Q I rx ry h => by
  obtain ⟨e, es, h1, h2, s1, s2, q⟩ := h
  obtain ⟨_, r1⟩ := Dp.reads I e x v h1 rx
  obtain ⟨_, r2⟩ := Dp.reads I (.tuple es) y u h2 ry
  exact SeqAt.notIn_tuple_reads r2 r1 (SeqAt.canLay_of_shaped s2) (SeqAt.canLay_of_shaped s1) (room_in_shaped s1 hu) ⟨.bl _, H, I, rfl, q⟩
def rInU (K : Fg) : R2 := fun x y H Q => rInD K x y H Q ∨ rIn K false x y H Q ∨ rInK x y H Q ∨ rInDT K x y H Q
theorem op_inU (hu : X.A.units + 65 < cLine) : OpR X (compareOp .In) (rInU X.K) := (op_inD hu).or (op_in_seq.or ((op_inK (by omega)).or (op_inDT hu)))
theorem keyOf_rel {F : Hp} {v : V} {d : D} {k : DL.Key} (r : Rep K cl F v d) (h : keyOf d = some k) : v = kV k := by
  cases r <;> first | (cases h; rfl) | cases h
theorem KReps.look {F : Hp} (k : DL.Key) : ∀ {ws : List (L2.Key × V)} {kvs : List (DL.Key × D)}, KReps K cl F ws kvs → (lookD kvs k = none ∧ valV ws k = none) ∨ ∃ v d, lookD kvs k = some d ∧ valV ws k = some v ∧ Rep K cl F v d
  | _, _, .nil => .inl ⟨rfl, rfl⟩
  | _, _, .cons (k := k') h r => by
    have ih := KReps.look k r
    unfold lookD valV at ih ⊢
    rw [List.find?_cons, List.find?_cons]
    by_cases e : k' = k
    · simp only [e, decide_true]
      exact .inr ⟨_, _, rfl, rfl, h⟩
    · simp only [e, decide_false]
      exact ih
theorem rf_in : RfOp K cl (rInU K) oIn where
  mono := fun x y P P' h q => by
    cases y with
    | lst l => exact ⟨q.1, q.2.1, h _ q.2.2⟩
    | tup l => exact ⟨q.1, h _ q.2⟩
    | dk l =>
      simp only [oIn] at q ⊢
      cases e : keyOf x with
      | none => rw [e] at q; exact q.elim
      | some k => rw [e] at q; exact h _ q
    | _ => exact q.elim
  ok := fun F H v u x y Q s rx ry q => by
    cases ry with
    | lst e r =>
      rename_i a vs ds
      obtain ⟨h1, h2, q⟩ := q
      have h3 : okD 60 (.lst ds) = true := by simpa [okD] using h2
      refine .inl ⟨toPy x, toPys ds, dp_of 60 x v h1 (rx.mono s), ?_, shaped_of (by decide) h1, ?_, ?_⟩
      · have := dp_of (K := K) (cl := cl) (F := H) 60 (.lst ds) (.ref a) h3 (.lst (s _ _ e) (r.mono s))
        simpa [toPy] using this
      · have := shaped_of (n := 60) (by decide) h3
        simpa [toPy] using this
      · rw [any_D h1 h2]
        exact q _ F H (Gr.refl s) (.bl _)
    | tup e r =>
      rename_i a vs ds
      obtain ⟨hd, q⟩ := q
      rcases hd with ⟨h1, h2⟩ | ⟨h1, h2⟩
      · refine .inr (.inl ⟨_, _, rfl, .inr (same_t s e), rx.flat1 h1, r.flat h2, ?_⟩)
        rw [if_neg (by decide), inV_D rx h1 r h2]
        exact q _ F H (Gr.refl s) (.bl _)
      · have h3 : okD 60 (.tup ds) = true := by simpa [okD] using h2
        refine .inr (.inr (.inr ⟨toPy x, toPys ds, dp_of 60 x v h1 (rx.mono s), ?_, shaped_of (by decide) h1, ?_, ?_⟩))
        · have := dp_of (K := K) (cl := cl) (F := H) 60 (.tup ds) (.ref a) h3 (.tup (same_t s e) (r.mono s))
          simpa [toPy] using this
        · have := shaped_of (n := 60) (by decide) h3
          simpa [toPy] using this
        · rw [any_D h1 h2]
          exact q _ F H (Gr.refl s) (.bl _)
    | dk e r =>
      simp only [oIn] at q
      cases ek : keyOf x with
      | none => rw [ek] at q; exact q.elim
      | some k =>
        rw [ek] at q
        rw [keyOf_rel rx ek]
        refine .inr (.inr (.inl ⟨_, _, rfl, DGet.k (k := k) (s _ _ e), ?_⟩))
        rcases r.look k with ⟨e1, e2⟩ | ⟨w, d, e1, e2, _⟩
        · simp only [e1] at q
          rw [e2]
          exact q _ F H (Gr.refl s) (.bl _)
        · simp only [e1] at q
          rw [e2]
          exact q _ F H (Gr.refl s) (.bl _)
    | _ => exact q.elim
def rNotInK : R2 := fun y x H Q => ∃ a o, x = .ref a ∧ DGet H a y o ∧ Q (.bl (!o.isSome)) H
theorem op_notInK (hu : X.A.units + 1 < cLine) : OpR X (compareOp .NotIn) rNotInK := by
  intro pins s σ H y x iv u Q I ry rx h
  obtain ⟨a, o, rfl, g, q⟩ := h
  obtain rfl : u = Value.ref a := rx
  exact d_notIn hu I g ry fun s3 I3 => ⟨.bl (!o.isSome), H, I3, rfl, q⟩
def rNotInU (K : Fg) : R2 := fun x y H Q => rNotInD K x y H Q ∨ rIn K true x y H Q ∨ rNotInK x y H Q ∨ rNotInDT K x y H Q
theorem op_notInU (hu : X.A.units + 65 < cLine) : OpR X (compareOp .NotIn) (rNotInU X.K) := (op_notInD hu).or (op_notIn_seq.or ((op_notInK (by omega)).or (op_notInDT hu)))
theorem rf_notIn : RfOp K cl (rNotInU K) oNotIn where
  mono := fun x y P P' h q => by
    refine rf_in (K := K) (cl := cl).mono x y _ _ (fun d q => ?_) q
    cases d <;> first | exact h _ q | exact q.elim
  ok := fun F H v u x y Q s rx ry q => by
    unfold oNotIn at q
    cases ry with
    | lst e r =>
      rename_i a vs ds
      obtain ⟨h1, h2, q⟩ := q
      have h3 : okD 60 (.lst ds) = true := by simpa [okD] using h2
      refine .inl ⟨toPy x, toPys ds, dp_of 60 x v h1 (rx.mono s), ?_, shaped_of (by decide) h1, ?_, ?_⟩
      · have := dp_of (K := K) (cl := cl) (F := H) 60 (.lst ds) (.ref a) h3 (.lst (s _ _ e) (r.mono s))
        simpa [toPy] using this
      · have := shaped_of (n := 60) (by decide) h3
        simpa [toPy] using this
      · rw [any_D h1 h2]
        exact q _ F H (Gr.refl s) (.bl _)
    | tup e r =>
      rename_i a vs ds
      obtain ⟨hd, q⟩ := q
      rcases hd with ⟨h1, h2⟩ | ⟨h1, h2⟩
      · refine .inr (.inl ⟨_, _, rfl, .inr (same_t s e), rx.flat1 h1, r.flat h2, ?_⟩)
        rw [if_pos rfl, inV_D rx h1 r h2]
        exact q _ F H (Gr.refl s) (.bl _)
      · have h3 : okD 60 (.tup ds) = true := by simpa [okD] using h2
        refine .inr (.inr (.inr ⟨toPy x, toPys ds, dp_of 60 x v h1 (rx.mono s), ?_, shaped_of (by decide) h1, ?_, ?_⟩))
        · have := dp_of (K := K) (cl := cl) (F := H) 60 (.tup ds) (.ref a) h3 (.tup (same_t s e) (r.mono s))
          simpa [toPy] using this
        · have := shaped_of (n := 60) (by decide) h3
          simpa [toPy] using this
        · rw [any_D h1 h2]
          exact q _ F H (Gr.refl s) (.bl _)
    | dk e r =>
      simp only [oIn] at q
      cases ek : keyOf x with
      | none => rw [ek] at q; exact q.elim
      | some k =>
        rw [ek] at q
        rw [keyOf_rel rx ek]
        refine .inr (.inr (.inl ⟨_, _, rfl, DGet.k (k := k) (s _ _ e), ?_⟩))
        rcases r.look k with ⟨e1, e2⟩ | ⟨w, d, e1, e2, _⟩
        · simp only [e1, neg1] at q
          rw [e2]
          exact q _ F H (Gr.refl s) (.bl _)
        · simp only [e1, neg1] at q
          rw [e2]
          exact q _ F H (Gr.refl s) (.bl _)
    | _ => exact q.elim
/-! ### subscripts -/
def rIxK : R2 := fun x y H Q => ∃ a v, x = .ref a ∧ DGet H a y (some v) ∧ Q v H
theorem ix_dict (hu : X.A.units + 1 < cLine) : IxR X rIxK := by
  intro value slice pins s σ H x y v u Q I rx ry h hs
  obtain ⟨a, w, rfl, g, q⟩ := h
  obtain rfl : v = Value.ref a := rx
  exact tail_any (dict_typeIs I g) PySem.F.slot_dict_getitem.lookup (d_getItem hu I g ry fun w' s3 I3 rw' => ⟨w, H, I3, rw', q⟩) hs
def rIxU (K : Fg) : R2 := fun x y H Q => rIx K x y H Q ∨ rIxK x y H Q
theorem ix_U (hu : X.A.units + 1 < cLine) : IxR X (rIxU X.K) := ix_seq.or (ix_dict hu)
theorem ixN_eq (n : Nat) (i : Int) : L2.ixN n i = DL.ixN n i := rfl
theorem Reps.get {F : Hp} : ∀ {vs : List V} {ds : List D} {j : Nat} {d : D}, Reps K cl F vs ds → ds[j]? = some d → ∃ v, vs[j]? = some v ∧ Rep K cl F v d
  | _, _, _, _, .nil, e => by simp at e
  | _, _, 0, _, .cons h _, e => by simp at e; subst e; exact ⟨_, rfl, h⟩
  | _, _, j + 1, _, .cons _ r, e => by
    obtain ⟨v, h1, h2⟩ := Reps.get (j := j) r (by simpa using e)
    exact ⟨v, by simpa using h1, h2⟩
theorem Reps.atI {F : Hp} {vs : List V} {ds : List D} {i : Int} {d : D} (r : Reps K cl F vs ds) (e : DL.atI ds i = some d) : ∃ v, L2.atI vs i = some v ∧ Rep K cl F v d := by
  unfold DL.atI at e
  unfold L2.atI
  rw [r.length, ixN_eq]
  cases q : DL.ixN ds.length i with
  | none => rw [q] at e; cases e
  | some j =>
    rw [q] at e
    exact r.get e
theorem oGet_some {o : Option D} {Q : DK} (h : oGet o Q) : ∃ d, o = some d ∧ Q d := by
  cases o with
  | none => exact h.elim
  | some d => exact ⟨d, rfl, h⟩
theorem rf_ix : RfOp K cl (rIxU K) oIx where
  mono := fun x y P P' h q => by
    have g : ∀ o, oGet o P → oGet o P' := fun o q => by cases o <;> first | exact q.elim | exact h _ q
    cases x with
    | lst l => cases y <;> first | exact g _ q | exact q.elim
    | tup l => cases y <;> first | exact g _ q | exact q.elim
    | str z => cases y <;> first | exact ⟨q.1, g _ q.2⟩ | exact q.elim
    | dk l =>
      simp only [oIx] at q ⊢
      cases e : keyOf y with
      | none => rw [e] at q; exact q.elim
      | some k => rw [e] at q; exact g _ q
    | _ => exact q.elim
  ok := fun F H v u x y Q s rx ry q => by
    cases rx with
    | lst e r => cases ry with
      | int i =>
        obtain ⟨d, e1, q⟩ := oGet_some q
        obtain ⟨w, e2, rr⟩ := r.atI e1
        exact .inl (.inl ⟨_, _, i, w, rfl, rfl, SqL.of (s _ _ e), e2, q w F H (Gr.refl s) rr⟩)
      | _ => exact q.elim
    | tup e r => cases ry with
      | int i =>
        obtain ⟨d, e1, q⟩ := oGet_some q
        obtain ⟨w, e2, rr⟩ := r.atI e1
        exact .inl (.inr (.inl ⟨_, _, i, w, rfl, rfl, same_t s e, e2, q w F H (Gr.refl s) rr⟩))
      | _ => exact q.elim
    | str z => cases ry with
      | int i =>
        obtain ⟨hz, q⟩ := q
        obtain ⟨d, e1, q⟩ := oGet_some q
        cases e2 : DL.atI z.cps.toList i with
        | none => rw [e2] at e1; cases e1
        | some c =>
          rw [e2] at e1
          cases e1
          exact .inl (.inr (.inr ⟨z, i, c, rfl, rfl, by rw [← line_eq]; exact hz, e2, q _ F H (Gr.refl s) (.str _)⟩))
      | _ => exact q.elim
    | dk e r =>
      simp only [oIx] at q
      cases ek : keyOf y with
      | none => rw [ek] at q; exact q.elim
      | some k =>
        rw [ek] at q
        obtain ⟨d, e1, q⟩ := oGet_some q
        rw [keyOf_rel ry ek]
        rcases r.look k with ⟨e2, e3⟩ | ⟨w, d', e2, e3, rr⟩
        · rw [e2] at e1; cases e1
        · rw [e2] at e1
          cases e1
          have gg := DGet.k (k := k) (s _ _ e)
          rw [e3] at gg
          exact .inr ⟨_, w, rfl, gg, q w F H (Gr.refl s) rr⟩
    | _ => exact q.elim
end
end DL

/-! DStm: slices, targets, statements, loops, list comprehensions, calls. -/
namespace DL
open PySem L2 PyProof.Rows
variable [TN]
/-! ### another base -/
def un (F H0 : Hp) : Hp := fun p => match F p with
  | some o => some o
  | none => H0 p
section
variable {K : Fg} {cl : Cl} {W : WX} {F0 H0 F H F' H' : Hp} {σ σ' : L2.St} {ρ ρ' : DL.Env}
theorem un_none {p : Addr} : un F H0 p = none ↔ F p = none ∧ H0 p = none := by
  unfold un
  cases e : F p <;> simp
theorem Gr.rebase (g : Gr F0 H0 F H) : Gr F (un F H0) F H := by
  refine ⟨Same.refl _, ⟨fun p o e n => ?_, fun P hm C hC t => ?_, fun p e => un_none.mpr ⟨g.s.free e, g.k.free e⟩, fun P ps e => ?_⟩, g.s, fun p a b => absurd b a, fun p ps e => ?_, fun _ _ e => e⟩
  · unfold un at e
    cases q : F p with
    | some u => rw [q] at e; cases e; exact g.s p _ q
    | none => rw [q] at e; exact g.k.o p o e n
  · cases q : F P with
    | some u =>
      refine t.of fun ps e => ?_
      unfold un at e
      rw [q] at e
      cases e
      exact g.s _ _ q
    | none =>
      refine g.k.t P hm C hC (t.of fun ps e => ?_)
      unfold un at e
      rw [q] at e
      exact e
  · cases q : F P with
    | none =>
      obtain ⟨ps1, e1⟩ := g.k.b P ps e
      exact ⟨ps1, by unfold un; rw [q]; exact e1⟩
    | some u =>
      have z := g.s P u q
      rw [e] at z
      exact ⟨ps, by unfold un; rw [q, z]⟩
  · exact .inr (by unfold un; rw [e])
theorem Gr.back (g : Gr F0 H0 F H) (b : Gr F (un F H0) F' H') : Gr F0 H0 F' H' := by
  refine ⟨g.f.trans b.f, ⟨fun p o e n => ?_, fun P hm C hC t => ?_, fun p e => (un_none.mp (b.k.free e)).2, fun P ps e => ?_⟩, b.s, fun p x y => ?_, fun p ps x => ?_, fun p ps x => g.v p ps (b.v p ps x)⟩
  · cases q : F p with
    | none => exact b.k.o p o (by unfold un; rw [q]; exact e) n
    | some u =>
      have e1 := g.k.o p o e n
      have e2 := g.s p u q
      rw [e1] at e2
      cases e2
      exact b.s p _ (b.f p _ q)
  · refine b.k.t P hm C hC (t.of fun ps e => ?_)
    cases q : F P with
    | none => unfold un; rw [q]; exact e
    | some u =>
      have u0 : ∃ ps, u = .tbl ps := by
        have t1 : TabC (fun _ => True) H0 P := by
          obtain ⟨ps, h1, h2, h3⟩ := t
          refine ⟨ps, h1, h2, fun pos cv hc => ?_⟩
          obtain ⟨c, e1, _⟩ := h3 pos cv hc
          exact ⟨c, e1, trivial⟩
        have t' := g.k.t P hm (fun _ => True) (fun _ _ => trivial) t1
        obtain ⟨ps', z, _⟩ := t'
        rw [g.s P u q] at z
        exact ⟨ps', Option.some.inj z⟩
      obtain ⟨ps', rfl⟩ := u0
      rcases g.w P ps' q with z | z
      · rw [e] at z; cases z
      · unfold un
        rw [q, ← z, e]
  · obtain ⟨ps1, e1⟩ := b.k.b P ps e
    unfold un at e1
    cases q : F P with
    | none => rw [q] at e1; exact ⟨ps1, e1⟩
    | some u =>
      rw [q] at e1
      cases e1
      exact g.k.b P _ (g.s P _ q)
  · cases q : F p with
    | none => exact (un_none.mp (b.n p x q)).2
    | some u => exact g.n p (by rw [q]; simp) y
  · cases q : F p with
    | none => exact .inl (un_none.mp (b.n p (by rw [x]; simp) q)).2
    | some u =>
      have z := b.f p u q
      rw [x] at z
      cases z
      exact g.w p ps q
theorem Hold.rebase (h : Hold K cl F0 H0 F H σ ρ) : Hold K cl F (un F H0) F H σ ρ := by
  obtain ⟨θ, hs, hd⟩ := h.sl
  refine ⟨h.g.rebase, h.tb, h.len, θ, fun i s e => ?_, hd⟩
  have q := hs i s e
  cases s with
  | no => trivial
  | v d => exact q
  | o d =>
    obtain ⟨e1, n0, nf, w⟩ := q
    exact ⟨e1, un_none.mpr ⟨nf, n0⟩, nf, w⟩
theorem Hold.back (g : Gr F0 H0 F H) (h : Hold K cl F (un F H0) F' H' σ ρ) : Hold K cl F0 H0 F' H' σ ρ := by
  obtain ⟨θ, hs, hd⟩ := h.sl
  refine ⟨g.back h.g, h.tb, h.len, θ, fun i s e => ?_, hd⟩
  have q := hs i s e
  cases s with
  | no => trivial
  | v d => exact q
  | o d =>
    obtain ⟨e1, n0, nf, w⟩ := q
    exact ⟨e1, (un_none.mp n0).2, nf, w⟩
theorem LinkE.rebase {E : EK} (g : Gr F0 H0 F H) (le : LinkE K cl F0 H0 W E) : LinkE K cl F (un F H0) W E := fun err ρ σ F' H' c dx h e r => le err ρ σ F' H' c dx (h.back g) e r
theorem LinkD.rebase {A : Ends} {B : DE} (g : Gr F0 H0 F H) (l : LinkD K cl F0 H0 A B) : LinkD K cl F (un F H0) A B :=
  ⟨fun F' H' σ ρ h q => l.nx F' H' σ ρ (h.back g) q, fun F' H' σ ρ h q => l.bk F' H' σ ρ (h.back g) q, fun F' H' σ ρ h q => l.ct F' H' σ ρ (h.back g) q, fun F' H' v d h r r2 q => l.rt F' H' v d (g.back h) r (fun z => by
    obtain ⟨p, e, n, f, o⟩ := r2 z
    exact ⟨p, e, (un_none.mp n).2, f, o⟩) q, fun F' H' σ ρ v d h r q => l.ro F' H' σ ρ v d (h.back g) r q⟩
theorem LeD.refl (A : DE) : LeD A A := ⟨fun _ h => h, fun _ h => h, fun _ h => h, fun _ h => h, fun _ _ h => h⟩

/-! ### slices -/
theorem sIx_eq (n d : Nat) (o : Option Int) : HT.sIx n d o = DL.sIx n d o := by cases o <;> rfl
theorem Reps.drop {F : Hp} : ∀ (n : Nat) {vs : List V} {ds : List D}, Reps K cl F vs ds → Reps K cl F (vs.drop n) (ds.drop n)
  | 0, _, _, r => r
  | _ + 1, _, _, .nil => .nil
  | n + 1, _, _, .cons _ r => Reps.drop n r
theorem Reps.take {F : Hp} : ∀ (n : Nat) {vs : List V} {ds : List D}, Reps K cl F vs ds → Reps K cl F (vs.take n) (ds.take n)
  | 0, _, _, _ => .nil
  | _ + 1, _, _, .nil => .nil
  | n + 1, _, _, .cons h r => .cons h (Reps.take n r)
theorem Reps.cut {F : Hp} {vs : List V} {ds : List D} (r : Reps K cl F vs ds) (lo hi : Option Int) : Reps K cl F (cutV vs lo hi) (cutL ds lo hi) := by
  unfold cutV cutL
  rw [sIx_eq, sIx_eq, r.length]
  exact (r.drop _).take _
theorem cut_all {ds : List D} {lo hi : Option Int} (h : HT.sIx ds.length 0 lo = 0 ∧ HT.sIx ds.length ds.length hi = ds.length) : cutL ds lo hi = ds := by
  unfold cutL
  rw [← sIx_eq, ← sIx_eq, h.1, h.2]
  simp
def rSlU (K : Fg) : V → Option Int → Option Int → Hp → VK → Prop := fun x lo hi H Q => rSlL K x lo hi H Q ∨ rSlA K x lo hi H Q ∨ rSlS x lo hi H Q
theorem sl_U {X : Cx} : SlR X (rSlU X.K) := sl_list.or (sl_tupA.or sl_str)
theorem rfo_N : RfO K cl W tNoPart oN where
  mono2 := fun E E' ρ P P' hE h q => h _ q
  ok := fun F0 H0 F H σ ρ E Q hh le q => q F H (Gr.refl hh.g.s)
theorem rfo_S {te : TE} {t : DT} (ha : RfE K cl W te t) : RfO K cl W (tPart te) (oS t) where
  mono2 := fun E E' ρ P P' hE h q => ha.mono2 E E' ρ _ _ hE (fun x q => by cases x <;> first | exact h _ q | exact q.elim) q
  ok := fun F0 H0 F H σ ρ E Q hh le q => by
    refine ha.ok F0 H0 F H σ ρ E _ hh le (ha.mono E ρ _ _ (fun x q v F1 H1 g1 r1 => ?_) q)
    cases r1 with
    | int i => exact ⟨i, rfl, q F1 H1 g1⟩
    | _ => exact q.elim
theorem rfe_slice {te : TE} {t : DT} {tl th : TO} {l u : DO} (ha : RfE K cl W te t) (hl : RfO K cl W tl l) (hu : RfO K cl W th u) : RfE K cl W (tSl (rSlU K) te tl th) (dSlice t l u) where
  mono2 := fun E E' ρ P P' hE h q => ha.mono2 E E' ρ _ _ hE (fun x q => hl.mono2 E E' ρ _ _ hE (fun lo q => hu.mono2 E E' ρ _ _ hE (fun hi q => by
    cases x <;> first | exact h _ q | exact ⟨q.1, h _ q.2⟩ | exact q.elim) q) q) q
  ok := fun F0 H0 F H σ ρ E Q hh le q => by
    refine ha.ok F0 H0 F H σ ρ E _ hh le (ha.mono E ρ _ _ (fun x q v F1 H1 g1 r1 => ?_) q)
    refine hl.ok F0 H0 F1 H1 σ ρ E _ (hh.grow g1) le (hl.mono E ρ _ _ (fun lo q F2 H2 g2 => ?_) q)
    refine hu.ok F0 H0 F2 H2 σ ρ E _ ((hh.grow g1).grow g2) le (hu.mono E ρ _ _ (fun hi q F3 H3 g3 => ?_) q)
    have g := (g1.trans g2).trans g3
    have r3 := (r1.mono g2.f).mono g3.f
    cases r3 with
    | @lst a vs ds e r =>
      refine .inl ⟨a, vs, rfl, SqL.of (g3.s _ _ e), fun p hp => ?_⟩
      exact q _ (upd F3 p (.lst _)) _ (g.trans (Gr.new g3.s hp)) (.lst upd_same ((r.cut lo hi).mono (same_upd (g3.s.free hp))))
    | @tup a vs ds e r =>
      refine .inr (.inl ⟨a, vs, rfl, same_t g3.s e, fun hw => ?_, fun _ p hp => ?_⟩)
      · rw [r.length] at hw
        have q : (fun d => ∀ v F' H', Gr F H F' H' → Rep K cl F' v d → Q v H') (.tup (cutL ds lo hi)) := q
        rw [cut_all hw] at q
        exact q _ F3 H3 g (.tup e r)
      · exact q _ (upd F3 p (.tup _)) _ (g.trans (Gr.new g3.s hp)) (.tup (SqT.of upd_same) ((r.cut lo hi).mono (same_upd (g3.s.free hp))))
    | str z =>
      refine .inr (.inr ⟨z, rfl, by rw [← line_eq]; exact q.1, ?_⟩)
      have e1 : cutS z lo hi = ⟨(cutL z.cps.toList lo hi).toArray⟩ := by
        unfold cutS cutL
        simp [sIx_eq, Str.length]
      rw [e1]
      exact q.2 _ F3 H3 g (.str _)
    | _ => exact q.elim
/-! ### targets -/
theorem Agree.refl (js : List Nat) (σ : L2.St) : Agree js σ σ := ⟨rfl, fun _ _ => rfl⟩
theorem Agree.trans {a b : List Nat} {σ1 σ2 σ3 : L2.St} (x : Agree a σ1 σ2) (y : Agree b σ2 σ3) : Agree (a ++ b) σ1 σ3 :=
  ⟨y.1.trans x.1, fun i hi => (y.2 i fun z => hi (List.mem_append_right _ z)).trans (x.2 i fun z => hi (List.mem_append_left _ z))⟩
theorem rfg_name {i : Nat} : RfG K cl [i] (L2.gName i) (DL.gName i) where
  mono := fun d ρ P P' h q => h _ q
  ok := fun F0 H0 F H σ ρ v d Q hh r q => q _ (hh.set r) ⟨by simp, fun j hj => by rw [List.getElem?_set_ne (fun z => hj (by simp [z]))]⟩
theorem rfgs_nil : RfGs K cl [] L2.gNil DL.gNil where
  mono := fun d ρ P P' h q => ⟨q.1, h _ q.2⟩
  ok := fun F0 H0 F H σ ρ v d Q hh r q => by
    obtain ⟨rfl, q⟩ := q
    cases r
    exact ⟨rfl, q σ hh (Agree.refl _ _)⟩
theorem rfgs_cons {js ks : List Nat} {g : TG} {t : DG} {gs : TGs} {ts : DGs} (h1 : RfG K cl js g t) (h2 : RfGs K cl ks gs ts) : RfGs K cl (js ++ ks) (L2.gCons g gs) (DL.gCons t ts) where
  mono := fun d ρ P P' h q => by
    cases d with
    | nil => exact q.elim
    | cons x r => exact h1.mono x ρ _ _ (fun ρ' q => h2.mono r ρ' _ _ h q) q
  ok := fun F0 H0 F H σ ρ v d Q hh r q => by
    cases r with
    | nil => exact q.elim
    | cons hx hr =>
      refine ⟨_, _, rfl, ?_⟩
      refine h1.ok F0 H0 F H σ ρ _ _ _ hh hx (h1.mono _ _ _ _ (fun ρ' q σ' h' a => ?_) q)
      exact h2.ok F0 H0 F H σ' ρ' _ _ Q h' hr (h2.mono _ _ _ _ (fun ρ2 q σ2 h2 a2 => q σ2 h2 (a.trans a2)) q)
theorem gCons_len {g : DG} {r : DGs} {n : Nat} (h : ∀ xs ρ Q, r xs ρ Q → xs.length = n) (hm : ∀ d ρ (P : DL.Env → Prop), g d ρ P → ∃ ρ', P ρ') : ∀ xs ρ Q, DL.gCons g r xs ρ Q → xs.length = n + 1 := fun xs ρ Q q => by
  cases xs with
  | nil => exact q.elim
  | cons x ys =>
    obtain ⟨ρ', q'⟩ := hm x ρ _ q
    simp [h ys ρ' Q q']
/-- a tuple or a list -/
def gTL (K : Fg) (n : Nat) (t : TGs) : TG := fun v σ H Q => L2.gTup K n t v σ H Q ∨ L2.gUnl K n t v σ H Q
theorem pg_tl {X : Cx} {pos : Pos} {es : List Expr} {k : Nat} {t : TGs} {n : Nat} (hc : X.calm = true) (h : PGs X es t)
    (hn : (assignEach es X.env).length = n := by rfl) (hst : (assignEach es X.env).findIdx? (·.1) = none := by rfl) : PG X (.Tuple es k pos) (gTL X.K n t) :=
  ⟨fun pins s σ H v u Q I r hw => hw.elim (fun q => (pg_tup hc h hn hst).run pins s σ H v u Q I r q) fun q => (pg_unl hc h hn hst).run pins s σ H v u Q I r q⟩
theorem rfg_tup {js : List Nat} {gs : TGs} {ts : DGs} {n : Nat} (h : RfGs K cl js gs ts) (hn : ∀ xs ρ Q, ts xs ρ Q → xs.length = n) : RfG K cl js (gTL K n gs) (DL.gTup ts) where
  mono := fun d ρ P P' f q => by
    cases d <;> first | exact h.mono _ ρ _ _ f q | exact q.elim
  ok := fun F0 H0 F H σ ρ v d Q hh r q => by
    cases r with
    | tup e r =>
      refine .inl ⟨_, _, rfl, same_t hh.g.s e, ?_, h.ok F0 H0 F H σ ρ _ _ Q hh r q⟩
      rw [r.length]
      exact hn _ _ _ q
    | lst e r =>
      refine .inr ⟨_, _, rfl, .inl (.inl (hh.g.s _ _ e)), ?_, h.ok F0 H0 F H σ ρ _ _ Q hh r q⟩
      rw [r.length]
      exact hn _ _ _ q
    | _ => exact q.elim
/-! ### statements -/
theorem rfs_next : RfS K cl W L2.tNext DL.sNext where
  mono2 := fun E E' A B ρ hE l q => l.nx _ q
  ok := fun F0 H0 F H σ ρ E B A hh le ld q => ld.nx _ _ _ _ hh q
theorem rfs_seq {t u : TS} {a b : DS} (ha : RfS K cl W t a) (hb : RfS K cl W u b) : RfS K cl W (tSeq t u) (sSeq a b) where
  mono2 := fun E E' A B ρ hE l q => ha.mono2 E E' { A with nx := b E A } { B with nx := b E' B } ρ hE ⟨fun ρ q => hb.mono2 E E' A B ρ hE l q, l.rt, l.bk, l.ct, l.ro⟩ q
  ok := fun F0 H0 F H σ ρ E B A hh le ld q => ha.ok F0 H0 F H σ ρ E { B with nx := b E B } { A with nx := u A } hh le ⟨fun F1 H1 σ1 ρ1 h1 q1 => hb.ok F0 H0 F1 H1 σ1 ρ1 E B A h1 le ld q1, ld.bk, ld.ct, ld.rt, ld.ro⟩ q
theorem rfs_break : RfS K cl W L2.tBreak DL.sBreak where
  mono2 := fun E E' A B ρ hE l q => l.bk _ q
  ok := fun F0 H0 F H σ ρ E B A hh le ld q => ld.bk _ _ _ _ hh q
theorem rfs_cont : RfS K cl W L2.tCont DL.sCont where
  mono2 := fun E E' A B ρ hE l q => l.ct _ q
  ok := fun F0 H0 F H σ ρ E B A hh le ld q => ld.ct _ _ _ _ hh q
theorem rfs_drop {te : TE} {t : DT} (ha : RfE K cl W te t) : RfS K cl W (tDrop te) (sDrop t) where
  mono2 := fun E E' A B ρ hE l q => ha.mono2 E E' ρ _ _ hE (fun _ q => l.nx _ q) q
  ok := fun F0 H0 F H σ ρ E B A hh le ld q => ha.ok F0 H0 F H σ ρ E _ hh le (ha.mono E ρ _ _ (fun x q v F1 H1 g1 r1 => ld.nx _ _ _ _ (hh.grow g1) q) q)
theorem rfs_ret {te : TE} {t : DT} (hf : cl.fr = false) (ha : RfE K cl W te t) : RfS K cl W (tRet te) (sRet t) where
  mono2 := fun E E' A B ρ hE l q => ha.mono2 E E' ρ _ _ hE (fun _ q => l.rt _ q) q
  ok := fun F0 H0 F H σ ρ E B A hh le ld q => ha.ok F0 H0 F H σ ρ E _ hh le (ha.mono E ρ _ _ (fun x q v F1 H1 g1 r1 => ld.rt _ _ _ _ (hh.g.trans g1) (fun _ => r1) (fun z => by rw [hf] at z; cases z) q) q)
theorem rfs_retN (hf : cl.fr = false) : RfS K cl W tRetN sRetN where
  mono2 := fun E E' A B ρ hE l q => l.rt _ q
  ok := fun F0 H0 F H σ ρ E B A hh le ld q => ld.rt _ _ _ _ hh.g (fun _ => .non) (fun z => by rw [hf] at z; cases z) q
theorem rfs_retNew {te : TE} {t : DT} (hf : cl.fr = true) (ha : RfN K cl W te t) : RfS K cl W (tRet te) (sRet t) where
  mono2 := fun E E' A B ρ hE l q => ha.mono2 E E' ρ _ _ hE (fun _ q => l.rt _ q) q
  ok := fun F0 H0 F H σ ρ E B A hh le ld q => ha.ok F0 H0 F H σ ρ E _ hh le (ha.mono E ρ _ _ (fun d q p F1 H1 g1 n1 f1 w => ld.rt _ _ _ _ (hh.g.trans g1) (fun z => by rw [hf] at z; cases z) (fun _ => ⟨p, rfl, hh.g.k.free n1, f1, w⟩) q) q)
theorem rfs_if {tc : TT} {t u : TS} {c : DB} {a b : DS} (hc : RfB K cl W tc c) (ha : RfS K cl W t a) (hb : RfS K cl W u b) : RfS K cl W (tIfS tc t u) (sIf c a b) where
  mono2 := fun E E' A B ρ hE l q => hc.mono2 E E' ρ _ _ hE (fun k q => by
    cases k with
    | true => exact ha.mono2 E E' A B ρ hE l q
    | false => exact hb.mono2 E E' A B ρ hE l q) q
  ok := fun F0 H0 F H σ ρ E B A hh le ld q => hc.ok F0 H0 F H σ ρ E _ hh le (hc.mono E ρ _ _ (fun k q F1 H1 g1 => by
    cases k with
    | true => exact ha.ok F0 H0 F1 H1 σ ρ E B A (hh.grow g1) le ld q
    | false => exact hb.ok F0 H0 F1 H1 σ ρ E B A (hh.grow g1) le ld q) q)
theorem rfs_asg {js : List Nat} {te : TE} {t : DT} {g : TG} {d : DG} (ha : RfE K cl W te t) (hg : RfG K cl js g d) : RfS K cl W (tAsg te g) (sAsg t d) where
  mono2 := fun E E' A B ρ hE l q => ha.mono2 E E' ρ _ _ hE (fun x q => hg.mono x ρ _ _ (fun _ q => l.nx _ q) q) q
  ok := fun F0 H0 F H σ ρ E B A hh le ld q => ha.ok F0 H0 F H σ ρ E _ hh le (ha.mono E ρ _ _ (fun x q v F1 H1 g1 r1 =>
    hg.ok F0 H0 F1 H1 σ ρ v x _ (hh.grow g1) r1 (hg.mono x ρ _ _ (fun ρ' q σ' h' _ => ld.nx _ _ _ _ h' q) q)) q)
theorem rfs_set {i : Nat} {te : TE} {t : DT} (ha : RfE K cl W te t) : RfS K cl W (tAsg te (L2.gName i)) (sSet i t) := rfs_asg ha rfg_name
theorem rfs_own {i : Nat} {te : TE} {t : DT} (hpi : cl.pin i = none) (ha : RfN K cl W te t) : RfS K cl W (tAsg te (L2.gName i)) (sOwn i t) where
  mono2 := fun E E' A B ρ hE l q => ha.mono2 E E' ρ _ _ hE (fun x q => l.nx _ q) q
  ok := fun F0 H0 F H σ ρ E B A hh le ld q => ha.ok F0 H0 F H σ ρ E _ hh le (ha.mono E ρ _ _ (fun x q p F1 H1 g1 hp hf w => ld.nx _ _ _ _ (hh.own hpi g1 hp hf w) q) q)
theorem rfs_frz {i : Nat} {ts : TS} {t : DS} (h : RfS K cl W ts t) : RfS K cl W ts (sFrz i t) where
  mono2 := fun E E' A B ρ hE l q => h.mono2 E E' A B _ hE l q
  ok := fun F0 H0 F H σ ρ E B A hh le ld q => by
    obtain ⟨F', h'⟩ := hh.frz i
    exact h.ok F0 H0 F' H σ _ E B A h' le ld q
theorem rfs_fgt {js : List Nat} {ts : TS} {t : DS} (h : RfS K cl W ts t) : RfS K cl W ts (sFgt js t) where
  mono2 := fun E E' A B ρ hE l q => h.mono2 E E' A B _ hE l q
  ok := fun F0 H0 F H σ ρ E B A hh le ld q => h.ok F0 H0 F H σ _ E B A (hh.fgt js) le ld q
theorem rfs_par {i j : Nat} {ta : TA} {t : DA} (ha : RfA K cl W ta t) : RfS K cl W (tPar i j ta) (sPar i j t) where
  mono2 := fun E E' A B ρ hE l q => ha.mono2 E E' ρ _ _ hE (fun xs q => by
    match xs, q with
    | [x, y], q => exact l.nx _ q) q
  ok := fun F0 H0 F H σ ρ E B A hh le ld q => ha.ok F0 H0 F H σ ρ E _ hh le (ha.mono E ρ _ _ (fun xs q vs F1 H1 g1 r1 => by
    match xs, q, r1 with
    | [x, y], q, .cons a (.cons b .nil) => exact ⟨_, _, rfl, ld.nx _ _ _ _ (((hh.grow g1).set a).set b) q⟩) q)
/-- x op= e by data -/
structure RfIp (K : Fg) (cl : Cl) (r : TIp) (f : D → D → DK → Prop) : Prop where
  mono : ∀ x y (P P' : DK), (∀ d, P d → P' d) → f x y P → f x y P'
  ok : ∀ F H v u x y (Q : VK), Same F H → Rep K cl F v x → Rep K cl F u y → f x y (fun d => ∀ v' F' H', Gr F H F' H' → Rep K cl F' v' d → Q v' H') → r v u H Q
theorem rfs_aug {i : Nat} {te : TE} {t : DT} {r : TIp} {f : D → D → DK → Prop} (o : RfIp K cl r f) (ha : RfE K cl W te t) : RfS K cl W (tAug i te r) (sAug i f t) where
  mono2 := fun E E' A B ρ hE l q => by
    unfold sAug at q ⊢
    cases e : ρ[i]? with
    | none => rw [e] at q; exact q.elim
    | some s =>
      rw [e] at q
      cases s with
      | v x => exact ha.mono2 E E' ρ _ _ hE (fun y q => o.mono x y _ _ (fun z q => l.nx _ q) q) q
      | no => exact q.elim
      | o x => exact q.elim
  ok := fun F0 H0 F H σ ρ E B A hh le ld q => by
    unfold sAug at q
    cases e : ρ[i]? with
    | none => rw [e] at q; exact q.elim
    | some s =>
      rw [e] at q
      cases s with
      | no => exact q.elim
      | o x => exact q.elim
      | v x =>
        obtain ⟨v, e1, rv⟩ := hh.var e
        refine ⟨v, e1, ha.ok F0 H0 F H σ ρ E _ hh le (ha.mono E ρ _ _ (fun y q u F1 H1 g1 r1 => ?_) q)⟩
        refine o.ok F1 H1 v u x y _ g1.s (rv.mono g1.f) r1 (o.mono x y _ _ (fun z q w F2 H2 g2 r2 => ?_) q)
        exact ld.nx _ _ _ _ (((hh.grow g1).grow g2).set r2) q
/-! ### loops -/
theorem rfs_for {js : List Nat} {wi : TI} {it : DI} {g : TG} {d : DG} {tb : TS} {b : DS} (hi : RfI K cl W wi it) (hg : RfG K cl js g d) (hb : RfS K cl W tb b) : RfS K cl W (tFor wi g tb) (sFor it d b) where
  mono2 := fun E E' A B ρ hE l q => hi.mono2 E E' ρ _ _ hE (fun xs q => by
    have go : ∀ (xs : List D) (ρ : DL.Env), forL d b E A xs ρ → forL d b E' B xs ρ := by
      intro xs
      induction xs with
      | nil => intro ρ q; exact l.nx _ q
      | cons x r ih => intro ρ q; exact hg.mono x ρ _ _ (fun ρ' q => hb.mono2 E E' { nx := forL d b E A r, ct := forL d b E A r, bk := A.nx, rt := A.rt, ro := A.ro } { nx := forL d b E' B r, ct := forL d b E' B r, bk := B.nx, rt := B.rt, ro := B.ro } ρ' hE ⟨ih, l.rt, l.nx, ih, l.ro⟩ q) q
    exact go xs ρ q) q
  ok := fun F0 H0 F H σ ρ E B A hh le ld q => by
    refine hi.ok F0 H0 F H σ ρ E _ hh le (hi.mono E ρ _ _ (fun xs q J F1 H1 g1 wk => ?_) q)
    have hh1 := hh.grow g1
    have hb1 := hh1.rebase
    have le1 := le.rebase hh1.g
    have ld1 := ld.rebase hh1.g
    refine ⟨fun i m σ H => m = xs.length - i ∧ i ≤ xs.length ∧ ∃ F ρ, Hold K cl F1 (un F1 H0) F H σ ρ ∧ forL d b E B (xs.drop i) ρ, ⟨xs.length, by simp, Nat.zero_le _, F1, ρ, hb1, q⟩, ?_⟩
    rintro i m σ2 H2 ⟨rfl, hi2, F2, ρ2, h2, q2⟩
    have w2 := wk F2 H2 h2.g.f h2.g.s
    by_cases hlt : i < xs.length
    · have ed : xs.drop i = xs[i] :: xs.drop (i + 1) := List.drop_eq_getElem_cons hlt
      rw [ed] at q2
      obtain ⟨wg, wy⟩ := w2.2 i xs[i] (List.getElem?_eq_getElem hlt)
      refine .inr ⟨wg, fun σ' H' => ∃ F ρ, Hold K cl F1 (un F1 H0) F H' σ' ρ ∧ forL d b E B (xs.drop (i + 1)) ρ, fun σ' H' ⟨F', ρ', h', q'⟩ => ⟨xs.length - (i + 1), by omega, rfl, hlt, F', ρ', h', q'⟩, fun x H3 hy => ?_⟩
      obtain ⟨F3, g3, r3⟩ := wy x H3 hy
      refine hg.ok F1 (un F1 H0) F3 H3 σ2 ρ2 x xs[i] _ (h2.grow g3) r3 (hg.mono _ _ _ _ (fun ρ4 q4 σ4 h4 _ => ?_) q2)
      refine hb.ok F1 (un F1 H0) F3 H3 σ4 ρ4 E { nx := forL d b E B (xs.drop (i + 1)), ct := forL d b E B (xs.drop (i + 1)), bk := B.nx, rt := B.rt, ro := B.ro } _ h4 le1 ⟨fun F5 H5 σ5 ρ5 h5 q5 => ⟨F5, ρ5, h5, q5⟩, ld1.nx, fun F5 H5 σ5 ρ5 h5 q5 => ⟨F5, ρ5, h5, q5⟩, ld1.rt, ld1.ro⟩ q4
    · have e : i = xs.length := by omega
      subst e
      rw [List.drop_length] at q2
      exact .inl ⟨w2.1, ld1.nx _ _ _ _ h2 q2⟩
theorem rfs_while {tc : TT} {c : DB} {tb : TS} {b : DS} (hc : RfB K cl W tc c) (hb : RfS K cl W tb b) : RfS K cl W (tWhile tc tb) (sWhile c b) where
  mono2 := fun E E' A B ρ hE l q => by
    obtain ⟨n, q⟩ := q
    refine ⟨n, ?_⟩
    have go : ∀ (n : Nat) (ρ : DL.Env), whileN c b E A n ρ → whileN c b E' B n ρ := by
      intro n
      induction n with
      | zero => intro ρ q; exact q.elim
      | succ n ih => intro ρ q; exact hc.mono2 E E' ρ _ _ hE (fun k q => by
          cases k with
          | true => exact hb.mono2 E E' { nx := whileN c b E A n, ct := whileN c b E A n, bk := A.nx, rt := A.rt, ro := A.ro } { nx := whileN c b E' B n, ct := whileN c b E' B n, bk := B.nx, rt := B.rt, ro := B.ro } ρ hE ⟨ih, l.rt, l.nx, ih, l.ro⟩ q
          | false => exact l.nx _ q) q
    exact go n ρ q
  ok := fun F0 H0 F H σ ρ E B A hh le ld q => by
    obtain ⟨n, q⟩ := q
    refine ⟨fun m σ H => ∃ F ρ, Hold K cl F0 H0 F H σ ρ ∧ whileN c b E B m ρ, ⟨n, F, ρ, hh, q⟩, ?_⟩
    rintro m σ2 H2 ⟨F2, ρ2, h2, q2⟩
    cases m with
    | zero => exact q2.elim
    | succ m =>
      refine hc.ok F0 H0 F2 H2 σ2 ρ2 E _ h2 le (hc.mono E ρ2 _ _ (fun k q F3 H3 g3 => ?_) q2)
      cases k with
      | false => exact ld.nx _ _ _ _ (h2.grow g3) q
      | true =>
        refine ⟨fun σ' H' => ∃ F ρ, Hold K cl F0 H0 F H' σ' ρ ∧ whileN c b E B m ρ, fun σ' H' ⟨F', ρ', h', q'⟩ => ⟨m, Nat.lt_succ_self m, F', ρ', h', q'⟩, ?_⟩
        exact hb.ok F0 H0 F3 H3 σ2 ρ2 E { nx := whileN c b E B m, ct := whileN c b E B m, bk := B.nx, rt := B.rt, ro := B.ro } _ (h2.grow g3) le ⟨fun F5 H5 σ5 ρ5 h5 q5 => ⟨F5, ρ5, h5, q5⟩, ld.nx, fun F5 H5 σ5 ρ5 h5 q5 => ⟨F5, ρ5, h5, q5⟩, ld.rt, ld.ro⟩ q
end
end DL

/-! DFun: iterables, list comprehensions, lists of the def's own, calls of the text's defs, defs. -/
namespace DL
open PySem L2 PyProof.Rows
variable [TN]
section
variable {K : Fg} {cl : Cl} {W : WX} {F0 H0 F H F' H' : Hp} {σ σ' : L2.St} {ρ ρ' : DL.Env}
/-! ### what is walked -/
def iU (K : Fg) (tl : TE) : TI := fun σ H R => tl σ H fun x H1 => (∃ a, x = .ref a ∧ (∃ xs, SqL K H1 a xs) ∧ R (Itl K a) H1) ∨ (∃ a, x = .ref a ∧ (∃ xs, SqT K H1 a xs) ∧ R (Itt K a) H1) ∨ ∃ z, x = .str z ∧ R (Its z) H1
theorem pi_U {X : Cx} {tg l : Expr} {tl : TE} (hl : PE X l tl) : PI X tg l (iU X.K tl) := by
  refine ⟨fun pins s σ H R I h => ?_⟩
  refine thn (hl.run pins s σ H _ I h) fun v s1 ⟨x, H1, I1, r1, q1⟩ => ?_
  rcases q1 with ⟨a, e, ⟨xs, hq⟩, q⟩ | ⟨a, e, ⟨xs, hq⟩, q⟩ | ⟨z, e, q⟩
  · subst e
    cases r1
    obtain ⟨its, rv, p, hz⟩ := I1.list hq
    refine wpAny_pyIter_list p.isList ?_
    refine ⟨s1.heap.objs.size, [s1.heap.objs.size], _, _, H1, rfl, I1.kept (t' := s1.toks) fun b o e => Heap.get?_push_of_some _ e, turn_list a _, ⟨_, Heap.get?_push_size _ rfl, rfl, rfl⟩, fun b hb => ?_, q⟩
    have e : b = s1.heap.objs.size := by simpa using hb
    subst e
    exact I1.fpOk (Nat.le_refl _) (I1.hok.fresh (Nat.le_refl _))
  · subst e
    cases r1
    obtain ⟨its, rv, p, hz⟩ := I1.tuple hq
    refine wpAny_pyIter_tuple (show s1.heap.IsTuple a its.toArray from p) ?_
    refine ⟨s1.heap.objs.size, [s1.heap.objs.size], _, _, H1, rfl, I1.kept (t' := s1.toks) fun b o e => Heap.get?_push_of_some _ e, turn_tuple a _, ⟨_, Heap.get?_push_size _ rfl, rfl, rfl⟩, fun b hb => ?_, q⟩
    have e : b = s1.heap.objs.size := by simpa using hb
    subst e
    exact I1.fpOk (Nat.le_refl _) (I1.hok.fresh (Nat.le_refl _))
  · subst e
    obtain ⟨t, rfl⟩ := r1
    cases ha : z.cps.all (· < 128)
    · exact wpAny_pyIter_wide ha (pi_one (tk := s1.toks) I1 _ (turn_str _ z t "str_iterator" (.inr rfl)) ⟨_, Heap.get?_push_size _ rfl, rfl, rfl⟩ q)
    · exact wpAny_pyIter_ascii ha (pi_one (tk := s1.toks) I1 _ (turn_str _ z t "str_ascii_iterator" (.inl rfl)) ⟨_, Heap.get?_push_size _ rfl, rfl, rfl⟩ q)
theorem walk_lst {a : Addr} {vs : List V} {ds : List D} (e : F a = some (.lst vs)) (r : Reps K cl F vs ds) : WalkD K cl (Itl K a) F ds := fun F2 H2 f2 s2 => by
  have hl : SqL K H2 a vs := SqL.of (s2 _ _ (f2 _ _ e))
  refine ⟨⟨vs, hl, by rw [r.length]; exact Nat.le_refl _⟩, fun i d hd => ?_⟩
  obtain ⟨v, e1, rv⟩ := r.get hd
  refine ⟨⟨vs, v, hl, e1⟩, fun x H3 ⟨q1, q2⟩ => ?_⟩
  subst q1
  have := q2 vs hl
  rw [e1] at this
  cases this
  exact ⟨F2, Gr.refl s2, rv.mono f2⟩
theorem walk_tup {a : Addr} {vs : List V} {ds : List D} (e : SqT K F a vs) (r : Reps K cl F vs ds) : WalkD K cl (Itt K a) F ds := fun F2 H2 f2 s2 => by
  have hl : SqT K H2 a vs := same_t s2 (same_t f2 e)
  refine ⟨⟨vs, hl, by rw [r.length]; exact Nat.le_refl _⟩, fun i d hd => ?_⟩
  obtain ⟨v, e1, rv⟩ := r.get hd
  refine ⟨⟨vs, v, hl, e1⟩, fun x H3 ⟨q1, q2⟩ => ?_⟩
  subst q1
  have := q2 vs hl
  rw [e1] at this
  cases this
  exact ⟨F2, Gr.refl s2, rv.mono f2⟩
theorem walk_str {z : Str} : WalkD K cl (Its z) F (z.cps.toList.map fun c => .str ⟨#[c]⟩) := fun F2 H2 f2 s2 => by
  refine ⟨show z.cps.size ≤ _ by simp, fun i d hd => ?_⟩
  rw [List.getElem?_map] at hd
  cases e : z.cps.toList[i]? with
  | none => rw [e] at hd; cases hd
  | some c =>
    rw [e] at hd
    cases hd
    have hi : i < z.cps.size := by
      have := (List.getElem?_eq_some_iff.mp e).1
      simpa using this
    refine ⟨hi, fun x H3 ⟨q1, c', q2, q3⟩ => ?_⟩
    subst q1
    have : z.cps.toList[i]? = some c' := by simpa using q2
    rw [e] at this
    cases this
    exact ⟨F2, Gr.refl s2, by rw [q3]; exact .str _⟩
theorem rng_get {lo : Int} {n i : Nat} {d : D} (h : (rng lo n)[i]? = some d) : i < n ∧ d = .int (lo + (i : Nat)) := by
  unfold rng at h
  rw [List.getElem?_map] at h
  cases e : (List.range n)[i]? with
  | none => rw [e] at h; cases h
  | some k =>
    rw [e] at h
    have hi := List.getElem?_eq_some_iff.mp e
    obtain ⟨hlt, hk⟩ := hi
    rw [List.length_range] at hlt
    rw [List.getElem_range] at hk
    subst hk
    exact ⟨hlt, (Option.some.inj h).symm⟩
theorem rng_len (lo : Int) (n : Nat) : (rng lo n).length = n := by unfold rng; simp
theorem walk_rng {lo : Int} {n : Nat} : WalkD K cl (Itr lo n) F (rng lo n) := fun F2 H2 f2 s2 => by
  refine ⟨show n ≤ _ by rw [rng_len]; exact Nat.le_refl _, fun i d hd => ?_⟩
  obtain ⟨hi, rfl⟩ := rng_get hd
  refine ⟨hi, fun x H3 ⟨q1, q2⟩ => ?_⟩
  subst q1
  exact ⟨F2, Gr.refl s2, by rw [q2]; exact .int _⟩
theorem rfi_seq {te : TE} {t : DT} (ha : RfE K cl W te t) : RfI K cl W (iU K te) (iSeq t) where
  mono2 := fun E E' ρ P P' hE h q => ha.mono2 E E' ρ _ _ hE (fun x q => by cases x <;> first | exact h _ q | exact q.elim) q
  ok := fun F0 H0 F H σ ρ E R hh le q => by
    refine ha.ok F0 H0 F H σ ρ E _ hh le (ha.mono E ρ _ _ (fun x q v F1 H1 g1 r1 => ?_) q)
    cases r1 with
    | lst e r => exact .inl ⟨_, rfl, ⟨_, SqL.of (g1.s _ _ e)⟩, q _ F1 H1 g1 (walk_lst e r)⟩
    | tup e r => exact .inr (.inl ⟨_, rfl, ⟨_, same_t g1.s e⟩, q _ F1 H1 g1 (walk_tup e r)⟩)
    | str z => exact .inr (.inr ⟨z, rfl, q _ F1 H1 g1 walk_str⟩)
    | _ => exact q.elim
theorem rfi_rng1 {ta : TA} {t : DA} (ha : RfA K cl W ta t) : RfI K cl W (L2.iRng1 ta) (DL.iRng1 t) where
  mono2 := fun E E' ρ P P' hE h q => ha.mono2 E E' ρ _ _ hE (fun xs q => by
    match xs, q with
    | [.int j], q => exact ⟨q.1, q.2.1, h _ q.2.2⟩) q
  ok := fun F0 H0 F H σ ρ E R hh le q => by
    refine ha.ok F0 H0 F H σ ρ E _ hh le (ha.mono E ρ _ _ (fun xs q v F1 H1 g1 r1 => ?_) q)
    match xs, q, r1 with
    | [.int j], q, .cons (.int _) .nil => exact ⟨j, rfl, q.1, q.2.1, q.2.2 _ F1 H1 g1 walk_rng⟩
theorem rfi_rng2 {ta : TA} {t : DA} (ha : RfA K cl W ta t) : RfI K cl W (L2.iRng2 ta) (DL.iRng2 t) where
  mono2 := fun E E' ρ P P' hE h q => ha.mono2 E E' ρ _ _ hE (fun xs q => by
    match xs, q with
    | [.int i, .int j], q => exact ⟨q.1, h _ q.2⟩) q
  ok := fun F0 H0 F H σ ρ E R hh le q => by
    refine ha.ok F0 H0 F H σ ρ E _ hh le (ha.mono E ρ _ _ (fun xs q v F1 H1 g1 r1 => ?_) q)
    match xs, q, r1 with
    | [.int i, .int j], q, .cons (.int _) (.cons (.int _) .nil) => exact ⟨i, j, rfl, q.1, q.2 _ F1 H1 g1 walk_rng⟩

/-! ### enumerate, zip, reversed -/
theorem enum_get {ds : List D} {i : Nat} {d : D} (h : (enumD ds)[i]? = some d) : ∃ x, ds[i]? = some x ∧ d = .tup [.int (i : Nat), x] := by
  unfold enumD at h
  rw [List.getElem?_map, List.getElem?_zipIdx] at h
  cases e : ds[i]? with
  | none => rw [e] at h; cases h
  | some x =>
    rw [e] at h
    refine ⟨x, rfl, ?_⟩
    have := Option.some.inj h
    rw [← this]
    simp
theorem enum_len (ds : List D) : (enumD ds).length = ds.length := by simp [enumD]
theorem zip_get {ds es : List D} {i : Nat} {d : D} (h : (zipD ds es)[i]? = some d) : ∃ x y, ds[i]? = some x ∧ es[i]? = some y ∧ d = .tup [x, y] := by
  unfold zipD at h
  rw [List.getElem?_map] at h
  cases e : (ds.zip es)[i]? with
  | none => rw [e] at h; cases h
  | some p =>
    rw [e] at h
    obtain ⟨h1, h2⟩ := List.getElem?_zip_eq_some.mp e
    exact ⟨p.1, p.2, h1, h2, (Option.some.inj h).symm⟩
theorem zip_len (ds es : List D) : (zipD ds es).length = min ds.length es.length := by simp [zipD]
theorem walk_enum {a : Addr} {vs : List V} {ds : List D} (e : F a = some (.lst vs)) (r : Reps K cl F vs ds) : WalkD K cl (Ite K a) F (enumD ds) := fun F2 H2 f2 s2 => by
  have hl : SqL K H2 a vs := SqL.of (s2 _ _ (f2 _ _ e))
  refine ⟨⟨vs, hl, by rw [enum_len, r.length]; exact Nat.le_refl _⟩, fun i d hd => ?_⟩
  obtain ⟨x, hx, rfl⟩ := enum_get hd
  obtain ⟨v, e1, rv⟩ := r.get hx
  refine ⟨⟨vs, v, hl, e1⟩, fun u H3 ⟨T, y, q0, q1, q2, q3⟩ => ?_⟩
  have := q3 vs hl
  rw [e1] at this
  cases this
  subst q2 q0
  exact ⟨upd F2 T (.tup [.int (i : Nat), v]), Gr.new s2 q1, .tup (.inl (.inl upd_same)) (.cons (.int _) (.cons ((rv.mono f2).mono (same_upd (s2.free q1))) .nil))⟩
theorem walk_zip {a b : Addr} {vs us : List V} {ds es : List D} (e : F a = some (.lst vs)) (r : Reps K cl F vs ds) (e' : F b = some (.lst us)) (r' : Reps K cl F us es) : WalkD K cl (Itz K a b) F (zipD ds es) := fun F2 H2 f2 s2 => by
  have hl : SqL K H2 a vs := SqL.of (s2 _ _ (f2 _ _ e))
  have hl' : SqL K H2 b us := SqL.of (s2 _ _ (f2 _ _ e'))
  refine ⟨⟨vs, us, hl, hl', by rw [zip_len, r.length, r'.length]; omega⟩, fun i d hd => ?_⟩
  obtain ⟨x, y, hx, hy, rfl⟩ := zip_get hd
  obtain ⟨v, e1, rv⟩ := r.get hx
  obtain ⟨u, e2, ru⟩ := r'.get hy
  refine ⟨⟨vs, us, v, u, hl, hl', e1, e2⟩, fun w H3 ⟨T, z1, z2, q0, q1, q2, q3, q4⟩ => ?_⟩
  have := q3 vs hl
  rw [e1] at this
  cases this
  have := q4 us hl'
  rw [e2] at this
  cases this
  subst q2 q0
  exact ⟨upd F2 T (.tup [v, u]), Gr.new s2 q1, .tup (.inl (.inl upd_same)) (.cons ((rv.mono f2).mono (same_upd (s2.free q1))) (.cons ((ru.mono f2).mono (same_upd (s2.free q1))) .nil))⟩
theorem walk_zipT {a b : Addr} {vs us : List V} {ds es : List D} (e : SqT K F a vs) (r : Reps K cl F vs ds) (e' : SqT K F b us) (r' : Reps K cl F us es) : WalkD K cl (RZ.ItzT K a b) F (zipD ds es) := fun F2 H2 f2 s2 => by
  have hl : SqT K H2 a vs := same_t s2 (same_t f2 e)
  have hl' : SqT K H2 b us := same_t s2 (same_t f2 e')
  refine ⟨⟨vs, us, hl, hl', by rw [zip_len, r.length, r'.length]; omega⟩, fun i d hd => ?_⟩
  obtain ⟨x, y, hx, hy, rfl⟩ := zip_get hd
  obtain ⟨v, e1, rv⟩ := r.get hx
  obtain ⟨u, e2, ru⟩ := r'.get hy
  refine ⟨⟨vs, us, v, u, hl, hl', e1, e2⟩, fun w H3 ⟨T, z1, z2, q0, q1, q2, q3, q4⟩ => ?_⟩
  have := q3 vs hl
  rw [e1] at this
  cases this
  have := q4 us hl'
  rw [e2] at this
  cases this
  subst q2 q0
  exact ⟨upd F2 T (.tup [v, u]), Gr.new s2 q1, .tup (.inl (.inl upd_same)) (.cons ((rv.mono f2).mono (same_upd (s2.free q1))) (.cons ((ru.mono f2).mono (same_upd (s2.free q1))) .nil))⟩
theorem rev_get {ds : List D} {i : Nat} {d : D} (h : ds.reverse[i]? = some d) : i < ds.length ∧ ds[ds.length - 1 - i]? = some d := by
  have hi := (List.getElem?_eq_some_iff.mp h).1
  rw [List.length_reverse] at hi
  rw [List.getElem?_reverse hi] at h
  exact ⟨hi, h⟩
theorem walk_rev {a : Addr} {vs : List V} {ds : List D} (e : F a = some (.lst vs)) (r : Reps K cl F vs ds) : WalkD K cl (Itv K a vs.length) F ds.reverse := fun F2 H2 f2 s2 => by
  have hl : SqL K H2 a vs := SqL.of (s2 _ _ (f2 _ _ e))
  refine ⟨show vs.length ≤ _ by rw [List.length_reverse, r.length]; exact Nat.le_refl _, fun i d hd => ?_⟩
  obtain ⟨hi, hd⟩ := rev_get hd
  obtain ⟨v, e1, rv⟩ := r.get hd
  rw [← r.length] at e1 hi
  refine ⟨⟨hi, vs, v, hl, e1⟩, fun x H3 ⟨q1, q2⟩ => ?_⟩
  subst q1
  have := q2 vs hl
  rw [e1] at this
  cases this
  exact ⟨F2, Gr.refl s2, rv.mono f2⟩
theorem walk_revT {a : Addr} {vs : List V} {ds : List D} (e : SqT K F a vs) (r : Reps K cl F vs ds) : WalkD K cl (RT.ItvT K a vs.length) F ds.reverse := fun F2 H2 f2 s2 => by
  have hl : SqT K H2 a vs := same_t s2 (same_t f2 e)
  refine ⟨show vs.length ≤ _ by rw [List.length_reverse, r.length]; exact Nat.le_refl _, fun i d hd => ?_⟩
  obtain ⟨hi, hd⟩ := rev_get hd
  obtain ⟨v, e1, rv⟩ := r.get hd
  rw [← r.length] at e1 hi
  refine ⟨⟨hi, vs, v, hl, e1⟩, fun x H3 ⟨q1, q2⟩ => ?_⟩
  subst q1
  have := q2 vs hl
  rw [e1] at this
  cases this
  exact ⟨F2, Gr.refl s2, rv.mono f2⟩
theorem rfi_enum {ta : TA} {t : DA} (ha : RfA K cl W ta t) : RfI K cl W (L2.iEnum K ta) (DL.iEnum t) where
  mono2 := fun E E' ρ P P' hE h q => ha.mono2 E E' ρ _ _ hE (fun xs q => by
    match xs, q with
    | [.lst l], q => exact h _ q) q
  ok := fun F0 H0 F H σ ρ E R hh le q => by
    refine ha.ok F0 H0 F H σ ρ E _ hh le (ha.mono E ρ _ _ (fun xs q v F1 H1 g1 r1 => ?_) q)
    match xs, q, r1 with
    | [.lst l], q, .cons (.lst e r) .nil => exact ⟨_, _, rfl, SqL.of (g1.s _ _ e), q _ F1 H1 g1 (walk_enum e r)⟩
theorem rfi_zip {ta : TA} {t : DA} (ha : RfA K cl W ta t) : RfI K cl W (RZ.iZipA K ta) (DL.iZip t) where
  mono2 := fun E E' ρ P P' hE h q => ha.mono2 E E' ρ _ _ hE (fun xs q => by
    match xs, q with
    | [.lst _, .lst _], q => exact h _ q
    | [.tup _, .tup _], q => exact h _ q) q
  ok := fun F0 H0 F H σ ρ E R hh le q => by
    refine ha.ok F0 H0 F H σ ρ E _ hh le (ha.mono E ρ _ _ (fun xs q v F1 H1 g1 r1 => ?_) q)
    match xs, q, r1 with
    | [.lst _, .lst _], q, .cons (.lst e r) (.cons (.lst e' r') .nil) => exact ⟨_, _, _, _, rfl, .inl ⟨SqL.of (g1.s _ _ e), SqL.of (g1.s _ _ e'), q _ F1 H1 g1 (walk_zip e r e' r')⟩⟩
    | [.tup _, .tup _], q, .cons (.tup e r) (.cons (.tup e' r') .nil) => exact ⟨_, _, _, _, rfl, .inr ⟨same_t g1.s e, same_t g1.s e', q _ F1 H1 g1 (walk_zipT e r e' r')⟩⟩
theorem rfi_rev {te : TE} {t : DT} (ha : RfE K cl W te t) : RfI K cl W (RT.iRevA K te) (DL.iRev t) where
  mono2 := fun E E' ρ P P' hE h q => ha.mono2 E E' ρ _ _ hE (fun x q => by cases x <;> first | exact h _ q | exact q.elim) q
  ok := fun F0 H0 F H σ ρ E R hh le q => by
    refine ha.ok F0 H0 F H σ ρ E _ hh le (ha.mono E ρ _ _ (fun x q v F1 H1 g1 r1 => ?_) q)
    cases r1 with
    | lst e r => exact ⟨_, _, rfl, .inl ⟨SqL.of (g1.s _ _ e), q _ F1 H1 g1 (walk_rev e r)⟩⟩
    | tup e r => exact ⟨_, _, rfl, .inr ⟨same_t g1.s e, q _ F1 H1 g1 (walk_revT e r)⟩⟩
    | _ => exact q.elim
/-! ### list comprehensions -/
theorem wipe_same {js : List Nat} : ∀ {vs : List Nat} {σ σ' : L2.St}, Agree js σ σ' → (∀ j ∈ js, j ∈ vs) → wipe σ' vs = wipe σ vs := by
  have key : ∀ (vs : List Nat) (σ : L2.St) (i : Nat), i ∈ vs → i < σ.length → (wipe σ vs)[i]? = some none := by
    intro vs σ i hi hl
    have hl' : i < (wipe σ vs).length := by rw [wipe_length]; exact hl
    rw [List.getElem?_eq_getElem hl']
    cases e : (wipe σ vs)[i] with
    | none => rfl
    | some x =>
      have q : (wipe σ vs)[i]? = some (some x) := by rw [List.getElem?_eq_getElem hl', e]
      exact absurd hi (wipe_some q).2
  intro vs σ σ' a h
  apply List.ext_getElem?
  intro i
  by_cases hi : i ∈ vs
  · by_cases hl : i < σ.length
    · rw [key vs σ i hi hl, key vs σ' i hi (by rw [a.1]; exact hl)]
    · have e1 : (wipe σ vs)[i]? = none := by
        rw [List.getElem?_eq_none_iff, wipe_length]
        omega
      have e2 : (wipe σ' vs)[i]? = none := by
        rw [List.getElem?_eq_none_iff, wipe_length, a.1]
        omega
      rw [e1, e2]
  · rw [wipe_out hi, wipe_out hi]
    exact a.2 i fun z => hi (h i z)
theorem wipe_at (σ : L2.St) : ∀ (vs : List Nat) (i : Nat), i ∉ vs → (wipe σ vs)[i]? = σ[i]? := fun vs i h => wipe_out h
theorem noOwn_o {ρ : DL.Env} (i : Nat) (d : D) : (noOwn ρ)[i]? ≠ some (.o d) := by
  unfold noOwn
  rw [List.getElem?_map]
  cases ρ[i]? with
  | none => simp
  | some u => cases u <;> simp
theorem Hold.wipe {vs : List Nat} (h : Hold K cl F0 H0 F H σ ρ) : Hold K cl F H F H (L2.wipe σ vs) (noOwn (wipeE ρ vs)) := by
  have hw : ∀ (vs : List Nat) (ρ : DL.Env) (i : Nat) d, (wipeE ρ vs)[i]? = some (.v d) → i ∉ vs ∧ ρ[i]? = some (.v d) := by
    intro vs
    induction vs with
    | nil => intro ρ i d q; exact ⟨by simp, q⟩
    | cons v r ih =>
      intro ρ i d q
      obtain ⟨h1, h2⟩ := ih (ρ.set v .no) i d q
      by_cases hv : v = i
      · subst hv
        have hl : v < ρ.length := by
          have := (List.getElem?_eq_some_iff.mp h2).1
          simpa using this
        rw [List.getElem?_set_self hl] at h2
        cases h2
      · rw [List.getElem?_set_ne hv] at h2
        exact ⟨by simp [h1, Ne.symm hv], h2⟩
  have hlen : ∀ (vs : List Nat) (ρ : DL.Env), (wipeE ρ vs).length = ρ.length := by
    intro vs
    induction vs with
    | nil => intro ρ; rfl
    | cons v r ih => intro ρ; exact (ih _).trans (by simp)
  obtain ⟨θ, hs, hd⟩ := h.sl
  refine ⟨Gr.refl h.g.s, h.tb, by rw [wipe_length, h.len]; simp [noOwn, hlen], θ, fun i s e => ?_, fun i j di dj e1 e2 => ?_, fun i a d _ e2 => absurd e2 (noOwn_o i d)⟩
  · unfold noOwn at e
    rw [List.getElem?_map] at e
    cases q : (wipeE ρ vs)[i]? with
    | none => rw [q] at e; cases e
    | some u =>
      rw [q] at e
      cases u with
      | no => cases e; trivial
      | o d => cases e; trivial
      | v d =>
        cases e
        obtain ⟨h1, h2⟩ := hw vs ρ i d q
        obtain ⟨v, e1, r⟩ := hs i _ h2
        exact ⟨v, by rw [wipe_out h1]; exact e1, r⟩
  · exfalso
    unfold noOwn at e1
    rw [List.getElem?_map] at e1
    cases q : (wipeE ρ vs)[i]? with
    | none => rw [q] at e1; cases e1
    | some u => rw [q] at e1; cases u <;> cases e1
/-- the new list grows -/
theorem Hold.list {D0 : Addr} {o : HO} (h : Hold K cl F0 H0 F H σ ρ) (hn : ∀ (i : Nat) (d : D), ρ[i]? ≠ some (Sl.o d)) (hD : F D0 = none) (hD0 : H0 D0 = none) (nt : NT H D0) (no : ∀ ps, o ≠ .tbl ps := by intro _ z; cases z) : Hold K cl F0 H0 F (upd H D0 o) σ ρ := by
  obtain ⟨θ, hs, hd⟩ := h.sl
  refine ⟨⟨h.g.f, h.g.k.put hD0 nt no, fun p u e => ?_, h.g.n, h.g.w, h.g.v⟩, h.tb.put nt no, h.len, θ, fun i s e => ?_, hd⟩
  · rw [upd_ne (ne_of_none e hD)]
    exact h.g.s p u e
  · have q := hs i s e
    cases s with
    | no => trivial
    | v d => exact q
    | o d => exact absurd e (hn i d)
theorem rfb_yes : RfB K cl W tYes bYes where
  mono2 := fun E E' ρ P P' hE h q => h _ q
  ok := fun F0 H0 F H σ ρ E Q hh le q => q F H (Gr.refl hh.g.s)
/-- a target keeps what it does not name: no own objects come up -/
structure NoO (g : DG) : Prop where
  k : ∀ (d : D) (ρ : DL.Env) (P : DL.Env → Prop), (∀ (i : Nat) (e : D), ρ[i]? ≠ some (Sl.o e)) → g d ρ P → g d ρ fun ρ' => (∀ (i : Nat) (e : D), ρ'[i]? ≠ some (Sl.o e)) ∧ P ρ'
theorem noO_name {i : Nat} : NoO (DL.gName i) := ⟨fun d ρ P h q => ⟨fun j e z => by
  by_cases hj : i = j
  · subst hj
    have hl : i < ρ.length := by
      have := (List.getElem?_eq_some_iff.mp z).1
      simpa using this
    rw [List.getElem?_set_self hl] at z
    cases z
  · rw [List.getElem?_set_ne hj] at z
    exact h j e z, q⟩⟩
structure NoOs (g : DGs) : Prop where
  k : ∀ (d : List D) (ρ : DL.Env) (P : DL.Env → Prop), (∀ (i : Nat) (e : D), ρ[i]? ≠ some (Sl.o e)) → g d ρ P → g d ρ fun ρ' => (∀ (i : Nat) (e : D), ρ'[i]? ≠ some (Sl.o e)) ∧ P ρ'
theorem noOs_nil : NoOs DL.gNil := ⟨fun d ρ P h q => ⟨q.1, h, q.2⟩⟩
theorem noOs_cons {g : DG} {r : DGs} (m : ∀ d ρ (P P' : DL.Env → Prop), (∀ ρ, P ρ → P' ρ) → g d ρ P → g d ρ P') (h1 : NoO g) (h2 : NoOs r) : NoOs (DL.gCons g r) := ⟨fun d ρ P h q => by
  cases d with
  | nil => exact q.elim
  | cons x ys => exact m _ _ _ _ (fun ρ' q => h2.k _ _ _ q.1 q.2) (h1.k _ _ _ h q)⟩
theorem noO_tup {r : DGs} (h : NoOs r) : NoO (DL.gTup r) := ⟨fun d ρ P hh q => by
  cases d <;> first | exact h.k _ _ _ hh q | exact q.elim⟩
theorem rfn_lc {js vs : List Nat} {wi : TI} {it : DI} {g : TG} {d : DG} {tt : TT} {t : DB} {te : TE} {e : DT} (hi : RfI K cl W wi it) (hg : RfG K cl js g d) (hn : NoO d) (hjs : ∀ j ∈ js, j ∈ vs)
    (ht : RfB K cl (fun _ _ _ _ => False) tt t) (he : RfE K cl (fun _ _ _ _ => False) te e) : RfN K cl W (tLc wi g tt te vs) (dLc it d t e vs) where
  mono2 := fun E E' ρ P P' hE h q => hi.mono2 E E' ρ _ _ hE (fun xs q => by
    have go : ∀ (xs : List D) (ρ : DL.Env) (acc : List D) (Q Q' : List D → Prop), (∀ r, Q r → Q' r) → lcL d t e ρ xs acc Q → lcL d t e ρ xs acc Q' := by
      intro xs
      induction xs with
      | nil => intro ρ acc Q Q' hQ q; exact hQ _ q
      | cons x r ih =>
        intro ρ acc Q Q' hQ q
        refine hg.mono x ρ _ _ (fun ρ' q => ht.mono noE ρ' _ _ (fun k q => ?_) q) q
        cases k with
        | true => exact he.mono noE ρ' _ _ (fun y q => ⟨q.1, ih ρ _ Q Q' hQ q.2⟩) q
        | false => exact ih ρ _ Q Q' hQ q
    exact go xs _ _ _ _ (fun r q => h _ q) q) q
  ok := fun F0 H0 F H σ ρ E Q hh le q => by
    refine hi.ok F0 H0 F H σ ρ E _ hh le (hi.mono E ρ _ _ (fun xs q J F1 H1 g1 wk D0 hD => ?_) q)
    have hh1 := hh.grow g1
    have hb := hh1.wipe (vs := vs)
    have hF1 : F1 D0 = none := g1.s.free hD
    have leN : ∀ {A B : Hp}, LinkE K cl A B (fun _ _ _ _ => False) noE := fun {A B} err ρ σ F H c dx _ z _ => z.elim
    refine ⟨fun i m H => m = xs.length - i ∧ i ≤ xs.length ∧ ∃ F acc accd, Hold K cl F1 H1 F H (wipe σ vs) (noOwn (wipeE ρ vs)) ∧ F D0 = none ∧ H D0 = some (.lst acc) ∧ Reps K cl F acc accd ∧
      lcL d t e (noOwn (wipeE ρ vs)) (xs.drop i) accd (fun r => ∀ p F' H', Gr F1 H1 F' H' → H1 p = none → F' p = none → Own K cl F' H' p (.lst r) → Q (.ref p) H'),
      ⟨xs.length, by simp, Nat.zero_le _, F1, [], [], hb.list (fun i d => noOwn_o i d) hF1 hD (.free hD), hF1, upd_same, .nil, ?_⟩, ?_⟩
    · have go : ∀ (xs : List D) (ρ : DL.Env) (acc : List D) (Q Q' : List D → Prop), (∀ r, Q r → Q' r) → lcL d t e ρ xs acc Q → lcL d t e ρ xs acc Q' := by
        intro xs
        induction xs with
        | nil => intro ρ acc Q Q' hQ q; exact hQ _ q
        | cons x r ih =>
          intro ρ acc Q Q' hQ q
          refine hg.mono x ρ _ _ (fun ρ' q => ht.mono noE ρ' _ _ (fun k q => ?_) q) q
          cases k with
          | true => exact he.mono noE ρ' _ _ (fun y q => ⟨q.1, ih ρ _ Q Q' hQ q.2⟩) q
          | false => exact ih ρ _ Q Q' hQ q
      exact go xs _ _ _ _ (fun r q p F' H' g2 h1 h2 h3 => q p F' H' (g1.trans g2) (g1.k.free h1) h2 h3) q
    · rintro i m H2 ⟨rfl, hi2, F2, acc, accd, h2, hF2, hD2, ra, q2⟩
      have w2 := wk F2 H2 h2.g.f h2.g.s
      by_cases hlt : i < xs.length
      · have ed : xs.drop i = xs[i] :: xs.drop (i + 1) := List.drop_eq_getElem_cons hlt
        rw [ed] at q2
        obtain ⟨wg, wy⟩ := w2.2 i xs[i] (List.getElem?_eq_getElem hlt)
        refine .inr ⟨wg, fun H' => ∃ F acc accd, Hold K cl F1 H1 F H' (wipe σ vs) (noOwn (wipeE ρ vs)) ∧ F D0 = none ∧ H' D0 = some (.lst acc) ∧ Reps K cl F acc accd ∧
          lcL d t e (noOwn (wipeE ρ vs)) (xs.drop (i + 1)) accd (fun r => ∀ p F' H', Gr F1 H1 F' H' → H1 p = none → F' p = none → Own K cl F' H' p (.lst r) → Q (.ref p) H'), fun H' ⟨F', a', ad', x1, x2, x3, x4, x5⟩ => ⟨xs.length - (i + 1), by omega, rfl, hlt, F', a', ad', x1, x2, x3, x4, x5⟩, fun x H3 hy => ?_⟩
        obtain ⟨F3, g3, r3⟩ := wy x H3 hy
        have h3 := h2.grow g3
        have n3 : F3 D0 = none := g3.keepNone hD2 hF2
        have q2' := hn.k _ _ _ (fun i d => noOwn_o i d) q2
        refine hg.ok F1 H1 F3 H3 _ _ x xs[i] _ h3 r3 (hg.mono _ _ _ _ (fun ρ4 q4 σ4 h4 ag => ?_) q2')
        obtain ⟨no4, q4⟩ := q4
        refine ⟨(wipe_same ag hjs).trans ?_, ?_⟩
        · have := wipe_same (vs := vs) (js := vs) (σ := σ) (σ' := wipe σ vs) ⟨wipe_length _ _, fun i hi => wipe_out hi⟩ (fun j hj => hj)
          exact this
        refine ht.ok F1 H1 F3 H3 σ4 ρ4 noE _ h4 leN (ht.mono noE ρ4 _ _ (fun k q F4 H4 g4 => ?_) q4)
        have h4' := h3.grow g4
        have n4 : F4 D0 = none := g4.keepNone (g3.k.get hD2) n3
        have e4 : H4 D0 = some (.lst acc) := g4.k.get (g3.k.get hD2)
        cases k with
        | false =>
          exact ⟨F4, acc, accd, h4', n4, e4, (ra.mono g3.f).mono g4.f, q⟩
        | true =>
          refine he.ok F1 H1 F4 H4 σ4 ρ4 noE _ (h4.grow g4) leN (he.mono noE ρ4 _ _ (fun y q v F5 H5 g5 r5 => ?_) q)
          have n5 : F5 D0 = none := g5.keepNone e4 n4
          have e5 : H5 D0 = some (.lst acc) := g5.k.get e4
          refine ⟨acc, e5, by rw [ra.length, ← line_eq]; exact q.1, F5, acc ++ [v], accd ++ [y], (h4'.grow g5).list (fun i d => noOwn_o i d) n5 hD (.at e5), n5, upd_same, (((ra.mono g3.f).mono g4.f).mono g5.f).append (.cons r5 .nil), q.2⟩
      · have e : i = xs.length := by omega
        subst e
        rw [List.drop_length] at q2
        exact .inl ⟨w2.1, q2 D0 F2 H2 h2.g hD hF2 ⟨acc, hD2, ra⟩⟩

/-! ### lists of the def's own -/
theorem Hold.mut {i : Nat} {a : Addr} {d d' : D} {o : HO} (h : Hold K cl F0 H0 F H σ ρ) (ha : σ[i]? = some (some (.ref a))) (e : ρ[i]? = some (.o d)) (w : Own K cl F (upd H a o) a d') : Hold K cl F0 H0 F (upd H a o) σ (ρ.set i (.o d')) := by
  obtain ⟨θ, hs, hd, hpn⟩ := h.sl
  obtain ⟨e1, n0, nf, w0⟩ := hs i _ e
  have ea : θ i = a := by
    rw [ha] at e1
    have : (some (V.ref a) : Option V) = some (V.ref (θ i)) := e1
    cases this
    rfl
  rw [ea] at n0 nf
  have w1 : NT H a := ea ▸ w0.nt
  have w2 : ∀ ps, o ≠ .tbl ps := fun ps z => w.nt.t ps (by rw [upd_same, z])
  refine ⟨⟨h.g.f, h.g.k.put n0 w1 w2, fun p u q => ?_, h.g.n, h.g.w, h.g.v⟩, h.tb.put w1 w2, by simp [h.len], θ, fun j s q => ?_, fun j k dj dk q1 q2 q => ?_, fun j b dj q1 q2 => ?_⟩
  · rw [upd_ne (ne_of_none q nf)]
    exact h.g.s p u q
  · by_cases hj : i = j
    · subst hj
      have hl : i < ρ.length := (List.getElem?_eq_some_iff.mp e).1
      rw [List.getElem?_set_self hl] at q
      cases q
      rw [← ea] at w n0 nf
      exact ⟨e1, n0, nf, by rw [ea] at w ⊢; exact w⟩
    · rw [List.getElem?_set_ne hj] at q
      have r := hs j s q
      cases s with
      | no => trivial
      | v d => exact r
      | o d2 =>
        obtain ⟨z1, z0, zf, zw⟩ := r
        have hne : θ j ≠ a := fun z => hj (hd i j _ _ e q (by rw [ea, z]))
        exact ⟨z1, z0, zf, zw.mono (Same.refl _) fun o e _ => by rw [upd_ne hne]; exact e⟩
  · have ne : ∀ {b db}, (ρ.set i (Sl.o d'))[b]? = some (Sl.o db) → ∃ dc, ρ[b]? = some (Sl.o dc) := fun {b db} q => by
      by_cases hb : i = b
      · subst hb
        exact ⟨d, e⟩
      · rw [List.getElem?_set_ne hb] at q
        exact ⟨db, q⟩
    obtain ⟨_, x1⟩ := ne q1
    obtain ⟨_, x2⟩ := ne q2
    exact hd j k _ _ x1 x2 q
  · by_cases hb : i = j
    · subst hb
      exact hpn i b _ q1 e
    · rw [List.getElem?_set_ne hb] at q2
      exact hpn j b _ q1 q2
theorem Hold.ownAt {i : Nat} {d : D} (h : Hold K cl F0 H0 F H σ ρ) (e : ρ[i]? = some (.o d)) : ∃ a, σ[i]? = some (some (.ref a)) ∧ H0 a = none ∧ F a = none ∧ Own K cl F H a d := by
  obtain ⟨θ, hs, hd⟩ := h.sl
  obtain ⟨e1, n0, nf, w0⟩ := hs i _ e
  exact ⟨θ i, join_some e1, n0, nf, w0⟩
theorem rfs_retO {i : Nat} (hf : cl.fr = true) : RfS K cl W (tRet (tVar i)) (sRetO i) where
  mono2 := fun E E' A B ρ hE l q => by
    unfold sRetO gO at q ⊢
    split at q
    · exact l.rt _ q
    · exact q.elim
  ok := fun F0 H0 F H σ ρ E B A hh le ld q => by
    unfold sRetO gO at q
    split at q
    · rename_i d e
      obtain ⟨a, ea, n0, nf, w⟩ := hh.ownAt e
      exact ⟨.ref a, ea, ld.rt _ _ _ _ hh.g (fun z => by rw [hf] at z; cases z) (fun _ => ⟨a, rfl, n0, nf, w⟩) q⟩
    · exact q.elim
/-- xs.append(e) as a statement -/
def tAppS (K : Fg) (i : Nat) (te : TE) : TS := tDrop (tBM K "list" rAppend (tVar i) (tCons te tNil))
theorem rfs_app {i : Nat} {te : TE} {t : DT} (ha : RfE K cl W te t) : RfS K cl W (tAppS K i te) (sApp i t) where
  mono2 := fun E E' A B ρ hE l q => by
    unfold sApp at q ⊢
    cases e : ρ[i]? with
    | none => rw [e] at q; exact q.elim
    | some s =>
      rw [e] at q
      cases s with
      | no => exact q.elim
      | v d => exact q.elim
      | o d => cases d <;> first | exact ha.mono2 E E' ρ _ _ hE (fun x q => ⟨q.1, l.nx _ q.2⟩) q | exact q.elim
  ok := fun F0 H0 F H σ ρ E B A hh le ld q => by
    unfold sApp at q
    cases e : ρ[i]? with
    | none => rw [e] at q; exact q.elim
    | some s =>
      rw [e] at q
      cases s with
      | no => exact q.elim
      | v d => exact q.elim
      | o d =>
        cases d with
        | lst xs =>
          obtain ⟨a, ea, n0, nf, vs, ho, rr⟩ := hh.ownAt e
          refine ⟨.ref a, ea, .inl ⟨rfl, vs, SqL.of ho⟩, ?_⟩
          refine ha.ok F0 H0 F H σ ρ E _ hh le (ha.mono E ρ _ _ (fun x q v F1 H1 g1 r1 => ?_) q)
          have e1 := g1.k.get ho
          refine ⟨a, vs, v, rfl, rfl, e1, by rw [rr.length, ← line_eq]; exact q.1, ?_⟩
          exact ld.nx _ _ _ _ ((hh.grow g1).mut (d' := .lst (xs ++ [x])) ea e ⟨vs ++ [v], upd_same, (rr.mono g1.f).append (.cons r1 .nil)⟩) q.2
        | _ => exact q.elim

/-! ### calls of the text's defs -/
/-- the promise that a def's transformer makes -/
def spD (K : Fg) (cl : Cl) (Wf : DF) : Sp := fun vs H Q E => ∃ F ds Q' E', Same F H ∧ Reps K cl F vs ds ∧ Wf ds Q' E' ∧ (∀ d, Q' d → ∀ v F' H', Gr F H F' H' → Rep K cl F' v d → Q v H') ∧ ∀ err, E' err → ∀ c dx F' H', Gr F H F' H' → RepErr K cl F' c dx err → E c dx H'
theorem rfe_call {Wf : DF} {dvs : List V} {dds : List D} (hd : ∀ F, Reps K cl F dvs dds) {ta : TA} {t : DA} (ha : RfA K cl W ta t) : RfE K cl W (tCallSD (spD K cl Wf) dvs (fun σ => WE W σ) ta) (dCall (fun ds => Wf (ds ++ dds)) t) where
  mono2 := fun E E' ρ P P' hE h q => ha.mono2 E E' ρ _ _ hE (fun xs q => q.mono h fun e z => hE e ρ z) q
  ok := fun F0 H0 F H σ ρ E Q hh le q => by
    refine ha.ok F0 H0 F H σ ρ E _ hh le (ha.mono E ρ _ _ (fun xs q vs F1 H1 g1 r1 => ?_) q)
    obtain ⟨Q', E', q, a, b⟩ := q
    exact ⟨F1, xs ++ dds, Q', E', g1.s, r1.append (hd F1), q, fun d z v F' H' g r => a d z v F' H' (g1.trans g) r, fun e z c dx F' H' g r => le e ρ σ F' H' c dx ((hh.grow g1).grow g) (b e z) r⟩
theorem rfe_call0 {Wf : DF} {ta : TA} {t : DA} (ha : RfA K cl W ta t) : RfE K cl W (tCallSD (spD K cl Wf) [] (fun σ => WE W σ) ta) (dCall Wf t) where
  mono2 := fun E E' ρ P P' hE h q => ha.mono2 E E' ρ _ _ hE (fun xs q => q.mono h fun e z => hE e ρ z) q
  ok := fun F0 H0 F H σ ρ E Q hh le q => by
    refine ha.ok F0 H0 F H σ ρ E _ hh le (ha.mono E ρ _ _ (fun xs q vs F1 H1 g1 r1 => ?_) q)
    obtain ⟨Q', E', q, a, b⟩ := q
    exact ⟨F1, xs, Q', E', g1.s, by rw [List.append_nil]; exact r1, q, fun d z v F' H' g r => a d z v F' H' (g1.trans g) r, fun e z c dx F' H' g r => le e ρ σ F' H' c dx ((hh.grow g1).grow g) (b e z) r⟩
end
section
variable {P : Program} {w : World} {K : Fg} {cl : Cl} {mg : Str → Option Value} {base : Heap}
theorem start_hold {F H : Hp} {n : Nat} (s : Same F H) (tb : TabF cl F H) : ∀ {vs : List V} {ds : List D}, Reps K cl F vs ds → vs.length ≤ n → Hold K cl F H F H (vs.map some ++ List.replicate (n - vs.length) none) (envOf n ds) := fun {vs ds} r hl => by
  have no : ∀ (i : Nat) (d : D), (envOf n ds)[i]? ≠ some (.o d) := fun i d e => by
    unfold envOf at e
    have := List.mem_of_getElem? e
    rw [List.mem_append] at this
    rcases this with z | z
    · obtain ⟨d, _, z⟩ := List.mem_map.mp z
      cases z
    · have := (List.mem_replicate.mp z).2
      cases this
  refine ⟨Gr.refl s, tb, by unfold envOf; simp [r.length], fun _ => 0, fun i sl e => ?_, fun i j di dj e _ => absurd e (no i di), fun i a d _ e => absurd e (no i d)⟩
  · unfold envOf at e
    by_cases hi : i < ds.length
    · rw [List.getElem?_append_left (by simpa using hi), List.getElem?_map, List.getElem?_eq_getElem hi] at e
      cases e
      obtain ⟨v, e1, rv⟩ := r.get (List.getElem?_eq_getElem hi)
      refine ⟨v, ?_, rv⟩
      rw [List.getElem?_append_left (by rw [List.length_map, r.length]; exact hi), List.getElem?_map, e1]
      rfl
    · rw [List.getElem?_append_right (by simpa using hi)] at e
      have := List.mem_of_getElem? e
      rw [List.mem_replicate] at this
      rw [this.2]
      trivial
/-- THE RULE for a def -/
theorem fn_okX {x qual : Str} {st : Stmt} {f : Addr} {fd : FuncData} {N ps : List Str} {k : Nat} {b : DS} (F : Fun K x qual st f fd) (S : FnScope N ps (defScope st)) (hp : ps.length ≤ N.length)
    (hb : ∀ (cdv : Value) (A : Around) (outer : List PySem.Env) (s : Shared) (H : Hp) (E : XK), Room k (A.deeper (envOfC qual (defScope st) s.heap.objs.size f cdv)) →
      ∃ t, VSs (cxOf (L2.CX P w) P w K mg base N qual (defScope st) f cdv A outer s H E) K cl (fun c d _ H' => E c d H') (defBody st) t b) (hf : cl.fr = false := by rfl) (ht : cl.tabs = [] := by rfl) :
    FnOk P w K mg base (L2.CX P w) (k + 1) f fd ps (spD K cl (defT ps.length N.length b)) := by
  refine F.okX S (fun vs H Q E h => ?_) (fun cdv A outer s H vs Q E hr h => ?_)
  · obtain ⟨F0, ds, Q', E', _, r, ⟨hl, _⟩, _⟩ := h
    rw [r.length]
    exact hl
  · obtain ⟨F0, ds, Q', E', s0, r, ⟨hl, q⟩, hQ, hE⟩ := h
    obtain ⟨t, h⟩ := hb cdv A outer s H E hr
    refine ⟨t, h.pe, ?_⟩
    have hn : vs.length ≤ N.length := by rw [r.length, hl]; exact hp
    exact h.rf.ok F0 H F0 H _ _ (fun e _ => E' e) { nx := fun _ => Q' .non, rt := Q' } { nx := fun _ H' => Q .non H', rt := Q } (start_hold s0 (.nil ht) r hn) (fun err ρ σ F' H' c dx h e re => hE err e c dx F' H' h.g re)
      ⟨fun F' H' σ ρ h q => hQ _ q .non F' H' h.g .non, fun _ _ _ _ _ z => z.elim, fun _ _ _ _ _ z => z.elim, fun F' H' v d g r _ q => hQ d q v F' H' g (r hf), fun _ _ _ _ _ _ _ _ z => z.elim⟩ q
/-- the promise of a def that gives a new object of its own -/
def spN (K : Fg) (cl : Cl) (Wf : DF) : Sp := fun vs H Q E => ∃ F ds Q' E', Same F H ∧ Reps K cl F vs ds ∧ Wf ds Q' E' ∧ (∀ d, Q' d → ∀ p F' H', Gr F H F' H' → H p = none → F' p = none → Own K cl F' H' p d → Q (.ref p) H') ∧ ∀ err, E' err → ∀ c dx F' H', Gr F H F' H' → RepErr K cl F' c dx err → E c dx H'
/-- THE RULE for such a def -/
theorem fn_okF {x qual : Str} {st : Stmt} {f : Addr} {fd : FuncData} {N ps : List Str} {k : Nat} {b : DS} (F : Fun K x qual st f fd) (S : FnScope N ps (defScope st)) (hp : ps.length ≤ N.length)
    (hb : ∀ (cdv : Value) (A : Around) (outer : List PySem.Env) (s : Shared) (H : Hp) (E : XK), Room k (A.deeper (envOfC qual (defScope st) s.heap.objs.size f cdv)) →
      ∃ t, VSs (cxOf (L2.CX P w) P w K mg base N qual (defScope st) f cdv A outer s H E) K cl (fun c d _ H' => E c d H') (defBody st) t b) (hf : cl.fr = true := by rfl) (ht : cl.tabs = [] := by rfl) :
    FnOk P w K mg base (L2.CX P w) (k + 1) f fd ps (spN K cl (defF ps.length N.length b)) := by
  refine F.okX S (fun vs H Q E h => ?_) (fun cdv A outer s H vs Q E hr h => ?_)
  · obtain ⟨F0, ds, Q', E', _, r, ⟨hl, _⟩, _⟩ := h
    rw [r.length]
    exact hl
  · obtain ⟨F0, ds, Q', E', s0, r, ⟨hl, q⟩, hQ, hE⟩ := h
    obtain ⟨t, h⟩ := hb cdv A outer s H E hr
    refine ⟨t, h.pe, ?_⟩
    have hn : vs.length ≤ N.length := by rw [r.length, hl]; exact hp
    exact h.rf.ok F0 H F0 H _ _ (fun e _ => E' e) { nx := fun _ => False, rt := Q' } { nx := fun _ H' => Q .non H', rt := Q } (start_hold s0 (.nil ht) r hn) (fun err ρ σ F' H' c dx h e re => hE err e c dx F' H' h.g re)
      ⟨fun _ _ _ _ _ z => z.elim, fun _ _ _ _ _ z => z.elim, fun _ _ _ _ _ z => z.elim, fun F' H' v d g _ r q => by
        obtain ⟨p, rfl, n, f, o⟩ := r hf
        exact hQ d q p F' H' g n f o, fun _ _ _ _ _ _ _ _ z => z.elim⟩ q
/-- what is new may be frozen at once -/
theorem own_frz {F H F' H' : Hp} {p : Addr} {d : D} (g : Gr F H F' H') (hp : H p = none) (hf : F' p = none) (w : Own K cl F' H' p d) : ∃ F2, Gr F H F2 H' ∧ Rep K cl F2 (.ref p) d := by
  obtain ⟨ob, ho⟩ := w.there
  have sf : Same F' (upd F' p ob) := same_upd hf
  have s2 : Same (upd F' p ob) H' := fun b u z => by
    by_cases hb : b = p
    · subst hb
      rw [upd_same] at z
      cases z
      exact ho
    · rw [upd_ne hb] at z
      exact g.s b u z
  refine ⟨upd F' p ob, ⟨g.f.trans sf, g.k, s2, fun c x y => ?_, fun c ps x => ?_, fun c ps x => ?_⟩, ?_⟩
  · by_cases hc : c = p
    · subst hc; exact hp
    · rw [upd_ne hc] at x
      exact g.n c x y
  · by_cases hc : c = p
    · subst hc; exact .inl hp
    · rw [upd_ne hc] at x
      exact g.w c ps x
  · by_cases hc : c = p
    · rw [hc, upd_same, ← ho] at x
      exact absurd x (w.nt.t ps)
    · rw [upd_ne hc] at x
      exact g.v c ps x
  · have eo : (upd F' p ob) p = some ob := upd_same
    cases d with
    | lst ds => obtain ⟨vs, z, r⟩ := w; rw [ho] at z; cases z; exact .lst eo (r.mono sf)
    | dk ds => obtain ⟨vs, z, r⟩ := w; rw [ho] at z; cases z; exact .dk eo (r.mono sf)
    | dt ds => obtain ⟨vs, z, r⟩ := w; rw [ho] at z; cases z; exact .dt eo (r.mono sf)
    | ins c ds => obtain ⟨vs, ⟨C, dx, n, z, o, _⟩, r⟩ := w; rw [ho] at z; cases z; exact .ins n eo (sf _ _ o) (r.mono sf)
    | _ => exact w.elim
theorem fn_frz {k : Nat} {f : Addr} {fd : FuncData} {ps : List Str} {Wf : DF} (F : FnOk P w K mg base (L2.CX P w) k f fd ps (spN K cl Wf)) : FnOk P w K mg base (L2.CX P w) k f fd ps (spD K cl Wf) :=
  F.imp fun vs H Q E ⟨F0, ds, Q', E', s, r, q, a, b⟩ => ⟨F0, ds, Q', E', s, r, q, fun d z p F' H' g n fp o => by
    obtain ⟨F2, g2, r2⟩ := own_frz g n fp o
    exact a d z _ F2 H' g2 r2, b⟩
theorem rfn_call0 {W : WX} {Wf : DF} {ta : TA} {t : DA} (ha : RfA K cl W ta t) : RfN K cl W (tCallSD (spN K cl Wf) [] (fun σ => WE W σ) ta) (dCall Wf t) where
  mono2 := fun E E' ρ P P' hE h q => ha.mono2 E E' ρ _ _ hE (fun xs q => q.mono h fun e z => hE e ρ z) q
  ok := fun F0 H0 F H σ ρ E Q hh le q => by
    refine ha.ok F0 H0 F H σ ρ E _ hh le (ha.mono E ρ _ _ (fun xs q vs F1 H1 g1 r1 => ?_) q)
    obtain ⟨Q', E', q, a, b⟩ := q
    exact ⟨F1, xs, Q', E', g1.s, by rw [List.append_nil]; exact r1, q, fun d z p F' H' g n fp o => a d z p F' H' (g1.trans g) (g1.k.free n) fp o, fun e z c dx F' H' g r => le e ρ σ F' H' c dx ((hh.grow g1).grow g) (b e z) r⟩
end
end DL

set_option maxHeartbeats 2000000
/-! DSort: sorted(..) of a list of pairs of whole numbers, wherever the pairs stand. -/
namespace DL
open PySem L2 PyProof.Rows
variable [TN]
/-- x is the pair p -/
def PairAt (K : Fg) (H : Hp) (x : V) (p : Int × Int) : Prop := ∃ t, x = .ref t ∧ SqT K H t [.int p.1, .int p.2]
inductive PairsAt (K : Fg) (H : Hp) : List V → List (Int × Int) → Prop
  | nil : PairsAt K H [] []
  | cons {x : V} {p : Int × Int} {xs : List V} {ps : List (Int × Int)} (h : PairAt K H x p) (r : PairsAt K H xs ps) : PairsAt K H (x :: xs) (p :: ps)
def rSortedPQ (K : Fg) : List V → Hp → VK → Prop := fun vs H Q => ∃ (F : Hp) (a : Addr) (xs : List V) (ps : List (Int × Int)), Same F H ∧ vs = [V.ref a] ∧ SqL K H a xs ∧ PairsAt K F xs ps ∧
  ∀ (ys : List V) (qs : List (Int × Int)) (p : Addr), PairsAt K F ys qs → qs.Perm ps → qs.Pairwise lexLe → H p = none → Q (.ref p) (upd H p (.lst ys))
theorem isPair_fun {h : Heap} {v : Value} {i j k l : Int} (a : Srt.IsPair h v i j) (b : Srt.IsPair h v k l) : i = k ∧ j = l := by
  obtain ⟨x, o, t, u, n, e, ho, _, hd⟩ := a
  obtain ⟨x', o', t', u', n', e', ho', _, hd'⟩ := b
  rw [e] at e'
  cases e'
  rw [ho] at ho'
  cases ho'
  rw [hd] at hd'
  cases hd'
  exact ⟨rfl, rfl⟩
/-- what pair stands at a value -/
noncomputable def pairOf (h : Heap) (v : Value) : Int × Int := open Classical in if e : ∃ p : Int × Int, Srt.IsPair h v p.1 p.2 then Classical.choose e else (0, 0)
theorem pairOf_eq {h : Heap} {v : Value} {p : Int × Int} (e : Srt.IsPair h v p.1 p.2) : pairOf h v = p := by
  unfold pairOf
  rw [dif_pos ⟨p, e⟩]
  obtain ⟨a, b⟩ := isPair_fun (Classical.choose_spec (⟨p, e⟩ : ∃ p : Int × Int, Srt.IsPair h v p.1 p.2)) e
  exact Prod.ext a b
section
variable {X : Cx} {K : Fg}
theorem Pairs.refs {K : Fg} {H : Hp} : ∀ {xs : List V} {ps : List (Int × Int)}, PairsAt K H xs ps → ∀ x ∈ xs, ∃ t, x = V.ref t
  | _, _, .nil, x, hx => by cases hx
  | _, _, .cons h r, x, hx => by
    rcases List.mem_cons.mp hx with rfl | z
    · obtain ⟨t, e, _⟩ := h
      exact ⟨t, e⟩
    · exact Pairs.refs r x z
theorem pair_ip {pins : List (Addr × Obj)} {σ : L2.St} {F H : Hp} {s : Shared} (I : Inv X pins σ H s) (sf : Same F H) {x : V} {v : Value} {p : Int × Int} (h : PairAt X.K F x p) (rv : RelV x v) : Srt.IsPair s.heap v p.1 p.2 := by
  obtain ⟨t, rfl, ht⟩ := h
  obtain rfl : v = Value.ref t := rv
  obtain ⟨its, r2, ⟨o, ho, hc, n, hd⟩, _⟩ := I.tuple (same_t sf ht)
  obtain ⟨u1, u2, rfl, ri, rj⟩ := vals2 r2
  obtain ⟨t1, rfl⟩ := ri
  obtain ⟨t2, rfl⟩ := rj
  exact ⟨t, o, t1, t2, n, rfl, ho, hc, hd⟩
theorem pairs_map {pins : List (Addr × Obj)} {σ : L2.St} {F H : Hp} {s : Shared} (I : Inv X pins σ H s) (sf : Same F H) : ∀ {xs : List V} {ps : List (Int × Int)} {its : List Value}, PairsAt X.K F xs ps → Vals xs its →
    ps = its.map (pairOf s.heap) ∧ ∀ v ∈ its, Srt.IsPair s.heap v (pairOf s.heap v).1 (pairOf s.heap v).2 ∧ PairAt X.K F (backV v) (pairOf s.heap v)
  | _, _, _, .nil, .nil => ⟨rfl, fun v hv => by cases hv⟩
  | _, _, _, .cons h r, .cons rv t => by
    obtain ⟨h1, h2⟩ := pairs_map I sf r t
    have ip := pair_ip I sf h rv
    have e := pairOf_eq ip
    refine ⟨by rw [List.map_cons, e, ← h1], fun v hv => ?_⟩
    rcases List.mem_cons.mp hv with rfl | z
    · rw [e]
      obtain ⟨t, rfl, ht⟩ := h
      obtain rfl : _ = Value.ref t := rv
      exact ⟨ip, t, rfl, ht⟩
    · exact h2 v z
theorem pairs_back {H : Hp} {h : Heap} : ∀ {out : List Value}, (∀ v ∈ out, PairAt K H (backV v) (pairOf h v)) → PairsAt K H (out.map backV) (out.map (pairOf h))
  | [], _ => .nil
  | v :: r, q => .cons (q v List.mem_cons_self) (pairs_back fun u hu => q u (List.mem_cons_of_mem _ hu))
theorem cr_sortedPQ : CallR X (.builtin "sorted") (rSortedPQ X.K) := by
  intro pins s σ H vs us Q I r h
  obtain ⟨F, a, xs, ps, sf, rfl, hs, hx, q⟩ := h
  obtain ⟨its, rv, hl, hz⟩ := I.list hs
  obtain ⟨u, rfl, ru⟩ := vals1 r
  obtain rfl : u = Value.ref a := ru
  obtain ⟨e1, e2⟩ := refs_back rv (Pairs.refs hx)
  obtain ⟨k1, k2⟩ := pairs_map I sf hx rv
  refine SrtO.sorted_pairsO (k := pairOf s.heap) hl.isList (by rw [← rv.length]; exact hz) (fun v hv => (k2 v hv).1) fun h' d out g1 g2 kp hd hn => ?_
  have g3 : ∀ u ∈ out, u ∈ its := fun u hu => g2.perm.mem_iff.mp hu
  obtain ⟨n, hn⟩ := hn
  have len : (out.map backV).length ≤ sizeLine := by
    rw [List.length_map, g2.perm.length_eq, ← rv.length]
    exact hz
  refine ⟨.ref d, upd H d (.lst (out.map backV)), I.laid (t' := s.toks) kp hd ⟨len, out, n, vals_back fun u hu => e2 u (g3 u hu), hn⟩, rfl, ?_⟩
  refine q (out.map backV) (out.map (pairOf s.heap)) d (pairs_back fun v hv => (k2 v (g3 v hv)).2) (by rw [k1]; exact g2.perm.map _) ?_ (I.hok.fresh hd)
  rw [List.pairwise_map]
  refine List.Pairwise.imp (fun {u w} hh => ?_) g1
  have := SrtO.lexB_no.mp hh
  unfold lexLe
  omega
end
end DL

/-! DBlt: built-ins by data. -/
namespace DL
open PySem L2 PyProof.Rows
variable [TN]
section
variable {X : Cx} {K : Fg} {cl : Cl} {W : WX} {F0 H0 F H F' H' : Hp} {σ σ' : L2.St} {ρ ρ' : DL.Env}
theorem ints_reps : ∀ {l : List D} {ns : List Int} {vs : List V}, intsOf l = some ns → Reps K cl F vs l → vs = ns.map V.int
  | [], ns, _, e, .nil => by cases e; rfl
  | .int i :: r, ns, _, e, .cons (.int _) t => by
    unfold intsOf at e
    cases q : intsOf r with
    | none => rw [q] at e; cases e
    | some ms =>
      rw [q] at e
      cases e
      rw [ints_reps q t]
      rfl
theorem reps_ints : ∀ (ns : List Int), Reps K cl F (ns.map V.int) (ns.map D.int)
  | [] => .nil
  | n :: r => .cons (.int n) (reps_ints r)
theorem bls_reps : ∀ {l : List D} {ns : List Bool} {vs : List V}, blsOf l = some ns → Reps K cl F vs l → vs = ns.map V.bl
  | [], ns, _, e, .nil => by cases e; rfl
  | .bl i :: r, ns, _, e, .cons (.bl _) t => by
    unfold blsOf at e
    cases q : blsOf r with
    | none => rw [q] at e; cases e
    | some ms =>
      rw [q] at e
      cases e
      rw [bls_reps q t]
      rfl
theorem reps1 {vs : List V} {d : D} (r : Reps K cl F vs [d]) : ∃ v, vs = [v] ∧ Rep K cl F v d := by
  cases r with
  | cons h t => cases t; exact ⟨_, rfl, h⟩
theorem reps2 {vs : List V} {d e : D} (r : Reps K cl F vs [d, e]) : ∃ v u, vs = [v, u] ∧ Rep K cl F v d ∧ Rep K cl F u e := by
  cases r with
  | cons h t => cases t with
    | cons h2 t => cases t; exact ⟨_, _, rfl, h, h2⟩
theorem same_l {K : Fg} {H H' : Hp} {a : Addr} {xs : List V} (e : Same H H') (h : SqL K H a xs) : SqL K H' a xs := by
  rcases h with (h | ⟨o, h⟩) | h
  · exact .inl (.inl (e _ _ h))
  · exact .inl (.inr ⟨o, e _ _ h⟩)
  · exact .inr h
theorem SqL.up {a : Addr} {vs : List V} (s : Same F H) (e : F a = some (.lst vs)) : SqL K H a vs := SqL.of (s _ _ e)
/-! len -/
def rLenU (K : Fg) : List V → Hp → VK → Prop := fun xs H Q => (∃ x n, xs = [x] ∧ LenV K x H n ∧ Q (.int n) H) ∨ ∃ d kvs, xs = [.ref d] ∧ H d = some (.dK kvs) ∧ Q (.int kvs.length) H
theorem KReps.length {ws : List (L2.Key × V)} {kvs : List (DL.Key × D)} (r : KReps K cl F ws kvs) : ws.length = kvs.length := by
  induction kvs generalizing ws with
  | nil => cases r; rfl
  | cons d ds ih => cases r with
    | cons h r => simp [ih r]
theorem cr_lenU : CallR X (.builtin "len") (rLenU X.K) := by
  intro pins s σ H vs us Q I r h
  rcases h with h | ⟨d, kvs, h1, h2, h3⟩
  · exact call_len pins s σ H vs us Q I r h
  · exact call_lenD pins s σ H vs us Q I r ⟨d, kvs, h1, h2, h3⟩
theorem rf_len : RfC K cl (rLenU K) fLen where
  mono := fun x P P' h q => by
    match x, q with
    | [.lst l], q => exact h _ q
    | [.tup l], q => exact h _ q
    | [.str z], q => exact ⟨q.1, h _ q.2⟩
    | [.dk l], q => exact h _ q
    | [.scr l], q => exact h _ q
  ok := fun F H v x Q s r q => by
    match x, q, r with
    | [.lst l], q, .cons (.lst e rr) .nil => exact .inl ⟨_, l.length, rfl, .inl ⟨_, SqL.of (s _ _ e), rr.length.symm⟩, q _ F H (Gr.refl s) (.int _)⟩
    | [.tup l], q, .cons (.tup e rr) .nil => exact .inl ⟨_, l.length, rfl, .inr ⟨_, same_t s e, rr.length.symm⟩, q _ F H (Gr.refl s) (.int _)⟩
    | [.str z], q, .cons (.str _) .nil => exact .inl ⟨_, z.length, rfl, ⟨by rw [← line_eq]; exact q.1, rfl⟩, q.2 _ F H (Gr.refl s) (.int _)⟩
    | [.dk l], q, .cons (.dk e rr) .nil => exact .inr ⟨_, _, rfl, s _ _ e, by rw [rr.length]; exact q _ F H (Gr.refl s) (.int _)⟩
    | [.scr l], q, .cons (.scr e) .nil => exact .inl ⟨_, l.length, rfl, .inl ⟨_, s.seq e, by simp⟩, q _ F H (Gr.refl s) (.int _)⟩
/-! abs, min, max -/
theorem rf_gcd : RfC K cl rGcd fGcd where
  mono := fun x P P' h q => by
    match x, q with
    | [.int i, .int j], q => exact h _ q
  ok := fun F H v x Q s r q => by
    match x, q, r with
    | [.int i, .int j], q, .cons (.int _) (.cons (.int _) .nil) => exact ⟨i, j, rfl, q _ F H (Gr.refl s) (.int _)⟩
theorem rf_abs : RfC K cl (fun xs H Q => ∃ i, xs = [.int i] ∧ Q (.int (if i < 0 then -i else i)) H) fAbs where
  mono := fun x P P' h q => by
    match x, q with
    | [.int i], q => exact h _ q
  ok := fun F H v x Q s r q => by
    match x, q, r with
    | [.int i], q, .cons (.int _) .nil => exact ⟨i, rfl, q _ F H (Gr.refl s) (.int _)⟩
def rMinU (K : Fg) : List V → Hp → VK → Prop := fun xs H Q => (∃ i j, xs = [.int i, .int j] ∧ Q (.int (if j < i then j else i)) H) ∨ rMin K xs H Q
theorem cr_minU (hc : X.calm = true) : CallR X (.builtin "min") (rMinU X.K) := (call_min2 hc).or (cr_min hc)
theorem rf_min : RfC K cl (rMinU K) fMin where
  mono := fun x P P' h q => by
    match x, q with
    | [.int i, .int j], q => exact h _ q
    | [.lst l], q =>
      simp only [fMin] at q ⊢
      cases e : intsOf l with
      | none => rw [e] at q; exact q.elim
      | some ns => rw [e] at q; exact ⟨q.1, fun m h1 h2 => h _ (q.2 m h1 h2)⟩
  ok := fun F H v x Q s r q => by
    match x, q, r with
    | [.int i, .int j], q, .cons (.int _) (.cons (.int _) .nil) => exact .inl ⟨i, j, rfl, q _ F H (Gr.refl s) (.int _)⟩
    | [.lst l], q, .cons (.lst e rr) .nil =>
      simp only [fMin] at q
      cases e1 : intsOf l with
      | none => rw [e1] at q; exact q.elim
      | some ns =>
        rw [e1] at q
        have ev := ints_reps e1 rr
        subst ev
        exact .inr ⟨_, ns, rfl, SqL.of (s _ _ e), List.length_pos_iff.mpr q.1, fun m h1 h2 => q.2 m h1 h2 _ F H (Gr.refl s) (.int _)⟩
def rMaxU (K : Fg) : List V → Hp → VK → Prop := fun xs H Q => (∃ i j, xs = [.int i, .int j] ∧ Q (.int (if j > i then j else i)) H) ∨ rMax K xs H Q
theorem cr_maxU (hc : X.calm = true) : CallR X (.builtin "max") (rMaxU X.K) := (call_max2 hc).or (cr_max hc)
theorem rf_max : RfC K cl (rMaxU K) fMax where
  mono := fun x P P' h q => by
    match x, q with
    | [.int i, .int j], q => exact h _ q
    | [.lst l], q =>
      simp only [fMax] at q ⊢
      cases e : intsOf l with
      | none => rw [e] at q; exact q.elim
      | some ns => rw [e] at q; exact ⟨q.1, fun m h1 h2 => h _ (q.2 m h1 h2)⟩
  ok := fun F H v x Q s r q => by
    match x, q, r with
    | [.int i, .int j], q, .cons (.int _) (.cons (.int _) .nil) => exact .inl ⟨i, j, rfl, q _ F H (Gr.refl s) (.int _)⟩
    | [.lst l], q, .cons (.lst e rr) .nil =>
      simp only [fMax] at q
      cases e1 : intsOf l with
      | none => rw [e1] at q; exact q.elim
      | some ns =>
        rw [e1] at q
        have ev := ints_reps e1 rr
        subst ev
        exact .inr ⟨_, ns, rfl, SqL.of (s _ _ e), List.length_pos_iff.mpr q.1, fun m h1 h2 => q.2 m h1 h2 _ F H (Gr.refl s) (.int _)⟩
/-- sum(xs) of a list or a tuple of ints -/
def rSumU (K : Fg) : List V → Hp → VK → Prop := fun vs H Q => rSum K vs H Q ∨ ∃ (a : Addr) (ns : List Int), vs = [V.ref a] ∧ SqT K H a (ns.map V.int) ∧ Q (.int ns.sum) H
theorem cr_sumU {X : Cx} (hc : X.calm = true) : CallR X (.builtin "sum") (rSumU X.K) := by
  intro pins s σ H vs us Q I r h
  rcases h with h | ⟨a, ns, rfl, hs, q⟩
  · exact cr_sum hc pins s σ H vs us Q I r h
  · obtain ⟨its, rv, hl, _⟩ := I.tuple hs
    rw [Vals.ref1 r]
    have hi := rv.ints
    obtain ⟨xs, hx⟩ := hi.allInts.items
    have hl : s.heap.IsTuple a its.toArray := hl
    have hn : numsOf its.toArray.toList = ns := by rw [show its.toArray.toList = its from rfl, hi.numsOf]
    rw [hx] at hl hn
    rw [nums_intItems] at hn
    refine PySem.W.ktm_sumG (I.ok.hd hc) hl fun h' tk t' hk => ?_
    rw [preSum_eq, List.take_of_length_le (by simp), hn]
    exact ⟨.int _, H, I.kept hk, ⟨_, rfl⟩, q⟩
theorem rf_sum : RfC K cl (rSumU K) fSum where
  mono := fun x P P' h q => by
    match x, q with
    | [.lst l], q =>
      simp only [fSum] at q ⊢
      cases e : intsOf l with
      | none => rw [e] at q; exact q.elim
      | some ns => rw [e] at q; exact h _ q
    | [.tup l], q =>
      simp only [fSum] at q ⊢
      cases e : intsOf l with
      | none => rw [e] at q; exact q.elim
      | some ns => rw [e] at q; exact h _ q
  ok := fun F H v x Q s r q => by
    match x, q, r with
    | [.lst l], q, .cons (.lst e rr) .nil =>
      simp only [fSum] at q
      cases e1 : intsOf l with
      | none => rw [e1] at q; exact q.elim
      | some ns =>
        rw [e1] at q
        have ev := ints_reps e1 rr
        subst ev
        exact .inl ⟨_, ns, rfl, SqL.of (s _ _ e), q _ F H (Gr.refl s) (.int _)⟩
    | [.tup l], q, .cons (.tup e rr) .nil =>
      simp only [fSum] at q
      cases e1 : intsOf l with
      | none => rw [e1] at q; exact q.elim
      | some ns =>
        rw [e1] at q
        have ev := ints_reps e1 rr
        subst ev
        exact .inr ⟨_, ns, rfl, same_t s e, q _ F H (Gr.refl s) (.int _)⟩
theorem rf_all : RfC K cl (rAll K) fAll where
  mono := fun x P P' h q => by
    match x, q with
    | [.lst l], q =>
      simp only [fAll] at q ⊢
      cases e : blsOf l with
      | none => rw [e] at q; exact q.elim
      | some ns => rw [e] at q; exact h _ q
  ok := fun F H v x Q s r q => by
    match x, q, r with
    | [.lst l], q, .cons (.lst e rr) .nil =>
      simp only [fAll] at q
      cases e1 : blsOf l with
      | none => rw [e1] at q; exact q.elim
      | some ns =>
        rw [e1] at q
        have ev := bls_reps e1 rr
        subst ev
        exact ⟨_, ns, rfl, SqL.of (s _ _ e), q _ F H (Gr.refl s) (.bl _)⟩
theorem rf_any : RfC K cl (rAny K) fAny where
  mono := fun x P P' h q => by
    match x, q with
    | [.lst l], q =>
      simp only [fAny] at q ⊢
      cases e : blsOf l with
      | none => rw [e] at q; exact q.elim
      | some ns => rw [e] at q; exact h _ q
  ok := fun F H v x Q s r q => by
    match x, q, r with
    | [.lst l], q, .cons (.lst e rr) .nil =>
      simp only [fAny] at q
      cases e1 : blsOf l with
      | none => rw [e1] at q; exact q.elim
      | some ns =>
        rw [e1] at q
        have ev := bls_reps e1 rr
        subst ev
        exact ⟨_, ns, rfl, SqL.of (s _ _ e), q _ F H (Gr.refl s) (.bl _)⟩
/-! int, str, divmod -/
theorem rf_int : RfC K cl (fun xs H Q => (∃ i, xs = [.int i] ∧ Q (.int i) H) ∨ ∃ k, xs = [.bl k] ∧ Q (.int (if k then 1 else 0)) H) fInt where
  mono := fun x P P' h q => by
    match x, q with
    | [.int i], q => exact h _ q
    | [.bl i], q => exact h _ q
  ok := fun F H v x Q s r q => by
    match x, q, r with
    | [.int i], q, .cons (.int _) .nil => exact .inl ⟨i, rfl, q _ F H (Gr.refl s) (.int _)⟩
    | [.bl i], q, .cons (.bl _) .nil => exact .inr ⟨i, rfl, q _ F H (Gr.refl s) (.int _)⟩
theorem rf_str : RfC K cl (fun xs H Q => ∃ i, xs = [.int i] ∧ i.natAbs.log2 < 1920 ∧ Q (.str (toString i)) H) fStr where
  mono := fun x P P' h q => by
    match x, q with
    | [.int i], q => exact ⟨q.1, h _ q.2⟩
  ok := fun F H v x Q s r q => by
    match x, q, r with
    | [.int i], q, .cons (.int _) .nil => exact ⟨i, rfl, q.1, q.2 _ F H (Gr.refl s) (.str _)⟩
theorem rf_divmod : RfC K cl (fun xs H Q => ∃ i j, xs = [.int i, .int j] ∧ CDiv i j ∧ ∀ p, H p = none → Q (.ref p) (upd H p (.tup [.int (i / j), .int (i % j)]))) fDivmod where
  mono := fun x P P' h q => by
    match x, q with
    | [.int i, .int j], q => exact ⟨q.1, h _ q.2⟩
  ok := fun F H v x Q s r q => by
    match x, q, r with
    | [.int i, .int j], q, .cons (.int _) (.cons (.int _) .nil) =>
      exact ⟨i, j, rfl, q.1, fun p hp => q.2 _ (upd F p _) _ (Gr.new s hp) (.tup (SqT.of upd_same) (.cons (.int _) (.cons (.int _) .nil)))⟩
/-! list, tuple, sorted: new objects -/
structure RfNC (K : Fg) (cl : Cl) (r : List V → Hp → VK → Prop) (f : List D → DK → Prop) : Prop where
  mono : ∀ x (P P' : DK), (∀ d, P d → P' d) → f x P → f x P'
  ok : ∀ F H v x (Q : VK), Same F H → Reps K cl F v x → f x (fun d => ∀ p F' H', Gr F H F' H' → H p = none → F' p = none → Own K cl F' H' p d → Q (.ref p) H') → r v H Q
theorem rfn_cb {tr : TA} {r : DA} {rr : List V → Hp → VK → Prop} {f : List D → DK → Prop} (o : RfNC K cl rr f) (hr : RfA K cl W tr r) : RfN K cl W (tCB rr tr) (dBlt f r) where
  mono2 := fun E E' ρ P P' hE h q => hr.mono2 E E' ρ _ _ hE (fun x q => o.mono x P P' h q) q
  ok := fun F0 H0 F H σ ρ E Q hh le q => by
    refine hr.ok F0 H0 F H σ ρ E _ hh le (hr.mono E ρ _ _ (fun x q v F1 H1 g1 r1 => ?_) q)
    exact o.ok F1 H1 v x Q g1.s r1 (o.mono x _ _ (fun d q p F' H' g3 hp hf w => q p F' H' (g1.trans g3) (g1.k.free hp) hf w) q)
def rListU (K : Fg) : List V → Hp → VK → Prop := fun xs H Q => (∃ p ys, xs = [.ref p] ∧ (SqL K H p ys ∨ SqT K H p ys) ∧ ∀ l, H l = none → Q (.ref l) (upd H l (.lst ys))) ∨
  ∃ (a : Addr) (kvs : List (L2.Key × V)), xs = [.ref a] ∧ Rd H a (.dK kvs) ∧ ∀ p, H p = none → Q (.ref p) (upd H p (.lst (kvs.map fun kv => kV kv.1)))
def rSortedU (K : Fg) : List V → Hp → VK → Prop := fun xs H Q => rSortedI K xs H Q ∨ rSortedPQ K xs H Q ∨
  ∃ (a : Addr) (kvs : List (L2.Key × V)) (ks : List Int), xs = [.ref a] ∧ Rd H a (.dK kvs) ∧ kvs.map (·.1) = ks.map Sum.inl ∧ ks.length < 64 ∧ ∀ (ys : List Int) (p : Addr), ys.Perm ks → ys.Pairwise (· ≤ ·) → H p = none → Q (.ref p) (upd H p (.lst (ys.map V.int)))
theorem cr_listU {X : Cx} (hc : X.calm = true) : CallR X (.type "list") (rListU X.K) := fun pins s σ H vs us Q I r h => by
  rcases h with h | h
  · exact call_list_of pins s σ H vs us Q I r h
  · exact call_listD hc pins s σ H vs us Q I r h
theorem cr_sortedU {X : Cx} (hc : X.calm = true) : CallR X (.builtin "sorted") (rSortedU X.K) := fun pins s σ H vs us Q I r h => by
  rcases h with h | h | h
  · exact cr_sortedI pins s σ H vs us Q I r h
  · exact cr_sortedPQ pins s σ H vs us Q I r h
  · exact call_sortedDI hc pins s σ H vs us Q I r h
theorem rep_kV {F : Hp} : ∀ (k : L2.Key), Rep K cl F (kV k) (keyD k)
  | .inl i => .int i
  | .inr x => .str x
theorem kreps_keys {F : Hp} : ∀ {ws : List (L2.Key × V)} {kvs : List (DL.Key × D)}, KReps K cl F ws kvs → Reps K cl F (ws.map fun kv => kV kv.1) (kvs.map fun kv => keyD kv.1) ∧ ws.map (·.1) = kvs.map (·.1)
  | _, _, .nil => ⟨.nil, rfl⟩
  | _, _, .cons (k := k) h r => ⟨.cons (rep_kV k) (kreps_keys r).1, by rw [List.map_cons, List.map_cons, (kreps_keys r).2]⟩
theorem ikeys_eq : ∀ {kvs : List (DL.Key × D)} {ns : List Int}, ikeys kvs = some ns → kvs.map (·.1) = ns.map Sum.inl
  | [], _, h => by cases h; rfl
  | (.inl i, _) :: r, ns, h => by
    unfold ikeys at h
    cases e : ikeys r with
    | none => rw [e] at h; cases h
    | some ms =>
      rw [e] at h
      cases h
      rw [List.map_cons, ikeys_eq e]
      rfl
  | (.inr _, _) :: _, _, h => by unfold ikeys at h; cases h
theorem rf_list : RfNC K cl (rListU K) fList where
  mono := fun x P P' h q => by
    match x, q with
    | [.lst l], q => exact h _ q
    | [.tup l], q => exact h _ q
    | [.dk l], q => exact h _ q
    | [.scr ns], q => exact h _ q
  ok := fun F H v x Q s r q => by
    match x, q, r with
    | [.lst l], q, .cons (.lst e rr) .nil => exact .inl ⟨_, _, rfl, .inl (SqL.of (s _ _ e)), fun p hp => q p F _ (Gr.h s (nx_upd hp)) hp (s.free hp) ⟨_, upd_same, rr⟩⟩
    | [.tup l], q, .cons (.tup e rr) .nil => exact .inl ⟨_, _, rfl, .inr (same_t s e), fun p hp => q p F _ (Gr.h s (nx_upd hp)) hp (s.free hp) ⟨_, upd_same, rr⟩⟩
    | [.dk l], q, .cons (.dk e rr) .nil => exact .inr ⟨_, _, rfl, .inl (s _ _ e), fun p hp => q p F _ (Gr.h s (nx_upd hp)) hp (s.free hp) ⟨_, upd_same, (kreps_keys rr).1⟩⟩
    | [.scr ns], q, .cons (.scr sq) .nil => exact .inl ⟨_, _, rfl, .inl (same_l s sq), fun p hp => q p F _ (Gr.h s (nx_upd hp)) hp (s.free hp) ⟨_, upd_same, reps_ints ns⟩⟩
theorem pairs_reps {F : Hp} : ∀ (l : List D) {ps : List (Int × Int)} {vs : List V}, pairsOf l = some ps → Reps K cl F vs l → PairsAt K F vs ps := by
  intro l
  induction l with
  | nil =>
    intro ps vs h r
    cases r
    cases h
    exact .nil
  | cons x l ih =>
    intro ps vs h r
    cases r with
    | cons hx rr =>
      have key : ∃ i j qs, x = .tup [.int i, .int j] ∧ pairsOf l = some qs ∧ ps = (i, j) :: qs := by
        have h : (pair1 x).bind (fun p => (pairsOf l).map (p :: ·)) = some ps := h
        cases e1 : pair1 x with
        | none => rw [e1] at h; cases h
        | some p =>
          cases z : pairsOf l with
          | none => rw [e1, z] at h; cases h
          | some qs =>
            rw [e1, z] at h
            exact ⟨p.1, p.2, qs, pair1_eq e1, rfl, (Option.some.inj h).symm⟩
      obtain ⟨i, j, qs, rfl, z, rfl⟩ := key
      cases hx with
      | tup e r2 =>
        cases r2 with
        | cons ha r3 =>
          cases r3 with
          | cons hb r4 =>
            cases r4
            cases ha
            cases hb
            exact .cons ⟨_, rfl, e⟩ (ih z rr)
theorem reps_pairs {F : Hp} : ∀ {vs : List V} {ps : List (Int × Int)}, PairsAt K F vs ps → Reps K cl F vs (ps.map pairD)
  | _, _, .nil => .nil
  | _, _, .cons h r => by
    obtain ⟨t, rfl, ht⟩ := h
    exact .cons (.tup ht (.cons (.int _) (.cons (.int _) .nil))) (reps_pairs r)
theorem rf_sorted : RfNC K cl (rSortedU K) fSorted where
  mono := fun x P P' h q => by
    match x, q with
    | [.lst l], q =>
      simp only [fSorted] at q ⊢
      cases e : intsOf l with
      | none =>
        rw [e] at q
        simp only at q ⊢
        cases e2 : pairsOf l with
        | none => rw [e2] at q; exact q.elim
        | some ps => rw [e2] at q; exact fun ps' h1 h2 => h _ (q ps' h1 h2)
      | some ns => rw [e] at q; exact fun ns' h1 h2 => h _ (q ns' h1 h2)
    | [.dk l], q =>
      simp only [fSorted] at q ⊢
      cases e : ikeys l with
      | none => rw [e] at q; exact q.elim
      | some ns => rw [e] at q; exact ⟨q.1, fun ns' h1 h2 => h _ (q.2 ns' h1 h2)⟩
  ok := fun F H v x Q s r q => by
    match x, q, r with
    | [.lst l], q, .cons (.lst e rr) .nil =>
      simp only [fSorted] at q
      cases e1 : intsOf l with
      | none =>
        rw [e1] at q
        simp only at q
        cases e2 : pairsOf l with
        | none => rw [e2] at q; exact q.elim
        | some ps =>
          rw [e2] at q
          exact .inr (.inl ⟨F, _, _, ps, s, rfl, SqL.of (s _ _ e), pairs_reps _ e2 rr, fun ys qs p hys h1 h2 hp => q qs h1 h2 p F _ (Gr.h s (nx_upd hp)) hp (s.free hp) ⟨_, upd_same, reps_pairs hys⟩⟩)
      | some ns =>
        rw [e1] at q
        have ev := ints_reps e1 rr
        subst ev
        exact .inl ⟨_, ns, rfl, SqL.of (s _ _ e), fun ns' p h1 h2 hp => q ns' h1 h2 p F _ (Gr.h s (nx_upd hp)) hp (s.free hp) ⟨_, upd_same, reps_ints ns'⟩⟩
    | [.dk l], q, .cons (.dk e rr) .nil =>
      simp only [fSorted] at q
      cases e1 : ikeys l with
      | none => rw [e1] at q; exact q.elim
      | some ns =>
        rw [e1] at q
        exact .inr (.inr ⟨_, _, ns, rfl, .inl (s _ _ e), (kreps_keys rr).2.trans (ikeys_eq e1), q.1, fun ns' p h1 h2 hp => q.2 ns' h1 h2 p F _ (Gr.h s (nx_upd hp)) hp (s.free hp) ⟨_, upd_same, reps_ints ns'⟩⟩)
theorem rf_tuple : RfC K cl (fun xs H Q => ∃ p ys, xs = [.ref p] ∧ ((SqL K H p ys ∧ ∀ l, H l = none → Q (.ref l) (upd H l (.tup ys))) ∨ (SqT K H p ys ∧ Q (.ref p) H))) fTuple where
  mono := fun x P P' h q => by
    match x, q with
    | [.lst l], q => exact h _ q
    | [.tup l], q => exact h _ q
  ok := fun F H v x Q s r q => by
    match x, q, r with
    | [.lst l], q, .cons (.lst e rr) .nil => exact ⟨_, _, rfl, .inl ⟨SqL.of (s _ _ e), fun p hp => q _ (upd F p _) _ (Gr.new s hp) (.tup (SqT.of upd_same) (rr.mono (same_upd (s.free hp))))⟩⟩
    | [.tup l], q, .cons (.tup e rr) .nil => exact ⟨_, _, rfl, .inr ⟨same_t s e, q _ F H (Gr.refl s) (.tup e rr)⟩⟩
/-! isinstance -/
theorem Rep.ty {v : V} {d : D} (s : Same F H) (r : Rep K cl F v d) (h : tyName d ≠ "") : TyX K H v (.type (tyName d)) := by
  cases r with
  | non => exact .base .non
  | bl b => exact .base (.bl b)
  | int b => exact .base (.int b)
  | str b => exact .base (.str b)
  | lst e _ => exact .base (.lst (s _ _ e))
  | dk e _ => exact .base (.dK (s _ _ e))
  | tup e _ =>
    rcases same_t s e with (e | ⟨o, e⟩) | ⟨o, its, n, e, c, _⟩
    · exact .base (.tup e)
    · exact .fTuple e
    · exact .kTuple e c
  | _ => exact absurd rfl h
def kitTab : List (String × String) := [("NoneType", "int"), ("bool", "int"), ("int", "int"), ("str", "int"), ("tuple", "int"), ("list", "int"), ("dict", "int"),
  ("NoneType", "bool"), ("bool", "bool"), ("int", "bool"), ("str", "bool"), ("tuple", "bool"), ("list", "bool"), ("dict", "bool"),
  ("NoneType", "str"), ("bool", "str"), ("int", "str"), ("str", "str"), ("tuple", "str"), ("list", "str"), ("dict", "str"),
  ("NoneType", "tuple"), ("bool", "tuple"), ("int", "tuple"), ("str", "tuple"), ("tuple", "tuple"), ("list", "tuple"), ("dict", "tuple"),
  ("NoneType", "list"), ("bool", "list"), ("int", "list"), ("str", "list"), ("tuple", "list"), ("list", "list"), ("dict", "list"),
  ("NoneType", "dict"), ("bool", "dict"), ("int", "dict"), ("str", "dict"), ("tuple", "dict"), ("list", "dict"), ("dict", "dict")]
theorem kit_tab : (kitTab.all fun p => decide (kitB p.1 p.2 = some (p.1 == p.2 || (p.1 == "bool" && p.2 == "int")))) = true := by decide +kernel
theorem kit_at {a c : String} (h : (a, c) ∈ kitTab) : kitB a c = some (a == c || (a == "bool" && c == "int")) := by
  have := List.all_eq_true.mp kit_tab _ h
  exact of_decide_eq_true this
theorem kit_in (d : D) (h : tyName d ≠ "") {c : String} (hc : c ∈ ["int", "bool", "str", "tuple", "list", "dict"]) : (tyName d, c) ∈ kitTab := by
  simp only [List.mem_cons, List.not_mem_nil, or_false] at hc
  rcases hc with rfl | rfl | rfl | rfl | rfl | rfl <;> cases d <;> first | (exact absurd rfl h) | (simp [tyName, kitTab])
theorem rfe_isi {c : String} (hc : c ∈ ["int", "bool", "str", "tuple", "list", "dict"]) {te : TE} {t : DT} (ha : RfE K cl W te t) : RfE K cl W (tCB (rIsi K) (tCons te (tCons (tC (.ty c)) tNil))) (dIsi c t) where
  mono2 := fun E E' ρ P P' hE h q => ha.mono2 E E' ρ _ _ hE (fun x q => ⟨q.1, h _ q.2⟩) q
  ok := fun F0 H0 F H σ ρ E Q hh le q => by
    refine ha.ok F0 H0 F H σ ρ E _ hh le (ha.mono E ρ _ _ (fun x q v F1 H1 g1 r1 => ?_) q)
    exact ⟨v, .ty c, .type (tyName x), .type c, _, rfl, (by constructor), r1.ty g1.s q.1, kit_ty (kit_at (kit_in x q.1 hc)), q.2 _ F1 H1 g1 (.bl _)⟩
/-! ### looking at own objects -/
theorem bor_o {ρ : DL.Env} (i : Nat) (d : D) : (DL.bor ρ)[i]? ≠ some (.o d) := by
  unfold DL.bor
  rw [List.getElem?_map]
  cases ρ[i]? with
  | none => simp
  | some u => cases u <;> simp
/-- all but the tables -/
def unB (F H : Hp) : Hp := fun p => match F p with
  | some o => some o
  | none => match H p with
    | some (.tbl _) => none
    | x => x
theorem unB_at {F H : Hp} {p : Addr} {o : HO} (h : H p = some o) (nf : F p = none) (n : ∀ ps, o ≠ .tbl ps := by intro _ z; cases z) : unB F H p = some o := by
  unfold unB
  rw [nf, h]
  cases o <;> first | rfl | exact absurd rfl (n _)
theorem Hold.bor (h : Hold K cl F0 H0 F H σ ρ) : ∃ F', Same F F' ∧ Hold K cl F' H F' H σ (DL.bor ρ) := by
  obtain ⟨θ, hs, hd⟩ := h.sl
  have sf : Same F (unB F H) := fun p o e => by
    unfold unB
    rw [e]
  refine ⟨unB F H, sf, Gr.refl fun p o e => ?_, fun p hp => ?_, by simp [DL.bor, h.len], θ, fun i s e => ?_, fun i j di dj e _ => absurd e (bor_o i di), fun i a d _ e => absurd e (bor_o i d)⟩
  · unfold unB at e
    cases q : F p with
    | some u => rw [q] at e; cases e; exact h.g.s p _ q
    | none =>
      rw [q] at e
      cases q2 : H p with
      | none => rw [q2] at e; cases e
      | some u => rw [q2] at e; cases u <;> cases e <;> rfl
  · obtain ⟨a, b, m⟩ := h.tb p hp
    refine ⟨a, ?_, m⟩
    obtain ⟨ps, e, _⟩ := a
    unfold unB
    rw [b, e]
  · unfold DL.bor at e
    rw [List.getElem?_map] at e
    cases q : ρ[i]? with
    | none => rw [q] at e; cases e
    | some u =>
      rw [q] at e
      cases u with
      | no => cases e; trivial
      | v d => cases e; obtain ⟨v, e1, r⟩ := hs i _ q; exact ⟨v, e1, r.mono sf⟩
      | o d =>
        cases e
        obtain ⟨e1, n0, nf, w⟩ := hs i _ q
        refine ⟨_, e1, ?_⟩
        cases d with
        | lst ds => obtain ⟨vs, z, r⟩ := w; exact .lst (unB_at z nf) (r.mono sf)
        | dk ds => obtain ⟨vs, z, r⟩ := w; exact .dk (unB_at z nf) (r.mono sf)
        | dt ds => obtain ⟨vs, z, r⟩ := w; exact .dt (unB_at z nf) (r.mono sf)
        | ins c ds => obtain ⟨vs, ⟨C, dx, n, z, o, _⟩, r⟩ := w; exact .ins n (unB_at z nf) (sf _ _ o) (r.mono sf)
        | _ => exact w.elim
theorem Rep.flatF {v : V} {d : D} (r : Rep K cl F v d) (h : isFlat d = true) : Rep K cl F' v d := by
  cases r with
  | non => exact .non
  | bl b => exact .bl b
  | int b => exact .int b
  | str b => exact .str b
  | _ => cases h
theorem rfe_bor {te : TE} {t : DT} (ha : RfE K cl W te t) : RfE K cl W te (dBor t) where
  mono2 := fun E E' ρ P P' hE h q => ha.mono noE _ _ _ (fun x q => ⟨q.1, h _ q.2⟩) q
  ok := fun F0 H0 F H σ ρ E Q hh le q => by
    obtain ⟨F', sf, hb⟩ := hh.bor
    refine ha.ok F' H F' H σ _ noE _ hb (fun err ρ σ F H c dx _ z _ => z.elim) (ha.mono noE _ _ _ (fun x q v F1 H1 g1 r1 => ?_) q)
    exact q.2 v F H1 (Gr.hk hh.g.s g1.k ((sf.trans g1.f).trans g1.s)) (r1.flatF q.1)
theorem rfe_ixO {i : Nat} {te : TE} {t : DT} (ha : RfE K cl W te t) : RfE K cl W (tOp (rIxU K) (tVar i) te) (dIxO i t) where
  mono2 := fun E E' ρ P P' hE h q => by
    unfold dIxO at q ⊢
    cases e : ρ[i]? with
    | none => rw [e] at q; exact q.elim
    | some s =>
      rw [e] at q
      cases s with
      | no => exact q.elim
      | v d => exact q.elim
      | o d =>
        cases d with
        | lst xs =>
          refine ha.mono2 E E' ρ _ _ hE (fun y q => ?_) q
          cases y with
          | int k =>
            have q : oGet (DL.atI xs k) P := q
            show oGet (DL.atI xs k) P'
            cases z : DL.atI xs k with
            | none => rw [z] at q; exact q.elim
            | some d => rw [z] at q; exact h _ q
          | _ => exact q.elim
        | _ => exact q.elim
  ok := fun F0 H0 F H σ ρ E Q hh le q => by
    unfold dIxO at q
    cases e : ρ[i]? with
    | none => rw [e] at q; exact q.elim
    | some s =>
      rw [e] at q
      cases s with
      | no => exact q.elim
      | v d => exact q.elim
      | o d =>
        cases d with
        | lst xs =>
          obtain ⟨a, ea, n0, nf, vs, ho, rr⟩ := hh.ownAt e
          refine ⟨.ref a, ea, ha.ok F0 H0 F H σ ρ E _ hh le (ha.mono E ρ _ _ (fun y q u F1 H1 g1 r1 => ?_) q)⟩
          cases r1 with
          | int k =>
            obtain ⟨d, e1, q⟩ := oGet_some q
            obtain ⟨w, e2, r2⟩ := rr.atI e1
            exact .inl (.inl ⟨a, vs, k, w, rfl, rfl, SqL.of (g1.k.get ho), e2, q w F1 H1 g1 (r2.mono g1.f)⟩)
          | _ => exact q.elim
        | _ => exact q.elim
end
end DL

/-! DV: the rules over syntax, as a printed term uses them. -/
namespace DL
open PySem L2 PyProof.Rows
variable [TN]
section
variable {X : Cx} {K : Fg} {cl : Cl} {W : WX} {pos : Pos}
/-! ### expressions -/
theorem ve_var {i : Nat} {x : Str} (hN : X.N[i]? = some x := by rfl) (hv : Vis X.env.scope x := by first | exact Or.inl rfl | exact Or.inr (Or.inl rfl) | exact Or.inr (Or.inr rfl)) (hd : (x == ("__debug__" : Str)) = false := by decide)
    (hcd : (x == ("__classdict__" : Str)) = false := by decide) (hK : X.K = K := by rfl) : VE X K cl W (.Name x pos) (tVar i) (dVar i) := by
  obtain rfl := hK
  exact ⟨pe_var hN hv hd hcd, rfe_var, rfl⟩
theorem ve_int {i j} (hK : X.K = K := by rfl) : VE X K cl W (.Constant (.int i) j pos) (tC (.int i)) (dC (.int i)) := by
  obtain rfl := hK
  exact ⟨pe_int, rfe_c fun _ => .int _, rfl⟩
theorem ve_bl {b j} (hK : X.K = K := by rfl) : VE X K cl W (.Constant (.bool b) j pos) (tC (.bl b)) (dC (.bl b)) := by
  obtain rfl := hK
  exact ⟨pe_bl, rfe_c fun _ => .bl _, rfl⟩
theorem ve_non {j} (hK : X.K = K := by rfl) : VE X K cl W (.Constant .none j pos) (tC .non) (dC .non) := by
  obtain rfl := hK
  exact ⟨pe_non, rfe_c fun _ => .non, rfl⟩
theorem ve_str {x j} (hK : X.K = K := by rfl) : VE X K cl W (.Constant (.str x) j pos) (tC (.str x)) (dC (.str x)) := by
  obtain rfl := hK
  exact ⟨pe_str, rfe_c fun _ => .str _, rfl⟩
theorem ve_glob {x : Str} {v : V} {u : Value} {d : D} (hg : Gl X x) (hm : X.mg x = some u) (r : RelV v u) (rp : ∀ F, Rep K cl F v d) (hd : (x == ("__debug__" : Str)) = false := by decide) (hK : X.K = K := by rfl) : VE X K cl W (.Name x pos) (tC v) (dC d) := by
  obtain rfl := hK
  exact ⟨pe_glob hg hm r hd, rfe_c rp, rfl⟩
theorem ve_globI {x : Str} {n : Int} {tk : Tok} (hg : Gl X x) (hm : X.mg x = some (.int n tk)) (hd : (x == ("__debug__" : Str)) = false := by decide) (hK : X.K = K := by rfl) : VE X K cl W (.Name x pos) (tC (.int n)) (dC (.int n)) := by
  obtain rfl := hK
  exact ⟨pe_glob hg hm ⟨_, rfl⟩ hd, rfe_c fun _ => .int _, rfl⟩
theorem ve_globS {x : Str} {n : Str} {tk : Tok} (hg : Gl X x) (hm : X.mg x = some (.str n tk)) (hd : (x == ("__debug__" : Str)) = false := by decide) (hK : X.K = K := by rfl) : VE X K cl W (.Name x pos) (tC (.str n)) (dC (.str n)) := by
  obtain rfl := hK
  exact ⟨pe_glob hg hm ⟨_, rfl⟩ hd, rfe_c fun _ => .str _, rfl⟩
theorem reps_strs {F : Hp} : ∀ {ns : List Str}, Reps K cl F (ns.map V.str) (ns.map D.str)
  | [] => .nil
  | _ :: _ => .cons (.str _) reps_strs
theorem ve_globTI {x : Str} {a : Addr} {ns : List Int} (hg : Gl X x) (hm : X.mg x = some (.ref a)) (hq : ∀ H, SqT K H a (ns.map V.int)) (hd : (x == ("__debug__" : Str)) = false := by decide) (hK : X.K = K := by rfl) : VE X K cl W (.Name x pos) (tC (.ref a)) (dC (.tup (ns.map .int))) := by
  obtain rfl := hK
  exact ⟨pe_glob hg hm rfl hd, rfe_c fun F => .tup (hq F) (reps_ints _), rfl⟩
theorem ve_globTS {x : Str} {a : Addr} {ns : List Str} (hg : Gl X x) (hm : X.mg x = some (.ref a)) (hq : ∀ H, SqT K H a (ns.map V.str)) (hd : (x == ("__debug__" : Str)) = false := by decide) (hK : X.K = K := by rfl) : VE X K cl W (.Name x pos) (tC (.ref a)) (dC (.tup (ns.map .str))) := by
  obtain rfl := hK
  exact ⟨pe_glob hg hm rfl hd, rfe_c fun F => .tup (hq F) reps_strs, rfl⟩
theorem ve_bin {a b : Expr} {ta tb : TE} {p q : DT} {op : Operator} {r : R2} {f : D → D → DK → Prop} (ho : OpR X (binaryOp op) r) (o : RfOp K cl r f) (ha : VE X K cl W a ta p) (hb : VE X K cl W b tb q) : VE X K cl W (.BinOp a op b pos) (tOp r ta tb) (dOp f p q) := by
  obtain rfl := ha.hK
  exact ⟨pe_op ho ha.pe hb.pe, rfe_op o ha.rf hb.rf, rfl⟩
theorem ve_add {a b : Expr} {ta tb : TE} {p q : DT} (ha : VE X K cl W a ta p) (hb : VE X K cl W b tb q) : VE X K cl W (.BinOp a .Add b pos) (tOp (rAddU K) ta tb) (dOp oAdd p q) := by
  obtain rfl := ha.hK
  exact ve_bin op_addU rf_add ha hb
theorem ve_sub {a b : Expr} {ta tb : TE} {p q : DT} (ha : VE X K cl W a ta p) (hb : VE X K cl W b tb q) : VE X K cl W (.BinOp a .Sub b pos) (tOp (rI0 fun i j => .int (i - j)) ta tb) (dOp oSub p q) := by
  obtain rfl := ha.hK
  exact ve_bin op_sub rf_sub ha hb
theorem ve_mul {a b : Expr} {ta tb : TE} {p q : DT} (ha : VE X K cl W a ta p) (hb : VE X K cl W b tb q) : VE X K cl W (.BinOp a .Mult b pos) (tOp (rMulU K) ta tb) (dOp oMul p q) := by
  obtain rfl := ha.hK
  exact ve_bin op_mulU rf_mul ha hb
theorem ve_div {a b : Expr} {ta tb : TE} {p q : DT} (ha : VE X K cl W a ta p) (hb : VE X K cl W b tb q) : VE X K cl W (.BinOp a .FloorDiv b pos) (tOp (rI CDivW fun i j => .int (i / j)) ta tb) (dOp oDiv p q) := by
  obtain rfl := ha.hK
  exact ve_bin op_fdivW rf_div ha hb
theorem ve_mod {a b : Expr} {ta tb : TE} {p q : DT} (ha : VE X K cl W a ta p) (hb : VE X K cl W b tb q) : VE X K cl W (.BinOp a .Mod b pos) (tOp (rI (fun _ j => 0 < j) fun i j => .int (i % j)) ta tb) (dOp oMod p q) := by
  obtain rfl := ha.hK
  exact ve_bin op_mod rf_mod ha hb
theorem ve_pow {a b : Expr} {ta tb : TE} {p q : DT} (ha : VE X K cl W a ta p) (hb : VE X K cl W b tb q) : VE X K cl W (.BinOp a .Pow b pos) (tOp (rI CPow fun i j => .int (i ^ j.toNat)) ta tb) (dOp oPow p q) := by
  obtain rfl := ha.hK
  exact ve_bin op_pow rf_pow ha hb
theorem ve_neg {a : Expr} {ta : TE} {p : DT} (ha : VE X K cl W a ta p) : VE X K cl W (.UnaryOp .USub a pos) (tUn (rU fun i => .int (-i)) ta) (dUn oNeg p) := by
  obtain rfl := ha.hK
  exact ⟨pe_un un_neg ha.pe, rfe_un rf_neg ha.rf, rfl⟩
/-- an operator of comparison and its two readings -/
structure Cm (X : Cx) (K : Fg) (cl : Cl) (op : CmpOp) (r : R2) (f : D → D → DK → Prop) : Prop where
  o : OpR X (compareOp op) r
  f : RfOp K cl r f
  hK : X.K = K
theorem cm_eq (hu : X.A.units + 65 < cLine) (hK : X.K = K := by rfl) : Cm X K cl .Eq (rEqD K) oEq := by
  obtain rfl := hK
  exact ⟨op_eqD (by omega), rf_eq, rfl⟩
theorem cm_ne (hu : X.A.units + 65 < cLine) (hK : X.K = K := by rfl) : Cm X K cl .NotEq (rNeD K) oNe := by
  obtain rfl := hK
  exact ⟨op_neD (by omega), rf_ne, rfl⟩
theorem cm_lt (hu : X.A.units + 65 < cLine) (hK : X.K = K := by rfl) : Cm X K cl .Lt (rCmpU (fun i j => decide (i < j)) fun i j => decide (i.cps.toList < j.cps.toList)) oLt := by
  obtain rfl := hK
  exact ⟨op_ltU, rf_lt, rfl⟩
theorem cm_le (hu : X.A.units + 65 < cLine) (hK : X.K = K := by rfl) : Cm X K cl .LtE (rCmpU (fun i j => decide (i ≤ j)) fun i j => !decide (j.cps.toList < i.cps.toList)) oLe := by
  obtain rfl := hK
  exact ⟨op_leU, rf_le, rfl⟩
theorem cm_gt (hu : X.A.units + 65 < cLine) (hK : X.K = K := by rfl) : Cm X K cl .Gt (rCmpU (fun i j => decide (j < i)) fun i j => decide (j.cps.toList < i.cps.toList)) oGt := by
  obtain rfl := hK
  exact ⟨op_gtU, rf_gt, rfl⟩
theorem cm_ge (hu : X.A.units + 65 < cLine) (hK : X.K = K := by rfl) : Cm X K cl .GtE (rCmpU (fun i j => decide (j ≤ i)) fun i j => !decide (i.cps.toList < j.cps.toList)) oGe := by
  obtain rfl := hK
  exact ⟨op_geU, rf_ge, rfl⟩
theorem cm_in (hu : X.A.units + 65 < cLine) (hK : X.K = K := by rfl) : Cm X K cl .In (rInU K) oIn := by
  obtain rfl := hK
  exact ⟨op_inU hu, rf_in, rfl⟩
theorem cm_notIn (hu : X.A.units + 65 < cLine) (hK : X.K = K := by rfl) : Cm X K cl .NotIn (rNotInU K) oNotIn := by
  obtain rfl := hK
  exact ⟨op_notInU hu, rf_notIn, rfl⟩
theorem cm_is (hu : X.A.units + 65 < cLine) (hK : X.K = K := by rfl) : Cm X K cl .Is (fun x y H Q => y = .non ∧ Q (.bl (decide (x = .non))) H) oIs := by
  obtain rfl := hK
  exact ⟨op_isN, rf_isN, rfl⟩
theorem cm_isNot (hu : X.A.units + 65 < cLine) (hK : X.K = K := by rfl) : Cm X K cl .IsNot (fun x y H Q => y = .non ∧ Q (.bl (!decide (x = .non))) H) oIsNot := by
  obtain rfl := hK
  exact ⟨op_notN, rf_notN, rfl⟩
theorem ve_cmp {a b : Expr} {ta tb : TE} {p q : DT} {op : CmpOp} {r : R2} {f : D → D → DK → Prop} (c : Cm X K cl op r f) (ha : VE X K cl W a ta p) (hb : VE X K cl W b tb q) (hm : behindInMarks op b = false := by rfl) : VE X K cl W (.Compare a [op] [b] pos) (tOp r ta tb) (dOp f p q) := by
  obtain rfl := c.hK
  exact ⟨pe_cmpR c.o ha.pe hb.pe hm, rfe_op c.f ha.rf hb.rf, rfl⟩
theorem vb_cmp {a b : Expr} {ta tb : TE} {p q : DT} {op : CmpOp} {r : R2} {f : D → D → DK → Prop} (c : Cm X K cl op r f) (ha : VE X K cl W a ta p) (hb : VE X K cl W b tb q) (hm : behindInMarks op b = false := by rfl) : VB X K cl W (.Compare a [op] [b] pos) (tTest (tOp r ta tb)) (bT (dOp f p q)) := by
  obtain rfl := c.hK
  exact ⟨pt_cmpR c.o ha.pe hb.pe hm, rfb_T (rfe_op c.f ha.rf hb.rf), rfl⟩
theorem ve_chain {a b c : Expr} {ta tb tc : TE} {p q s : DT} {op op' : CmpOp} {r r' : R2} {f f' : D → D → DK → Prop} (m : Cm X K cl op r f) (m' : Cm X K cl op' r' f') (ha : VE X K cl W a ta p) (hb : VE X K cl W b tb q) (hc : VE X K cl W c tc s)
    (hm : lastMarks [op, op'] [b, c] = false := by with_unfolding_all rfl) : VE X K cl W (.Compare a [op, op'] [b, c] pos) (tChain r r' ta tb tc) (dChain f f' p q s) := by
  obtain rfl := m.hK
  exact ⟨pe_chain m.o m'.o ha.pe hb.pe hc.pe hm, rfe_chain m.f m'.f ha.rf hb.rf hc.rf, rfl⟩
theorem vb_chain {a b c : Expr} {ta tb tc : TE} {p q s : DT} {op op' : CmpOp} {r r' : R2} {f f' : D → D → DK → Prop} (m : Cm X K cl op r f) (m' : Cm X K cl op' r' f') (ha : VE X K cl W a ta p) (hb : VE X K cl W b tb q) (hc : VE X K cl W c tc s)
    (hm : lastMarks [op, op'] [b, c] = false := by with_unfolding_all rfl) : VB X K cl W (.Compare a [op, op'] [b, c] pos) (tTest (tChain r r' ta tb tc)) (bT (dChain f f' p q s)) := by
  obtain rfl := m.hK
  exact ⟨pt_chain m.o m'.o ha.pe hb.pe hc.pe hm, rfb_T (rfe_chain m.f m'.f ha.rf hb.rf hc.rf), rfl⟩
theorem ve_one {a : Expr} {ta : TE} {p : DT} {op} (ha : VE X K cl W a ta p) : VE X K cl W (.BoolOp op [a] pos) ta p := by
  obtain rfl := ha.hK
  exact ⟨pe_one ha.pe, ha.rf, rfl⟩
theorem ve_and {a b : Expr} {rest : List Expr} {ta tb : TE} {p q : DT} (ha : VE X K cl W a ta p) (hb : VE X K cl W (.BoolOp .And (b :: rest) pos) tb q) : VE X K cl W (.BoolOp .And (a :: b :: rest) pos) (tAndV ta tb) (dAndV p q) := by
  obtain rfl := ha.hK
  exact ⟨pe_and ha.pe hb.pe, rfe_andV ha.rf hb.rf, rfl⟩
theorem ve_or {a b : Expr} {rest : List Expr} {ta tb : TE} {p q : DT} (ha : VE X K cl W a ta p) (hb : VE X K cl W (.BoolOp .Or (b :: rest) pos) tb q) : VE X K cl W (.BoolOp .Or (a :: b :: rest) pos) (tOrV ta tb) (dOrV p q) := by
  obtain rfl := ha.hK
  exact ⟨pe_or ha.pe hb.pe, rfe_orV ha.rf hb.rf, rfl⟩
theorem ve_not {a : Expr} {ta : TE} {p : DT} (ha : VE X K cl W a ta p) : VE X K cl W (.UnaryOp .Not a pos) (tNotV ta) (dNotV p) := by
  obtain rfl := ha.hK
  exact ⟨pe_not ha.pe, rfe_notV ha.rf, rfl⟩
theorem ve_if {c a b : Expr} {tc : TT} {ta tb : TE} {r : DB} {p q : DT} (hc : VB X K cl W c tc r) (ha : VE X K cl W a ta p) (hb : VE X K cl W b tb q) : VE X K cl W (.IfExp c a b pos) (tIf tc ta tb) (dIf r p q) := by
  obtain rfl := hc.hK
  exact ⟨pe_ifExp hc.pe ha.pe hb.pe, rfe_if hc.rf ha.rf hb.rf, rfl⟩
theorem va_nil (hK : X.K = K := by rfl) : VA X K cl W [] tNil aNil := by
  obtain rfl := hK
  exact ⟨pa_nil, rfa_nil, rfl⟩
theorem va_cons {e : Expr} {es : List Expr} {te : TE} {t : TA} {p : DT} {q : DA} (ha : VE X K cl W e te p) (hr : VA X K cl W es t q) (hs : starEach (e :: es) X.env = (false, eval e X.env) :: starEach es X.env := by rfl) : VA X K cl W (e :: es) (tCons te t) (aCons p q) := by
  obtain rfl := ha.hK
  exact ⟨pa_cons ha.pe hr.pe hs, rfa_cons ha.rf hr.rf, rfl⟩
theorem ve_tup {es : List Expr} {x1} {t : TA} {q : DA} (h : VA X K cl W es t q) : VE X K cl W (.Tuple es x1 pos) (tTup t) (dTup q) := by
  obtain rfl := h.hK
  exact ⟨pe_tup h.pe, rfe_tup h.rf, rfl⟩
structure VN (X : Cx) (K : Fg) (cl : Cl) (W : WX) (e : Expr) (te : TE) (t : DT) : Prop where
  pe : PE X e te
  rf : RfN K cl W te t
  hK : X.K = K
theorem VN.e {e : Expr} {te : TE} {t : DT} (h : VN X K cl W e te t) : VE X K cl W e te t := by
  obtain rfl := h.hK
  exact ⟨h.pe, h.rf.e, rfl⟩
theorem vn_lst {es : List Expr} {t : TA} {q : DA} (h : VA X K cl W es t q) : VN X K cl W (.List es pos) (tLst t) (dLst q) := by
  obtain rfl := h.hK
  exact ⟨pe_lst h.pe, rfn_lst h.rf, rfl⟩
theorem ve_lst {es : List Expr} {t : TA} {q : DA} (h : VA X K cl W es t q) : VE X K cl W (.List es pos) (tLst t) (dLst q) := by
  obtain rfl := h.hK
  exact (vn_lst h).e
theorem ve_ix {a b : Expr} {ta tb : TE} {p q : DT} (hu : X.A.units + 65 < cLine) (ha : VE X K cl W a ta p) (hb : VE X K cl W b tb q) (hs : PlainIx b := by exact fun _ _ => rfl) : VE X K cl W (.Subscript a b pos) (tOp (rIxU K) ta tb) (dOp oIx p q) := by
  obtain rfl := ha.hK
  exact ⟨pe_ix (ix_U (by omega)) ha.pe hb.pe hs, rfe_op rf_ix ha.rf hb.rf, rfl⟩
theorem ve_ixO {i : Nat} {x : Str} {p1 : Pos} {b : Expr} {tb : TE} {q : DT} (hu : X.A.units + 65 < cLine) (hb : VE X K cl W b tb q) (hs : PlainIx b := by exact fun _ _ => rfl) (hN : X.N[i]? = some x := by rfl) (hv : Vis X.env.scope x := by first | exact Or.inl rfl | exact Or.inr (Or.inl rfl) | exact Or.inr (Or.inr rfl)) (hd : (x == ("__debug__" : Str)) = false := by decide)
    (hcd : (x == ("__classdict__" : Str)) = false := by decide) : VE X K cl W (.Subscript (.Name x p1) b pos) (tOp (rIxU K) (tVar i) tb) (dIxO i q) := by
  obtain rfl := hb.hK
  exact ⟨pe_ix (ix_U (by omega)) (pe_var hN hv hd hcd) hb.pe hs, rfe_ixO hb.rf, rfl⟩
theorem ve_bor {e : Expr} {te : TE} {p : DT} (h : VE X K cl W e te p) : VE X K cl W e te (dBor p) := by
  obtain rfl := h.hK
  exact ⟨h.pe, rfe_bor h.rf, rfl⟩
theorem vo_N (hK : X.K = K := by rfl) : VO X K cl W none tNoPart oN := by
  obtain rfl := hK
  exact ⟨po_none, rfo_N, rfl⟩
theorem vo_S {e : Expr} {te : TE} {p : DT} (h : VE X K cl W e te p) : VO X K cl W (some e) (tPart te) (oS p) := by
  obtain rfl := h.hK
  exact ⟨po_some h.pe, rfo_S h.rf, rfl⟩
theorem ve_slice {e : Expr} {lo hi : Option Expr} {te : TE} {tl th : TO} {p : DT} {l u : DO} {p2 : Pos} (he : VE X K cl W e te p) (hl : VO X K cl W lo tl l) (hu : VO X K cl W hi th u) : VE X K cl W (.Subscript e (.Slice lo hi none p2) pos) (tSl (rSlU K) te tl th) (dSlice p l u) := by
  obtain rfl := he.hK
  exact ⟨pe_slice sl_U he.pe hl.pe hu.pe, rfe_slice he.rf hl.rf hu.rf, rfl⟩
/-! calls -/
theorem ve_call {Wf : DF} {k : Nat} {f : Addr} {fd : FuncData} {ps : List Str} {x : Str} {p : Pos} {e : Expr} {es : List Expr} {t : TA} {q : DA} (F : FnOk X.prog X.w K X.mg X.base (L2.CX X.prog X.w) k f fd ps (spD K cl Wf)) (hr : Room k X.A) (hg : Gl X x) (mg : X.mg x = some (.ref f)) (hk : PySem.W.keepIn K (.ref f) = true)
    (hb : Binds K fd ps []) (tk : Takes X W) (ha : VA X K cl W (e :: es) t q) (hdb : (x == ("__debug__" : Str)) = false := by decide) (he : starEach (e :: es) X.env = (false, eval e X.env) :: starEach es X.env := by rfl) (hpl : (backTo pos (starEach es X.env)).any (·.1) = false := by rfl) :
    VE X K cl W (.Call (.Name x p) (e :: es) [] pos) (tCallSD (spD K cl Wf) [] (fun σ => WE W σ) t) (dCall Wf q) := by
  obtain rfl := ha.hK
  exact ⟨pe_callSD F hr hg mg hk hb .nil (passAt tk) ha.pe hdb he hpl, rfe_call0 ha.rf, rfl⟩
theorem vn_call {Wf : DF} {k : Nat} {f : Addr} {fd : FuncData} {ps : List Str} {x : Str} {p : Pos} {e : Expr} {es : List Expr} {t : TA} {q : DA} (F : FnOk X.prog X.w K X.mg X.base (L2.CX X.prog X.w) k f fd ps (spN K cl Wf)) (hr : Room k X.A) (hg : Gl X x) (mg : X.mg x = some (.ref f)) (hk : PySem.W.keepIn K (.ref f) = true)
    (hb : Binds K fd ps []) (tk : Takes X W) (ha : VA X K cl W (e :: es) t q) (hdb : (x == ("__debug__" : Str)) = false := by decide) (he : starEach (e :: es) X.env = (false, eval e X.env) :: starEach es X.env := by rfl) (hpl : (backTo pos (starEach es X.env)).any (·.1) = false := by rfl) :
    VN X K cl W (.Call (.Name x p) (e :: es) [] pos) (tCallSD (spN K cl Wf) [] (fun σ => WE W σ) t) (dCall Wf q) := by
  obtain rfl := ha.hK
  exact ⟨pe_callSD F hr hg mg hk hb .nil (passAt tk) ha.pe hdb he hpl, rfn_call0 ha.rf, rfl⟩
theorem ve_callD {Wf : DF} {k : Nat} {f : Addr} {fd : FuncData} {ps : List Str} {x : Str} {p : Pos} {e : Expr} {es : List Expr} {t : TA} {q : DA} {ds : List Value} {dvs : List V} {dds : List D} (F : FnOk X.prog X.w K X.mg X.base (L2.CX X.prog X.w) k f fd ps (spD K cl Wf)) (hr : Room k X.A) (hg : Gl X x) (mg : X.mg x = some (.ref f)) (hk : PySem.W.keepIn K (.ref f) = true)
    (hb : Binds K fd ps ds) (hd : Vals dvs ds) (hr2 : ∀ F, Reps K cl F dvs dds) (tk : Takes X W) (ha : VA X K cl W (e :: es) t q) (hdb : (x == ("__debug__" : Str)) = false := by decide) (he : starEach (e :: es) X.env = (false, eval e X.env) :: starEach es X.env := by rfl) (hpl : (backTo pos (starEach es X.env)).any (·.1) = false := by rfl) :
    VE X K cl W (.Call (.Name x p) (e :: es) [] pos) (tCallSD (spD K cl Wf) dvs (fun σ => WE W σ) t) (dCall (fun xs => Wf (xs ++ dds)) q) := by
  obtain rfl := ha.hK
  exact ⟨pe_callSD F hr hg mg hk hb hd (passAt tk) ha.pe hdb he hpl, rfe_call hr2 ha.rf, rfl⟩
/-- a built-in function, a built-in class, by values -/
structure Bi (X : Cx) (K : Fg) (cl : Cl) (v : Value) (r : List V → Hp → VK → Prop) (f : List D → DK → Prop) : Prop where
  o : CallR X v r
  f : RfC K cl r f
  hK : X.K = K
structure BiN (X : Cx) (K : Fg) (cl : Cl) (v : Value) (r : List V → Hp → VK → Prop) (f : List D → DK → Prop) : Prop where
  o : CallR X v r
  f : RfNC K cl r f
  hK : X.K = K
theorem ve_bfun {id : String} {r : List V → Hp → VK → Prop} {f : List D → DK → Prop} {x : Str} {p : Pos} {e : Expr} {es : List Expr} {t : TA} {q : DA} (b : Bi X K cl (.builtin id) r f) (hg : Gl X x) (hm : X.mg x = some (.builtin id)) (ha : VA X K cl W (e :: es) t q) (hdb : (x == ("__debug__" : Str)) = false := by decide)
    (he : starEach (e :: es) X.env = (false, eval e X.env) :: starEach es X.env := by rfl) (hpl : (backTo pos (starEach es X.env)).any (·.1) = false := by rfl) : VE X K cl W (.Call (.Name x p) (e :: es) [] pos) (tCB r t) (dBlt f q) := by
  obtain rfl := b.hK
  exact ⟨pe_callBfun b.o hg hm ha.pe hdb he hpl, rfe_cb b.f ha.rf, rfl⟩
theorem ve_blt {id : String} {r : List V → Hp → VK → Prop} {f : List D → DK → Prop} {x : Str} {p : Pos} {e : Expr} {es : List Expr} {t : TA} {q : DA} (b : Bi X K cl (.builtin id) r f) (hg : Gl X x) (hm : X.mg x = none) (hv : bootBuiltins x = some (.builtin id)) (ha : VA X K cl W (e :: es) t q) (hn : x ≠ "__name__" := by decide) (hdb : (x == ("__debug__" : Str)) = false := by decide)
    (he : starEach (e :: es) X.env = (false, eval e X.env) :: starEach es X.env := by rfl) (hpl : (backTo pos (starEach es X.env)).any (·.1) = false := by rfl) : VE X K cl W (.Call (.Name x p) (e :: es) [] pos) (tCB r t) (dBlt f q) := by
  obtain rfl := b.hK
  exact ⟨pe_callB b.o hg hm hv ha.pe hn hdb he hpl, rfe_cb b.f ha.rf, rfl⟩
theorem ve_cls {T : String} {r : List V → Hp → VK → Prop} {f : List D → DK → Prop} {x : Str} {p : Pos} {e : Expr} {es : List Expr} {t : TA} {q : DA} (b : Bi X K cl (.type T) r f) (hg : Gl X x) (hm : X.mg x = none) (hv : bootBuiltins x = some (.type T)) (ha : VA X K cl W (e :: es) t q) (hn : x ≠ "__name__" := by decide) (hdb : (x == ("__debug__" : Str)) = false := by decide)
    (he : starEach (e :: es) X.env = (false, eval e X.env) :: starEach es X.env := by rfl) (hpl : (backTo pos (starEach es X.env)).any (·.1) = false := by rfl) : VE X K cl W (.Call (.Name x p) (e :: es) [] pos) (tCB r t) (dBlt f q) := by
  obtain rfl := b.hK
  exact ⟨pe_callTy b.o hg hm hv ha.pe hn hdb he hpl, rfe_cb b.f ha.rf, rfl⟩
theorem vn_blt {id : String} {r : List V → Hp → VK → Prop} {f : List D → DK → Prop} {x : Str} {p : Pos} {e : Expr} {es : List Expr} {t : TA} {q : DA} (b : BiN X K cl (.builtin id) r f) (hg : Gl X x) (hm : X.mg x = none) (hv : bootBuiltins x = some (.builtin id)) (ha : VA X K cl W (e :: es) t q) (hn : x ≠ "__name__" := by decide) (hdb : (x == ("__debug__" : Str)) = false := by decide)
    (he : starEach (e :: es) X.env = (false, eval e X.env) :: starEach es X.env := by rfl) (hpl : (backTo pos (starEach es X.env)).any (·.1) = false := by rfl) : VN X K cl W (.Call (.Name x p) (e :: es) [] pos) (tCB r t) (dBlt f q) := by
  obtain rfl := b.hK
  exact ⟨pe_callB b.o hg hm hv ha.pe hn hdb he hpl, rfn_cb b.f ha.rf, rfl⟩
theorem vn_cls {T : String} {r : List V → Hp → VK → Prop} {f : List D → DK → Prop} {x : Str} {p : Pos} {e : Expr} {es : List Expr} {t : TA} {q : DA} (b : BiN X K cl (.type T) r f) (hg : Gl X x) (hm : X.mg x = none) (hv : bootBuiltins x = some (.type T)) (ha : VA X K cl W (e :: es) t q) (hn : x ≠ "__name__" := by decide) (hdb : (x == ("__debug__" : Str)) = false := by decide)
    (he : starEach (e :: es) X.env = (false, eval e X.env) :: starEach es X.env := by rfl) (hpl : (backTo pos (starEach es X.env)).any (·.1) = false := by rfl) : VN X K cl W (.Call (.Name x p) (e :: es) [] pos) (tCB r t) (dBlt f q) := by
  obtain rfl := b.hK
  exact ⟨pe_callTy b.o hg hm hv ha.pe hn hdb he hpl, rfn_cb b.f ha.rf, rfl⟩
theorem bi_len (hK : X.K = K := by rfl) : Bi X K cl (.builtin "len") (rLenU K) fLen := by
  obtain rfl := hK
  exact ⟨cr_lenU, rf_len, rfl⟩
theorem bi_gcd (hK : X.K = K := by rfl) : Bi X K cl (.builtin "math.gcd") rGcd fGcd := by
  obtain rfl := hK
  exact ⟨cr_gcd, rf_gcd, rfl⟩
theorem bi_abs (hK : X.K = K := by rfl) : Bi X K cl (.builtin "abs") (fun xs H Q => ∃ i, xs = [.int i] ∧ Q (.int (if i < 0 then -i else i)) H) fAbs := by
  obtain rfl := hK
  exact ⟨call_abs, rf_abs, rfl⟩
theorem bi_min (hc : X.calm = true) (hK : X.K = K := by rfl) : Bi X K cl (.builtin "min") (rMinU K) fMin := by
  obtain rfl := hK
  exact ⟨cr_minU hc, rf_min, rfl⟩
theorem bi_max (hc : X.calm = true) (hK : X.K = K := by rfl) : Bi X K cl (.builtin "max") (rMaxU K) fMax := by
  obtain rfl := hK
  exact ⟨cr_maxU hc, rf_max, rfl⟩
theorem bi_sum (hc : X.calm = true) (hK : X.K = K := by rfl) : Bi X K cl (.builtin "sum") (rSumU K) fSum := by
  obtain rfl := hK
  exact ⟨cr_sumU hc, rf_sum, rfl⟩
theorem bi_all (hc : X.calm = true) (hK : X.K = K := by rfl) : Bi X K cl (.builtin "all") (rAll K) fAll := by
  obtain rfl := hK
  exact ⟨cr_all hc, rf_all, rfl⟩
theorem bi_any (hc : X.calm = true) (hK : X.K = K := by rfl) : Bi X K cl (.builtin "any") (rAny K) fAny := by
  obtain rfl := hK
  exact ⟨cr_any hc, rf_any, rfl⟩
theorem bi_int (hK : X.K = K := by rfl) : Bi X K cl (.type "int") (fun xs H Q => (∃ i, xs = [.int i] ∧ Q (.int i) H) ∨ ∃ k, xs = [.bl k] ∧ Q (.int (if k then 1 else 0)) H) fInt := by
  obtain rfl := hK
  exact ⟨call_int1, rf_int, rfl⟩
theorem bi_str (hK : X.K = K := by rfl) : Bi X K cl (.type "str") (fun xs H Q => ∃ i, xs = [.int i] ∧ i.natAbs.log2 < 1920 ∧ Q (.str (toString i)) H) fStr := by
  obtain rfl := hK
  exact ⟨call_str_int, rf_str, rfl⟩
theorem bi_divmod (hK : X.K = K := by rfl) : Bi X K cl (.builtin "divmod") (fun xs H Q => ∃ i j, xs = [.int i, .int j] ∧ CDiv i j ∧ ∀ p, H p = none → Q (.ref p) (upd H p (.tup [.int (i / j), .int (i % j)]))) fDivmod := by
  obtain rfl := hK
  exact ⟨call_divmod, rf_divmod, rfl⟩
theorem bi_tuple (hK : X.K = K := by rfl) : Bi X K cl (.type "tuple") (fun xs H Q => ∃ p ys, xs = [.ref p] ∧ ((SqL K H p ys ∧ ∀ l, H l = none → Q (.ref l) (upd H l (.tup ys))) ∨ (SqT K H p ys ∧ Q (.ref p) H))) fTuple := by
  obtain rfl := hK
  exact ⟨call_tuple_of, rf_tuple, rfl⟩
theorem bn_list (hc : X.calm = true := by rfl) (hK : X.K = K := by rfl) : BiN X K cl (.type "list") (rListU K) fList := by
  obtain rfl := hK
  exact ⟨cr_listU hc, rf_list, rfl⟩
theorem bn_sorted (hc : X.calm = true := by rfl) (hK : X.K = K := by rfl) : BiN X K cl (.builtin "sorted") (rSortedU K) fSorted := by
  obtain rfl := hK
  exact ⟨cr_sortedU hc, rf_sorted, rfl⟩
theorem ve_isi {x c : Str} {cs : String} {p p' : Pos} {e : Expr} {te : TE} {t : DT} (hg : Gl X x) (hm : X.mg x = none) (hv : bootBuiltins x = some (.builtin "isinstance")) (hg2 : Gl X c) (hm2 : X.mg c = none) (hv2 : bootBuiltins c = some (.type cs)) (hc : cs ∈ ["int", "bool", "str", "tuple", "list", "dict"]) (ha : VE X K cl W e te t)
    (hn : x ≠ "__name__" := by decide) (hdb : (x == ("__debug__" : Str)) = false := by decide) (hn2 : c ≠ "__name__" := by decide) (hdb2 : (c == ("__debug__" : Str)) = false := by decide)
    (he : starEach [e, .Name c p'] X.env = (false, eval e X.env) :: starEach [.Name c p'] X.env := by rfl) (he2 : starEach [.Name c p'] X.env = (false, eval (.Name c p') X.env) :: starEach [] X.env := by rfl) (hpl : (backTo pos (starEach [.Name c p'] X.env)).any (·.1) = false := by rfl) :
    VE X K cl W (.Call (.Name x p) [e, .Name c p'] [] pos) (tCB (rIsi K) (tCons te (tCons (tC (.ty cs)) tNil))) (dIsi cs t) := by
  obtain rfl := ha.hK
  exact ⟨pe_callB call_isi hg hm hv (pa_cons ha.pe (pa_cons (pe_bltn hg2 hm2 hv2 rfl hn2 hdb2) pa_nil he2) he) hn hdb he hpl, rfe_isi hc ha.rf, rfl⟩
/-! tests -/
theorem vb_val {e : Expr} {te : TE} {t : DT} (h : VE X K cl W e te t) (he : ∀ whole, isTrue e X.env whole = (do let v ← whole; standAt e.pos; holding [v] (truthy v)) := by intro _; rfl) : VB X K cl W e (tB te) (bT t) := by
  obtain rfl := h.hK
  exact ⟨pt_val h.pe he, rfb_T h.rf, rfl⟩
def tTruA (K : Fg) (ta : TE) : TT := fun σ H Q => ta σ H fun x H' => ∃ k, TruV K x H' k ∧ Q k H'
theorem rfb_truth {te : TE} {t : DT} (ha : RfE K cl W te t) : RfB K cl W (tTruA K te) (bTruth t) where
  mono2 := fun E E' ρ P P' hE h q => ha.mono2 E E' ρ _ _ hE (fun x q => by
    cases x with
    | str z => exact ⟨q.1, h _ q.2⟩
    | non => exact h _ q
    | bl b => exact h _ q
    | int i => exact h _ q
    | lst l => exact h _ q
    | tup l => exact h _ q
    | dk l => exact h _ q
    | _ => exact q.elim) q
  ok := fun F0 H0 F H σ ρ E Q hh le q => by
    have em : ∀ {vs : List V} {ds : List D}, vs.length = ds.length → vs.isEmpty = ds.isEmpty := fun {vs ds} h => by
      cases vs <;> cases ds <;> simp at h ⊢
    refine ha.ok F0 H0 F H σ ρ E _ hh le (ha.mono E ρ _ _ (fun x q v F1 H1 g1 r1 => ?_) q)
    cases r1 with
    | non => exact ⟨false, rfl, q F1 H1 g1⟩
    | bl b => exact ⟨b, rfl, q F1 H1 g1⟩
    | int i => exact ⟨_, rfl, q F1 H1 g1⟩
    | str z => exact ⟨_, ⟨by rw [← line_eq]; exact q.1, by
        rw [Bool.eq_iff_iff]
        simp⟩, q.2 F1 H1 g1⟩
    | lst e r => exact ⟨_, .inl ⟨_, SqL.of (g1.s _ _ e), by rw [em r.length]⟩, q F1 H1 g1⟩
    | tup e r => exact ⟨_, .inr (.inl ⟨_, same_t g1.s e, by rw [em r.length]⟩), q F1 H1 g1⟩
    | dk e r => exact ⟨_, .inr (.inr ⟨_, g1.s _ _ e, by cases r <;> rfl⟩), q F1 H1 g1⟩
    | _ => exact q.elim
theorem vb_truth {e : Expr} {te : TE} {t : DT} (h : VE X K cl W e te t) (he : ∀ whole, isTrue e X.env whole = (do let v ← whole; standAt e.pos; holding [v] (truthy v)) := by intro _; rfl) : VB X K cl W e (tTruA K te) (bTruth t) := by
  obtain rfl := h.hK
  exact ⟨pt_truth h.pe he, rfb_truth h.rf, rfl⟩
theorem VW.b {e : Expr} {te : TT} {t : DB} (h : VW X K cl W e te t) : VB X K cl W e te t := by
  obtain rfl := h.hK
  exact ⟨h.pe.pt, h.rf, rfl⟩
theorem vw_and1 {a : Expr} {tA : TT} {p : DB} (ha : VB X K cl W a tA p) : VW X K cl W (.BoolOp .And [a] pos) tA p := by
  obtain rfl := ha.hK
  exact ⟨pw_and1 ha.pe, ha.rf, rfl⟩
theorem vw_or1 {a : Expr} {tA : TT} {p : DB} (ha : VB X K cl W a tA p) : VW X K cl W (.BoolOp .Or [a] pos) tA p := by
  obtain rfl := ha.hK
  exact ⟨pw_or1 ha.pe, ha.rf, rfl⟩
theorem vw_and {a b : Expr} {rest : List Expr} {tA tB' : TT} {p q : DB} (ha : VB X K cl W a tA p) (hb : VW X K cl W (.BoolOp .And (b :: rest) pos) tB' q) : VW X K cl W (.BoolOp .And (a :: b :: rest) pos) (tAnd tA tB') (bAnd p q) := by
  obtain rfl := ha.hK
  exact ⟨pw_and ha.pe hb.pe, rfb_and ha.rf hb.rf, rfl⟩
theorem vw_or {a b : Expr} {rest : List Expr} {tA tB' : TT} {p q : DB} (ha : VB X K cl W a tA p) (hb : VW X K cl W (.BoolOp .Or (b :: rest) pos) tB' q) : VW X K cl W (.BoolOp .Or (a :: b :: rest) pos) (tOr tA tB') (bOr p q) := by
  obtain rfl := ha.hK
  exact ⟨pw_or ha.pe hb.pe, rfb_or ha.rf hb.rf, rfl⟩
theorem vb_not {a : Expr} {tA : TT} {p : DB} (ha : VB X K cl W a tA p) : VB X K cl W (.UnaryOp .Not a pos) (tNot tA) (bNot p) := by
  obtain rfl := ha.hK
  exact ⟨pt_not ha.pe, rfb_not ha.rf, rfl⟩
theorem rfb_bor {te : TT} {t : DB} {K : Fg} (ha : RfB K cl W te t) : RfB K cl W te (bBor t) where
  mono2 := fun E E' ρ P P' hE h q => ha.mono noE _ _ _ (fun x q => h _ q) q
  ok := fun F0 H0 F H σ ρ E Q hh le q => by
    obtain ⟨F', sf, hb⟩ := hh.bor
    exact ha.ok F' H F' H σ _ noE _ hb (fun err ρ σ F H c dx _ z _ => z.elim) (ha.mono noE _ _ _ (fun x q F1 H1 g1 => q F H1 (Gr.hk hh.g.s g1.k ((sf.trans g1.f).trans g1.s))) q)
theorem vb_bor {e : Expr} {te : TT} {t : DB} (h : VB X K cl W e te t) : VB X K cl W e te (bBor t) := by
  obtain rfl := h.hK
  exact ⟨h.pe, rfb_bor h.rf, rfl⟩
/-! what is walked -/
theorem vi_seq {tg e : Expr} {te : TE} {t : DT} (h : VE X K cl W e te t) : VI X K cl W tg e (iU K te) (iSeq t) := by
  obtain rfl := h.hK
  exact ⟨pi_U h.pe, rfi_seq h.rf, rfl⟩
theorem vi_rng1 {tg a : Expr} {ta : TA} {t : DA} {p : Pos} (hg : Gl X "range") (hm : X.mg "range" = none) (ha : VA X K cl W [a] ta t) (hs : starEach [a] X.env = [(false, eval a X.env)] := by rfl) : VI X K cl W tg (.Call (.Name "range" p) [a] [] pos) (L2.iRng1 ta) (DL.iRng1 t) := by
  obtain rfl := ha.hK
  exact ⟨pi_range1 hg hm ha.pe hs, rfi_rng1 ha.rf, rfl⟩
theorem vi_rng2 {tg a b : Expr} {ta : TA} {t : DA} {p : Pos} (hg : Gl X "range") (hm : X.mg "range" = none) (ha : VA X K cl W [a, b] ta t) (hs : starEach [a, b] X.env = [(false, eval a X.env), (false, eval b X.env)] := by rfl) (hs2 : starEach [b] X.env = [(false, eval b X.env)] := by rfl) : VI X K cl W tg (.Call (.Name "range" p) [a, b] [] pos) (L2.iRng2 ta) (DL.iRng2 t) := by
  obtain rfl := ha.hK
  exact ⟨pi_range2 hg hm ha.pe hs hs2, rfi_rng2 ha.rf, rfl⟩
theorem vi_enum {e : Expr} {ta : TA} {t : DA} {p tpos : Pos} {elts : List Expr} {kk : Nat} (hg : Gl X "enumerate") (hm : X.mg "enumerate" = none) (ha : VA X K cl W [e] ta t) (hs : starEach [e] X.env = [(false, eval e X.env)] := by rfl) : VI X K cl W (.Tuple elts kk tpos) (.Call (.Name "enumerate" p) [e] [] pos) (L2.iEnum K ta) (DL.iEnum t) := by
  obtain rfl := ha.hK
  exact ⟨pi_enum hg hm ha.pe hs, rfi_enum ha.rf, rfl⟩
theorem vi_zip {e e2 : Expr} {ta : TA} {t : DA} {p tpos : Pos} {elts : List Expr} {kk : Nat} (hg : Gl X "zip") (hm : X.mg "zip" = none) (ha : VA X K cl W [e, e2] ta t) (hs : starEach [e, e2] X.env = (false, eval e X.env) :: starEach [e2] X.env := by rfl) (hpl : (backTo pos (starEach [e2] X.env)).any (·.1) = false := by rfl) : VI X K cl W (.Tuple elts kk tpos) (.Call (.Name "zip" p) [e, e2] [] pos) (RZ.iZipA K ta) (DL.iZip t) := by
  obtain rfl := ha.hK
  exact ⟨RZ.pi_zipA hg hm ha.pe hs hpl, rfi_zip ha.rf, rfl⟩
theorem vi_rev {tg e : Expr} {te : TE} {t : DT} {p : Pos} (hg : Gl X "reversed") (hm : X.mg "reversed" = none) (he : VE X K cl W e te t) (hs : starEach [e] X.env = (false, eval e X.env) :: starEach [] X.env := by rfl) : VI X K cl W tg (.Call (.Name "reversed" p) [e] [] pos) (RT.iRevA K te) (DL.iRev t) := by
  obtain rfl := he.hK
  exact ⟨RT.pi_revA hg hm he.pe hs, rfi_rev he.rf, rfl⟩
/-! targets -/
structure VT (X : Cx) (K : Fg) (cl : Cl) (js : List Nat) (e : Expr) (te : TG) (t : DG) : Prop where
  pe : PG X e te
  rf : RfG K cl js te t
  no : NoO t
  go : ∀ d ρ (P : DL.Env → Prop), t d ρ P → ∃ ρ', P ρ'
  hK : X.K = K
structure VTs (X : Cx) (K : Fg) (cl : Cl) (js : List Nat) (n : Nat) (e : List Expr) (te : TGs) (t : DGs) : Prop where
  pe : PGs X e te
  rf : RfGs K cl js te t
  no : NoOs t
  go : ∀ d ρ (P : DL.Env → Prop), t d ρ P → ∃ ρ', P ρ'
  len : ∀ xs ρ Q, t xs ρ Q → xs.length = n
  hK : X.K = K
theorem vt_name {i : Nat} {x : Str} (hN : X.N.Nodup) (hi : X.N[i]? = some x := by rfl) (hx : Loc X.env.scope x := by first | exact Or.inl rfl | exact Or.inr rfl) (hf : X.fn x = true ∨ X.env.scope.names.lookup x = some .local := by first | exact .inl rfl | exact .inr rfl | assumption) (hK : X.K = K := by rfl) : VT X K cl [i] (.Name x pos) (L2.gName i) (DL.gName i) := by
  obtain rfl := hK
  exact ⟨pg_name hN hi hx hf, rfg_name, noO_name, fun _ _ _ q => ⟨_, q⟩, rfl⟩
theorem vts_nil (hK : X.K = K := by rfl) : VTs X K cl [] 0 [] L2.gNil DL.gNil := by
  obtain rfl := hK
  exact ⟨pgs_nil, rfgs_nil, noOs_nil, fun _ _ _ q => ⟨_, q.2⟩, fun xs ρ Q q => by rw [q.1]; rfl, rfl⟩
theorem vts_cons {js ks : List Nat} {n : Nat} {e : Expr} {es : List Expr} {g : TG} {gs : TGs} {t : DG} {ts : DGs} (h1 : VT X K cl js e g t) (h2 : VTs X K cl ks n es gs ts) (hs : (assignEach (e :: es) X.env).map (·.2) = assign e X.env :: (assignEach es X.env).map (·.2) := by rfl) : VTs X K cl (js ++ ks) (n + 1) (e :: es) (L2.gCons g gs) (DL.gCons t ts) := by
  obtain rfl := h1.hK
  exact ⟨pgs_cons h1.pe h2.pe hs, rfgs_cons h1.rf h2.rf, noOs_cons h1.rf.mono h1.no h2.no, fun d ρ P q => by
    cases d with
    | nil => exact q.elim
    | cons x r =>
      obtain ⟨ρ', q⟩ := h1.go _ _ _ q
      exact h2.go _ _ _ q, gCons_len h2.len h1.go, rfl⟩
theorem vt_tup {js : List Nat} {n : Nat} {es : List Expr} {k : Nat} {gs : TGs} {ts : DGs} (hc : X.calm = true) (h : VTs X K cl js n es gs ts) (hn : (assignEach es X.env).length = n := by rfl) (hst : (assignEach es X.env).findIdx? (·.1) = none := by rfl) : VT X K cl js (.Tuple es k pos) (gTL K n gs) (DL.gTup ts) := by
  obtain rfl := h.hK
  exact ⟨pg_tl hc h.pe hn hst, rfg_tup h.rf h.len, noO_tup h.no, fun d ρ P q => by
    cases d <;> first | exact h.go _ _ _ q | exact q.elim, rfl⟩
/-! ### statements -/
theorem vss_nil (hK : X.K = K := by rfl) : VSs X K cl W [] L2.tNext sNext := by
  obtain rfl := hK
  exact ⟨pss_nil, rfs_next, rfl⟩
theorem vss_cons {st : Stmt} {rest : List Stmt} {t u : TS} {a b : DS} (h1 : VS X K cl W st t a) (h2 : VSs X K cl W rest u b) : VSs X K cl W (st :: rest) (tSeq t u) (sSeq a b) := by
  obtain rfl := h1.hK
  exact ⟨pss_cons h1.pe h2.pe, rfs_seq h1.rf h2.rf, rfl⟩
theorem vss_one {st : Stmt} {t : TS} {a : DS} (h1 : VS X K cl W st t a) : VSs X K cl W [st] t a := by
  obtain rfl := h1.hK
  exact ⟨pss_one h1.pe, h1.rf, rfl⟩
theorem vs_pass (hK : X.K = K := by rfl) : VS X K cl W (.Pass pos) L2.tNext sNext := by
  obtain rfl := hK
  exact ⟨ps_pass, rfs_next, rfl⟩
theorem vs_break (hK : X.K = K := by rfl) : VS X K cl W (.Break pos) L2.tBreak sBreak := by
  obtain rfl := hK
  exact ⟨ps_break, rfs_break, rfl⟩
theorem vs_cont (hK : X.K = K := by rfl) : VS X K cl W (.Continue pos) L2.tCont sCont := by
  obtain rfl := hK
  exact ⟨ps_continue, rfs_cont, rfl⟩
theorem vs_expr {e : Expr} {te : TE} {t : DT} (h : VE X K cl W e te t) (hs : swapsWith e none pos.line X.env = pure false := by rfl) : VS X K cl W (.Expr e pos) (tDrop te) (sDrop t) := by
  obtain rfl := h.hK
  exact ⟨ps_expr h.pe hs, rfs_drop h.rf, rfl⟩
theorem vs_ret {e : Expr} {te : TE} {t : DT} (h : VE X K cl W e te t) (hf : cl.fr = false := by rfl) : VS X K cl W (.Return (some e) pos) (tRet te) (sRet t) := by
  obtain rfl := h.hK
  exact ⟨ps_ret h.pe, rfs_ret hf h.rf, rfl⟩
theorem vs_retNew {e : Expr} {te : TE} {t : DT} (h : VN X K cl W e te t) (hf : cl.fr = true := by rfl) : VS X K cl W (.Return (some e) pos) (tRet te) (sRet t) := by
  obtain rfl := h.hK
  exact ⟨ps_ret h.pe, rfs_retNew hf h.rf, rfl⟩
theorem vs_retO {i : Nat} {x : Str} {p1 : Pos} (hN : X.N[i]? = some x := by rfl) (hv : Vis X.env.scope x := by first | exact Or.inl rfl | exact Or.inr (Or.inl rfl) | exact Or.inr (Or.inr rfl)) (hd : (x == ("__debug__" : Str)) = false := by decide)
    (hcd : (x == ("__classdict__" : Str)) = false := by decide) (hK : X.K = K := by rfl) (hf : cl.fr = true := by rfl) : VS X K cl W (.Return (some (.Name x p1)) pos) (tRet (tVar i)) (sRetO i) := by
  obtain rfl := hK
  exact ⟨ps_ret (pe_var hN hv hd hcd), rfs_retO hf, rfl⟩
theorem vs_retN (hK : X.K = K := by rfl) (hf : cl.fr = false := by rfl) : VS X K cl W (.Return none pos) tRetN sRetN := by
  obtain rfl := hK
  exact ⟨ps_retN, rfs_retN hf, rfl⟩
theorem vs_if {c : Expr} {a b : List Stmt} {tc : TT} {t u : TS} {p : DB} {q r : DS} (hc : VB X K cl W c tc p) (ha : VSs X K cl W a t q) (hb : VSs X K cl W b u r) : VS X K cl W (.If c a b pos) (tIfS tc t u) (sIf p q r) := by
  obtain rfl := hc.hK
  exact ⟨ps_if hc.pe ha.pe hb.pe, rfs_if hc.rf ha.rf hb.rf, rfl⟩
theorem vs_set {i : Nat} {x : Str} {e : Expr} {te : TE} {t : DT} {pos' : Pos} (hN : X.N.Nodup) (he : VE X K cl W e te t) (hi : X.N[i]? = some x := by rfl) (hx : Loc X.env.scope x := by first | exact Or.inl rfl | exact Or.inr rfl) (hs : swapsWith e (some (.Name x pos')) pos.line X.env = pure false := by rfl) (hf : X.fn x = true ∨ X.env.scope.names.lookup x = some .local := by first | exact .inl rfl | exact .inr rfl | assumption) :
    VS X K cl W (.Assign [.Name x pos'] e pos) (tAsg te (L2.gName i)) (sSet i t) := by
  obtain rfl := he.hK
  exact ⟨ps_set hN hi hx he.pe hs hf, rfs_set he.rf, rfl⟩
theorem vs_own {i : Nat} {x : Str} {e : Expr} {te : TE} {t : DT} {pos' : Pos} (hN : X.N.Nodup) (he : VN X K cl W e te t) (hi : X.N[i]? = some x := by rfl) (hx : Loc X.env.scope x := by first | exact Or.inl rfl | exact Or.inr rfl) (hs : swapsWith e (some (.Name x pos')) pos.line X.env = pure false := by rfl) (hf : X.fn x = true ∨ X.env.scope.names.lookup x = some .local := by first | exact .inl rfl | exact .inr rfl | assumption) (hpi : cl.pin i = none := by rfl) :
    VS X K cl W (.Assign [.Name x pos'] e pos) (tAsg te (L2.gName i)) (sOwn i t) := by
  obtain rfl := he.hK
  exact ⟨ps_set hN hi hx he.pe hs hf, rfs_own hpi he.rf, rfl⟩
theorem vs_asg {js : List Nat} {tg e : Expr} {te : TE} {t : DT} {g : TG} {d : DG} (he : VE X K cl W e te t) (hg : VT X K cl js tg g d) (hs : swapsWithSole [tg] e pos.line X.env = pure false := by rfl) (hw : swappedStores [tg] e X.env = pure none := by rfl) (h1 : (assignEach [tg] X.env).map (·.2) = [assign tg X.env] := by rfl) :
    VS X K cl W (.Assign [tg] e pos) (tAsg te g) (sAsg t d) := by
  obtain rfl := he.hK
  exact ⟨ps_asg he.pe hg.pe hs hw h1, rfs_asg he.rf hg.rf, rfl⟩
theorem vs_par {i j : Nat} {x y : Str} {a b : Expr} {ta : TA} {q : DA} {px py pt : Pos} {kt k2 pt2} (hc : X.calm = true) (hN : X.N.Nodup) (ha : VA X K cl W [a, b] ta q) (hi : X.N[i]? = some x := by rfl) (hj : X.N[j]? = some y := by rfl) (hij : i ≠ j := by decide)
    (hx : X.env.scope.names.lookup x = some .local := by rfl) (hy : X.env.scope.names.lookup y = some .local := by rfl) (hw : swappedStores [.Tuple [.Name x px, .Name y py] kt pt] (.Tuple [a, b] k2 pt2) X.env = pure (some [x, y]) := by rfl)
    (hs : swapsWithSole [.Tuple [.Name x px, .Name y py] kt pt] (.Tuple [a, b] k2 pt2) pos.line X.env = pure false := by rfl) :
    VS X K cl W (.Assign [.Tuple [.Name x px, .Name y py] kt pt] (.Tuple [a, b] k2 pt2) pos) (tPar i j ta) (sPar i j q) := by
  obtain rfl := ha.hK
  exact ⟨ps_par hc hN hi hj hij hx hy ha.pe hw hs, rfs_par ha.rf, rfl⟩
theorem rf_ipI {g : Int → Int → Int} {f : D → D → DK → Prop} {K : Fg} (hf : ∀ i j Q, f (.int i) (.int j) Q = Q (.int (g i j))) (hn : ∀ x y Q, f x y Q → ∃ i j, x = .int i ∧ y = .int j) : RfIp K cl (ipI g) f where
  mono := fun x y P P' h q => by
    obtain ⟨i, j, rfl, rfl⟩ := hn x y P q
    rw [hf] at q ⊢
    exact h _ q
  ok := fun F H v u x y Q s rx ry q => by
    obtain ⟨i, j, rfl, rfl⟩ := hn x y _ q
    rw [hf] at q
    cases rx
    cases ry
    exact ⟨i, j, rfl, rfl, q _ F H (Gr.refl s) (.int _)⟩
theorem vs_augAdd {i : Nat} {x : Str} {e : Expr} {te : TE} {t : DT} {pos' : Pos} (hN : X.N.Nodup) (he : VE X K cl W e te t) (hi : X.N[i]? = some x := by rfl) (hx : Loc X.env.scope x := by first | exact Or.inl rfl | exact Or.inr rfl) (hf : X.fn x = true ∨ X.env.scope.names.lookup x = some .local := by first | exact .inl rfl | exact .inr rfl | assumption) :
    VS X K cl W (.AugAssign (.Name x pos') .Add e pos) (tAug i te (ipI fun i j => i + j)) (sAug i oAddI t) := by
  obtain rfl := he.hK
  exact ⟨ps_aug hN hi hx he.pe ip_add hf, rfs_aug (rf_ipI (fun _ _ _ => rfl) fun x y Q q => by cases x <;> cases y <;> first | exact ⟨_, _, rfl, rfl⟩ | exact q.elim) he.rf, rfl⟩
theorem vs_augSub {i : Nat} {x : Str} {e : Expr} {te : TE} {t : DT} {pos' : Pos} (hN : X.N.Nodup) (he : VE X K cl W e te t) (hi : X.N[i]? = some x := by rfl) (hx : Loc X.env.scope x := by first | exact Or.inl rfl | exact Or.inr rfl) (hf : X.fn x = true ∨ X.env.scope.names.lookup x = some .local := by first | exact .inl rfl | exact .inr rfl | assumption) :
    VS X K cl W (.AugAssign (.Name x pos') .Sub e pos) (tAug i te (ipI fun i j => i - j)) (sAug i oSub t) := by
  obtain rfl := he.hK
  exact ⟨ps_aug hN hi hx he.pe ip_sub hf, rfs_aug (rf_ipI (fun _ _ _ => rfl) fun x y Q q => by cases x <;> cases y <;> first | exact ⟨_, _, rfl, rfl⟩ | exact q.elim) he.rf, rfl⟩
theorem vs_app {i : Nat} {x : Str} {e : Expr} {te : TE} {t : DT} {p1 apos cpos : Pos} (he : VE X K cl W e te t) (hN : X.N[i]? = some x := by rfl) (hv : Vis X.env.scope x := by first | exact Or.inl rfl | exact Or.inr (Or.inl rfl) | exact Or.inr (Or.inr rfl)) (hd : (x == ("__debug__" : Str)) = false := by decide)
    (hcd : (x == ("__classdict__" : Str)) = false := by decide) (hs1 : starEach [e] X.env = (false, eval e X.env) :: starEach [] X.env := by rfl)
    (hbase : attributeBase (.Name x p1) "append" X.env (eval (.Name x p1) X.env) = eval (.Name x p1) X.env := by rfl)
    (hfew : ((backTo cpos (starEach [e] X.env)).all (fun x => !x.1) && (backToKw cpos (keywordEach [] X.env)).all (fun x => x.1.isSome)
      && decide ([e].length + ([] : List Keyword).length + (if ([] : List Keyword).isEmpty then 0 else 1) < 30)) = true := by rfl)
    (hline : (apos.endLine == cpos.line) = true := by rfl) (hplain : (backTo cpos (starEach [] X.env)).any (·.1) = false := by rfl)
    (hs : swapsWith (.Call (.Attribute (.Name x p1) "append" apos) [e] [] cpos) none pos.line X.env = pure false := by rfl) :
    VS X K cl W (.Expr (.Call (.Attribute (.Name x p1) "append" apos) [e] [] cpos) pos) (tAppS K i te) (sApp i t) := by
  obtain rfl := he.hK
  exact ⟨ps_expr (pe_bm PySem.F.plainAttrs_list PySem.F.slot_list_append PySem.F.type_list_append mt_append (pe_var hN hv hd hcd) (pa_cons he.pe pa_nil hs1) hbase hfew hline hs1 hplain) hs, rfs_app he.rf, rfl⟩
theorem vs_frz {i : Nat} {st : Stmt} {ts : TS} {t : DS} (h : VS X K cl W st ts t) : VS X K cl W st ts (sFrz i t) := by
  obtain rfl := h.hK
  exact ⟨h.pe, rfs_frz h.rf, rfl⟩
theorem vs_fgt {js : List Nat} {st : Stmt} {ts : TS} {t : DS} (h : VS X K cl W st ts t) : VS X K cl W st ts (sFgt js t) := by
  obtain rfl := h.hK
  exact ⟨h.pe, rfs_fgt h.rf, rfl⟩
theorem vss_frz {i : Nat} {st : List Stmt} {ts : TS} {t : DS} (h : VSs X K cl W st ts t) : VSs X K cl W st ts (sFrz i t) := ⟨h.pe, rfs_frz h.rf, h.hK⟩
theorem vss_fgt {js : List Nat} {st : List Stmt} {ts : TS} {t : DS} (h : VSs X K cl W st ts t) : VSs X K cl W st ts (sFgt js t) := by
  obtain rfl := h.hK
  exact ⟨h.pe, rfs_fgt h.rf, rfl⟩
theorem vs_for {js : List Nat} {tg iter : Expr} {body : List Stmt} {wi : TI} {it : DI} {g : TG} {d : DG} {tb : TS} {b : DS} (hp : PassesOwn (model X.prog X.w) X.A X.env X.xe) (hc : X.calm = true) (hi : VI X K cl W tg iter wi it) (hg : VT X K cl js tg g d) (hb : VSs X K cl W body tb b)
    (hs : ∀ x, foldedSetIterable iter X.env x = pure x := by intro _; rfl) : VS X K cl W (.For tg iter body [] pos) (tFor wi g tb) (sFor it d b) := by
  obtain rfl := hi.hK
  exact ⟨ps_for hp hc hi.pe hg.pe hb.pe hs, rfs_for hi.rf hg.rf hb.rf, rfl⟩
theorem vs_while {c : Expr} {body : List Stmt} {tc : TT} {p : DB} {tb : TS} {b : DS} (hp : PassesOwn (model X.prog X.w) X.A X.env X.xe) (hc : VB X K cl W c tc p) (hb : VSs X K cl W body tb b) : VS X K cl W (.While c body [] pos) (tWhile tc tb) (sWhile p b) := by
  obtain rfl := hc.hK
  exact ⟨ps_while hp hc.pe hb.pe, rfs_while hc.rf hb.rf, rfl⟩
/-! ### list comprehensions -/
structure VP (X : Cx) (K : Fg) (cl : Cl) (W : WX) (ifs : List Expr) (tt : TT) (t : DB) : Prop where
  pe : PTs X ifs tt
  rf : RfB K cl W tt t
  hK : X.K = K
theorem vp_nil (hK : X.K = K := by rfl) : VP X K cl W [] tYes bYes := by
  obtain rfl := hK
  exact ⟨pts_nil, rfb_yes, rfl⟩
theorem vp_one {c : Expr} {tt : TT} {t : DB} (h : VB X K cl W c tt t) : VP X K cl W [c] tt t := by
  obtain rfl := h.hK
  exact ⟨pts_one h.pe, h.rf, rfl⟩
abbrev WF : WX := fun _ _ _ _ => False
theorem takes_no {X : Cx} : Takes X WF := fun _ _ ⟨_, _, _, _, _, _, _, _, _, _, _, _, _, _, _, _, w⟩ => w.elim
theorem vn_lc {js : List Nat} {elt tg iter : Expr} {ifs : List Expr} {scope : Scope} {own : List (Str × Nat)} {vs : List Nat} {wi : TI} {it : DI} {g : TG} {d : DG} {tt : TT} {t : DB} {te : TE} {e : DT} (hc : X.calm = true) (hN : X.N.Nodup) (hi : VI X K cl W tg iter wi it) (ok : BlkOk X.N X.env.scope scope own)
    (hg : ∀ (s : Shared) (H : Hp) (C : Addr) (l : List (Str × Addr)) (fp : List Addr), VT (X.blk s H scope (compEnvC scope l C X.env) fp) K cl js tg g d) (ht : ∀ (s : Shared) (H : Hp) (C : Addr) (l : List (Str × Addr)) (fp : List Addr), VP (X.blk s H scope (compEnvC scope l C X.env) fp) K cl WF ifs tt t)
    (he : ∀ (s : Shared) (H : Hp) (C : Addr) (l : List (Str × Addr)) (fp : List Addr), VE (X.blk s H scope (compEnvC scope l C X.env) fp) K cl WF elt te e) (hvs : own.map (·.2) = vs := by rfl) (hjs : ∀ j ∈ js, j ∈ own.map (·.2) := by decide) (hs : ∀ x, foldedSetIterable iter X.env x = pure x := by intro _; rfl) :
    VN X K cl W (.ListComp elt [⟨tg, iter, ifs, 0⟩] scope pos) (tLc wi g tt te vs) (dLc it d t e vs) := by
  obtain rfl := hi.hK
  exact hvs ▸ ⟨pe_lc hc hN hi.pe ok (fun s H C l fp => (hg s H C l fp).pe) (fun s H C l fp => (ht s H C l fp).pe) (fun s H C l fp => (he s H C l fp).pe) hs,
    rfn_lc hi.rf (hg X.s_0 X.H_0 0 [] []).rf (hg X.s_0 X.H_0 0 [] []).no hjs (ht X.s_0 X.H_0 0 [] []).rf (he X.s_0 X.H_0 0 [] []).rf, rfl⟩
theorem vs_lc {i : Nat} {js : List Nat} {y : Str} {py spos : Pos} {elt tg iter : Expr} {ifs : List Expr} {scope : Scope} {own : List (Str × Nat)} {vs : List Nat} {wi : TI} {it : DI} {g : TG} {d : DG} {tt : TT} {t : DB} {te : TE} {e : DT} (hc : X.calm = true) (hN : X.N.Nodup) (hi : VI X K cl W tg iter wi it) (ok : BlkOk X.N X.env.scope scope own)
    (hg : ∀ (s : Shared) (H : Hp) (C : Addr) (l : List (Str × Addr)) (fp : List Addr), VT (X.blk s H scope (compEnvC scope l C X.env) fp) K cl js tg g d) (ht : ∀ (s : Shared) (H : Hp) (C : Addr) (l : List (Str × Addr)) (fp : List Addr), VP (X.blk s H scope (compEnvC scope l C X.env) fp) K cl WF ifs tt t)
    (he : ∀ (s : Shared) (H : Hp) (C : Addr) (l : List (Str × Addr)) (fp : List Addr), VE (X.blk s H scope (compEnvC scope l C X.env) fp) K cl WF elt te e) (hsw : swapsWith (.ListComp elt [⟨tg, iter, ifs, 0⟩] scope pos) (some (.Name y py)) spos.line X.env = pure true) (hy : X.N[i]? = some y := by rfl) (hyl : X.env.scope.names.lookup y = some .local := by rfl) (hvs : own.map (·.2) = vs := by rfl) (hjs : ∀ j ∈ js, j ∈ own.map (·.2) := by decide) (hs : ∀ x, foldedSetIterable iter X.env x = pure x := by intro _; rfl) :
    VS X K cl W (.Assign [.Name y py] (.ListComp elt [⟨tg, iter, ifs, 0⟩] scope pos) spos) (tAsg (tLc wi g tt te vs) (L2.gName i)) (sSet i (dLc it d t e vs)) := by
  obtain rfl := hi.hK
  exact hvs ▸ ⟨ps_setLc hc hN hy hyl hsw hi.pe ok (fun s H C l fp => (hg s H C l fp).pe) (fun s H C l fp => (ht s H C l fp).pe) (fun s H C l fp => (he s H C l fp).pe) hs,
    rfs_set (rfn_lc hi.rf (hg X.s_0 X.H_0 0 [] []).rf (hg X.s_0 X.H_0 0 [] []).no hjs (ht X.s_0 X.H_0 0 [] []).rf (he X.s_0 X.H_0 0 [] []).rf).e, rfl⟩
theorem vs_lcO {i : Nat} {js : List Nat} {y : Str} {py spos : Pos} {elt tg iter : Expr} {ifs : List Expr} {scope : Scope} {own : List (Str × Nat)} {vs : List Nat} {wi : TI} {it : DI} {g : TG} {d : DG} {tt : TT} {t : DB} {te : TE} {e : DT} (hc : X.calm = true) (hN : X.N.Nodup) (hi : VI X K cl W tg iter wi it) (ok : BlkOk X.N X.env.scope scope own)
    (hg : ∀ (s : Shared) (H : Hp) (C : Addr) (l : List (Str × Addr)) (fp : List Addr), VT (X.blk s H scope (compEnvC scope l C X.env) fp) K cl js tg g d) (ht : ∀ (s : Shared) (H : Hp) (C : Addr) (l : List (Str × Addr)) (fp : List Addr), VP (X.blk s H scope (compEnvC scope l C X.env) fp) K cl WF ifs tt t)
    (he : ∀ (s : Shared) (H : Hp) (C : Addr) (l : List (Str × Addr)) (fp : List Addr), VE (X.blk s H scope (compEnvC scope l C X.env) fp) K cl WF elt te e) (hsw : swapsWith (.ListComp elt [⟨tg, iter, ifs, 0⟩] scope pos) (some (.Name y py)) spos.line X.env = pure true) (hy : X.N[i]? = some y := by rfl) (hyl : X.env.scope.names.lookup y = some .local := by rfl) (hvs : own.map (·.2) = vs := by rfl) (hjs : ∀ j ∈ js, j ∈ own.map (·.2) := by decide) (hs : ∀ x, foldedSetIterable iter X.env x = pure x := by intro _; rfl) (hpi : cl.pin i = none := by rfl) :
    VS X K cl W (.Assign [.Name y py] (.ListComp elt [⟨tg, iter, ifs, 0⟩] scope pos) spos) (tAsg (tLc wi g tt te vs) (L2.gName i)) (sOwn i (dLc it d t e vs)) := by
  obtain rfl := hi.hK
  exact hvs ▸ ⟨ps_setLc hc hN hy hyl hsw hi.pe ok (fun s H C l fp => (hg s H C l fp).pe) (fun s H C l fp => (ht s H C l fp).pe) (fun s H C l fp => (he s H C l fp).pe) hs,
    rfs_own hpi (rfn_lc hi.rf (hg X.s_0 X.H_0 0 [] []).rf (hg X.s_0 X.H_0 0 [] []).no hjs (ht X.s_0 X.H_0 0 [] []).rf (he X.s_0 X.H_0 0 [] []).rf), rfl⟩
end
end DL

/-! DCls: classes whose instances are made once and read. -/
namespace DL
open PySem L2 PyProof.Rows
variable [TN]
section
variable {K : Fg} {cl : Cl} {W : WX}
theorem FReps.look {F : Hp} (f : Str) : ∀ {ws : List (Str × V)} {fs : List (Str × D)}, FReps K cl F ws fs → (fs.lookup f = none ∧ ws.lookup f = none) ∨ ∃ v d, fs.lookup f = some d ∧ ws.lookup f = some v ∧ Rep K cl F v d
  | _, _, .nil => .inl ⟨rfl, rfl⟩
  | _, _, .cons (k := k) h r => by
    rw [List.lookup_cons, List.lookup_cons]
    cases e : f == k with
    | true => exact .inr ⟨_, _, rfl, rfl, h⟩
    | false => exact FReps.look f r
theorem FReps.put {F : Hp} {v : V} {d : D} (f : Str) (h : Rep K cl F v d) : ∀ {ws : List (Str × V)} {fs : List (Str × D)}, FReps K cl F ws fs → FReps K cl F (putF f v ws) (putFD f d fs)
  | _, _, .nil => .cons h .nil
  | _, _, .cons (k := k) h2 r => by
    unfold putF putFD
    by_cases e : k = f
    · rw [if_pos e, if_pos e]
      exact .cons h r
    · rw [if_neg e, if_neg e]
      exact .cons h2 (FReps.put f h r)
theorem FReps.length {F : Hp} : ∀ {ws : List (Str × V)} {fs : List (Str × D)}, FReps K cl F ws fs → ws.length = fs.length
  | _, _, .nil => rfl
  | _, _, .cons _ r => by rw [List.length_cons, List.length_cons, FReps.length r]
theorem rfe_fld {c : String} {f : Str} {ta : TE} {t : DT} (hC : ∀ C, cl.nm c = some C → L2.Cls K C ∧ NoAttr K C f) (ha : RfE K cl W ta t) : RfE K cl W (tFld K ta f) (dFld c f t) where
  mono2 := fun E E' ρ P P' hE h q => ha.mono2 E E' ρ _ _ hE (fun x q => by
    cases x with
    | ins c' fs =>
      refine ⟨q.1, ?_⟩
      have q := q.2
      cases e : fs.lookup f with
      | none => rw [e] at q; exact q.elim
      | some d => rw [e] at q; exact h _ q
    | _ => exact q.elim) q
  ok := fun F0 H0 F H σ ρ E Q hh le q => by
    refine ha.ok F0 H0 F H σ ρ E _ hh le (ha.mono E ρ _ _ (fun x q v F1 H1 g1 r1 => ?_) q)
    cases r1 with
    | ins n e1 e2 rr =>
      obtain ⟨rfl, qq⟩ := q
      obtain ⟨h1, h2⟩ := hC _ n
      rcases rr.look f with ⟨z, _⟩ | ⟨v, d, z1, z2, z3⟩
      · rw [z] at qq; exact qq.elim
      · rw [z1] at qq
        exact ⟨_, _, _, _, v, rfl, g1.s _ _ e1, h1, h2, z2, qq v F1 H1 g1 z3⟩
    | _ => exact q.elim
theorem rfs_fldO {c : String} {i : Nat} {f : Str} {ta : TE} {t : DT} (hC : ∀ C, cl.nm c = some C → L2.Cls K C ∧ NoAttr K C f) (ha : RfE K cl W ta t) : RfS K cl W (sFld K (tVar i) ta f) (sFldO c i f t) where
  mono2 := fun E E' A B ρ hE l q => by
    unfold sFldO at q ⊢
    cases e : ρ[i]? with
    | none => rw [e] at q; exact q.elim
    | some s =>
      rw [e] at q
      cases s with
      | no => exact q.elim
      | v d => exact q.elim
      | o d => cases d <;> first | exact ⟨q.1, ha.mono2 E E' ρ _ _ hE (fun x q => ⟨q.1, l.nx _ q.2⟩) q.2⟩ | exact q.elim
  ok := fun F0 H0 F H σ ρ E B A hh le ld q => by
    unfold sFldO at q
    cases e : ρ[i]? with
    | none => rw [e] at q; exact q.elim
    | some s =>
      rw [e] at q
      cases s with
      | no => exact q.elim
      | v d => exact q.elim
      | o d =>
        cases d with
        | ins c' fs =>
          obtain ⟨rfl, q⟩ := q
          obtain ⟨a, ea, n0, nf, ws, ⟨C, dx, n, ho, hd, hm⟩, rr⟩ := hh.ownAt e
          refine ha.ok F0 H0 F H σ ρ E _ hh le (ha.mono E ρ _ _ (fun x q v F1 H1 g1 r1 => ?_) q)
          obtain ⟨h1, h2⟩ := hC _ n
          have e1 := g1.k.get ho
          refine ⟨.ref a, ea, a, C, dx, ws, rfl, e1, h1, h2, by rw [rr.length]; exact q.1, ?_⟩
          exact ld.nx _ _ _ _ ((hh.grow g1).mut (d' := .ins c' (putFD f x fs)) ea e ⟨_, ⟨C, dx, n, upd_same, g1.f _ _ hd, hm⟩, (rr.mono g1.f).put f r1⟩) q.2
        | _ => exact q.elim
theorem rfe_meth {c : String} {C : Addr} {m : Str} {Wf : DF} {ta : TE} {tr : TA} {t : DT} {r : DA} (hC : cl.nm c = some C) (ha : RfE K cl W ta t) (hr : RfA K cl W tr r) : RfE K cl W (tMeth C m (spD K cl Wf) [] (fun _ _ _ => False) ta tr) (dMeth c m Wf t r) where
  mono2 := fun E E' ρ P P' hE h q => ha.mono2 E E' ρ _ _ hE (fun x q => by
    cases x with
    | ins c' fs => exact ⟨q.1, q.2.1, hr.mono2 E E' ρ _ _ hE (fun xs q => q.mono h fun e z => z) q.2.2⟩
    | _ => exact q.elim) q
  ok := fun F0 H0 F H σ ρ E Q hh le q => by
    refine ha.ok F0 H0 F H σ ρ E _ hh le (ha.mono E ρ _ _ (fun x q v F1 H1 g1 r1 => ?_) q)
    cases r1 with
    | ins n e1 e2 rr =>
      obtain ⟨rfl, hm, q⟩ := q
      rw [hC] at n
      cases n
      rcases rr.look m with ⟨_, hm2⟩ | ⟨v, d, z1, _⟩
      rotate_left
      · rw [z1] at hm; cases hm
      refine ⟨_, _, _, rfl, g1.s _ _ e1, hm2, ?_⟩
      have h1 := hh.grow g1
      refine hr.ok F0 H0 F1 H1 σ ρ E _ h1 le (hr.mono E ρ _ _ (fun xs q vs F2 H2 g2 r2 => ?_) q)
      obtain ⟨Q', E', q, a, b⟩ := q
      exact ⟨F2, _ :: xs, Q', E', g2.s, .cons ((Rep.ins hC e1 e2 rr).mono g2.f) (by rw [List.append_nil]; exact r2), q, fun d z v F' H' g r => a d z v F' H' ((g1.trans g2).trans g) r, fun e z c dx F' H' g r => (b e z).elim⟩
    | _ => exact q.elim
/-- the promise of an __init__ -/
def spM (K : Fg) (cl : Cl) (c : String) (Wf : DF) : Sp := fun vs H Q E => ∃ x dx C us Hb F ds Q' E', vs = .ref x :: us ∧ cl.nm c = some C ∧ H = upd (upd Hb dx (.own x)) x (.ins C dx []) ∧ Hb x = none ∧ Hb dx = none ∧ dx ≠ x ∧ Same F Hb ∧ Reps K cl F us ds ∧ Wf ds Q' E' ∧
  (∀ d, Q' d → ∀ F' H', Gr F Hb F' H' → Rep K cl F' (.ref x) d → Q .non H') ∧ ∀ err, E' err → False
theorem rfe_make {c : String} {C : Addr} {Wf : DF} {tr : TA} {r : DA} (hC : cl.nm c = some C) (hr : RfA K cl W tr r) : RfE K cl W (tMake C (spM K cl c Wf) [] (fun _ _ _ => False) tr) (dMake Wf r) where
  mono2 := fun E E' ρ P P' hE h q => hr.mono2 E E' ρ _ _ hE (fun xs q => q.mono h fun e z => z) q
  ok := fun F0 H0 F H σ ρ E Q hh le q => by
    refine hr.ok F0 H0 F H σ ρ E _ hh le (hr.mono E ρ _ _ (fun xs q vs F1 H1 g1 r1 => ?_) q)
    obtain ⟨Q', E', q, a, b⟩ := q
    intro x dx hx hdx ne
    exact ⟨x, dx, C, vs ++ [], H1, F1, xs, Q', E', rfl, hC, rfl, hx, hdx, ne, g1.s, by rw [List.append_nil]; exact r1, q, fun d z F' H' g r => ⟨rfl, a d z _ F' H' (g1.trans g) r⟩, b⟩
end
section
variable {K : Fg} {cl cl' : Cl} {F : Hp}
mutual
theorem Rep.toCl (n : cl'.nm = cl.nm) (o : cl'.so = cl.so) : ∀ {v : V} {d : D}, Rep K cl F v d → Rep K cl' F v d
  | _, _, .non => .non
  | _, _, .bl b => .bl b
  | _, _, .int b => .int b
  | _, _, .str b => .str b
  | _, _, .tup h r => .tup h (Reps.toCl n o r)
  | _, _, .lst h r => .lst h (Reps.toCl n o r)
  | _, _, .dk h r => .dk h (KReps.toCl n o r)
  | _, _, .dt h r => .dt h (TReps.toCl n o r)
  | _, _, .ins c h g r => .ins (by rw [n]; exact c) h g (FReps.toCl n o r)
  | _, _, .st h g z => .st (by rw [o]; exact h) (by rw [o]; exact g) z
  | _, _, .scr h => .scr h
  | _, _, .fn h => .fn (by rw [n]; exact h)
theorem Reps.toCl (n : cl'.nm = cl.nm) (o : cl'.so = cl.so) : ∀ {vs : List V} {ds : List D}, Reps K cl F vs ds → Reps K cl' F vs ds
  | _, _, .nil => .nil
  | _, _, .cons h r => .cons (Rep.toCl n o h) (Reps.toCl n o r)
theorem KReps.toCl (n : cl'.nm = cl.nm) (o : cl'.so = cl.so) : ∀ {vs : List (L2.Key × V)} {ds : List (DL.Key × D)}, KReps K cl F vs ds → KReps K cl' F vs ds
  | _, _, .nil => .nil
  | _, _, .cons h r => .cons (Rep.toCl n o h) (KReps.toCl n o r)
theorem TReps.toCl (n : cl'.nm = cl.nm) (o : cl'.so = cl.so) : ∀ {vs : List (List L2.Key × V)} {ds : List (List DL.Key × D)}, TReps K cl F vs ds → TReps K cl' F vs ds
  | _, _, .nil => .nil
  | _, _, .cons h r => .cons (Rep.toCl n o h) (TReps.toCl n o r)
theorem FReps.toCl (n : cl'.nm = cl.nm) (o : cl'.so = cl.so) : ∀ {vs : List (Str × V)} {ds : List (Str × D)}, FReps K cl F vs ds → FReps K cl' F vs ds
  | _, _, .nil => .nil
  | _, _, .cons h r => .cons (Rep.toCl n o h) (FReps.toCl n o r)
end
theorem repErr_toCl {c : Value} {dx : Option Addr} {e : Err} (n : cl'.nm = cl.nm) (o : cl'.so = cl.so) (h : RepErr K cl F c dx e) : RepErr K cl' F c dx e := by
  obtain ⟨C, h1, h2, h3⟩ := h
  refine ⟨C, by rw [n]; exact h1, h2, ?_⟩
  cases dx with
  | none => exact h3
  | some d =>
    obtain ⟨ws, h4, h5⟩ := h3
    exact ⟨ws, h4, h5.toCl n o⟩
end
section
variable {P : Program} {w : World} {K : Fg} {cl cl' : Cl} {mg : Str → Option Value} {base : Heap}
/-- a def's promise while an instance is made -/
theorem fn_cl {k : Nat} {f : Addr} {fd : FuncData} {ps : List Str} {Wf : DF} (F : FnOk P w K mg base (L2.CX P w) k f fd ps (spD K cl Wf)) (n : cl'.nm = cl.nm) (o : cl'.so = cl.so) : FnOk P w K mg base (L2.CX P w) k f fd ps (spD K cl' Wf) :=
  F.imp fun vs H Q E ⟨F0, ds, Q', E', s, r, q, a, b⟩ => ⟨F0, ds, Q', E', s, r.toCl n.symm o.symm, q, fun d z v F' H' g r => a d z v F' H' g (r.toCl n o), fun e z c dx F' H' g r => b e z c dx F' H' g (repErr_toCl n o r)⟩
theorem Own.toCl {H : Hp} {F : Hp} {a : Addr} {d : D} (n : cl'.nm = cl.nm) (o : cl'.so = cl.so) (m : cl'.me = cl.me) (h : Own K cl F H a d) : Own K cl' F H a d := by
  cases d with
  | lst ds => obtain ⟨vs, e, r⟩ := h; exact ⟨vs, e, r.toCl n o⟩
  | dk ds => obtain ⟨vs, e, r⟩ := h; exact ⟨vs, e, r.toCl n o⟩
  | dt ds => obtain ⟨vs, e, r⟩ := h; exact ⟨vs, e, r.toCl n o⟩
  | ins c ds => obtain ⟨vs, ⟨C, dx, n1, e, ow, m1⟩, r⟩ := h; exact ⟨vs, ⟨C, dx, by rw [n]; exact n1, e, ow, by rw [m]; exact m1⟩, r.toCl n o⟩
  | _ => exact h.elim
theorem fn_clN {k : Nat} {f : Addr} {fd : FuncData} {ps : List Str} {Wf : DF} (F : FnOk P w K mg base (L2.CX P w) k f fd ps (spN K cl Wf)) (n : cl'.nm = cl.nm) (o : cl'.so = cl.so) (m : cl'.me = cl.me) : FnOk P w K mg base (L2.CX P w) k f fd ps (spN K cl' Wf) :=
  F.imp fun vs H Q E ⟨F0, ds, Q', E', s, r, q, a, b⟩ => ⟨F0, ds, Q', E', s, r.toCl n.symm o.symm, q, fun d z p F' H' g x y w => a d z p F' H' g x y (w.toCl n o m), fun e z c dx F' H' g r => b e z c dx F' H' g (repErr_toCl n o r)⟩
theorem fn_clM {k : Nat} {f : Addr} {fd : FuncData} {ps : List Str} {Wf : DF} {c : String} (F : FnOk P w K mg base (L2.CX P w) k f fd ps (spM K cl c Wf)) (n : cl'.nm = cl.nm) (o : cl'.so = cl.so) : FnOk P w K mg base (L2.CX P w) k f fd ps (spM K cl' c Wf) :=
  F.imp fun vs H Q E ⟨x, dx, C, us, Hb, F0, ds, Q', E', e1, e2, e3, e4, e5, e6, e7, r, q, a, b⟩ => ⟨x, dx, C, us, Hb, F0, ds, Q', E', e1, by rw [← n]; exact e2, e3, e4, e5, e6, e7, r.toCl n.symm o.symm, q, fun d z F' H' g r => a d z F' H' g (r.toCl n o), b⟩
/-- THE RULE for an __init__ -/
theorem fn_okM {x qual : Str} {st : Stmt} {f : Addr} {fd : FuncData} {N ps : List Str} {k : Nat} {b : DS} {c : String} (F : Fun K x qual st f fd) (S : FnScope N ps (defScope st)) (hp : ps.length ≤ N.length)
    (hb : ∀ (me : Addr) (cdv : Value) (A : Around) (outer : List PySem.Env) (s : Shared) (H : Hp) (E : XK), Room k (A.deeper (envOfC qual (defScope st) s.heap.objs.size f cdv)) →
      ∃ t, VSs (cxOf (L2.CX P w) P w K mg base N qual (defScope st) f cdv A outer s H E) K { cl with me := some me } (fun c d _ H' => E c d H') (defBody st) t b) (hpn : cl.pin 0 = none := by rfl) (ht : cl.tabs = [] := by rfl) :
    FnOk P w K mg base (L2.CX P w) (k + 1) f fd ps (spM K cl c (mkT c ps.length N.length b)) := by
  refine F.okX S (fun vs H Q E h => ?_) (fun cdv A outer s H vs Q E hr h => ?_)
  · obtain ⟨x, dx, C, us, Hb, F0, ds, Q', E', rfl, _, _, _, _, _, _, r, ⟨hl, _⟩, _⟩ := h
    rw [List.length_cons, r.length]
    exact hl
  · obtain ⟨x, dx, C, us, Hb, F0, ds, Q', E', rfl, hC, rfl, hx, hdx, ne, s0, r, ⟨hl, q⟩, hQ, hE⟩ := h
    obtain ⟨t, h⟩ := hb x cdv A outer s _ E hr
    refine ⟨t, h.pe, ?_⟩
    have hn : (V.non :: us).length ≤ N.length := by rw [List.length_cons, r.length, hl]; exact hp
    have r1 : Reps K { cl with me := some x } F0 (V.non :: us) (D.non :: ds) := .cons .non (Reps.toCl (cl := cl) (cl' := { cl with me := some x }) rfl rfl r)
    have h0 := start_hold s0 (.nil (cl := { cl with me := some x }) ht) r1 hn
    have nx : x ≠ dx := fun z => ne z.symm
    have fdx : F0 dx = none := s0.free hdx
    have fx : F0 x = none := s0.free hx
    have g : Gr F0 Hb (upd F0 dx (.own x)) (upd (upd Hb dx (.own x)) x (.ins C dx [])) := by
      have a1 : (upd Hb dx (.own x)) x = none := by rw [upd_ne nx]; exact hx
      refine ⟨same_upd fdx, ((nx_upd hdx).trans (nx_upd a1)).kp, (same_upd2 s0).trans (same_upd a1), fun p a b => ?_, fun p ps e => ?_, fun p ps e => ?_⟩
      · by_cases hpd : p = dx
        · subst hpd; exact hdx
        · rw [upd_ne hpd] at a
          exact absurd b a
      · by_cases hpd : p = dx
        · subst hpd; exact .inl hdx
        · rw [upd_ne hpd] at e
          exact .inr (s0 _ _ e)
      · by_cases hpd : p = dx
        · rw [hpd, upd_same] at e; cases e
        · rwa [upd_ne hpd] at e
    have h1 := Hold.own (cl := { cl with me := some x }) (i := 0) (d := .ins c []) (a := x) hpn h0 g hx (by rw [upd_ne nx]; exact fx) ⟨[], ⟨C, dx, hC, upd_same, upd_same, fun m z => (Option.some.inj z).symm⟩, .nil⟩
    refine h.rf.ok F0 Hb _ _ _ _ (fun e _ => E' e) { nx := madeQ Q', rt := fun _ => False } { nx := fun _ H' => Q .non H', rt := Q } h1 (fun err ρ σ F' H' c dx h e re => (hE err e).elim)
      ⟨fun F' H' σ ρ h q => ?_, fun _ _ _ _ _ z => z.elim, fun _ _ _ _ _ z => z.elim, fun F' H' v d g r _ q => q.elim, fun _ _ _ _ _ _ _ _ z => z.elim⟩ q
    have q : madeQ Q' ρ := q
    unfold madeQ at q
    cases e : ρ[(0 : Nat)]? with
    | none => rw [e] at q; exact q.elim
    | some sl =>
      rw [e] at q
      cases sl with
      | no => exact q.elim
      | v d => exact q.elim
      | o d =>
        cases d with
        | ins c2 fs =>
          obtain ⟨a, ea, n0, nf, w⟩ := h.ownAt e
          obtain ⟨ws, ⟨C2, dx2, n2, z1, z2, z3⟩, z4⟩ := id w
          obtain rfl := z3 _ rfl
          obtain ⟨F2, h2⟩ := h.frz 0
          have e2 : (DL.frz 0 ρ)[(0 : Nat)]? = some (.v (.ins c2 fs)) := by
            unfold DL.frz
            rw [e]
            exact List.getElem?_set_self (List.getElem?_eq_some_iff.mp e).1
          obtain ⟨v, ev, rv⟩ := h2.var e2
          rw [ea] at ev
          cases ev
          exact hQ _ q F2 H' h2.g (Rep.toCl (cl := { cl with me := some x }) (cl' := cl) rfl rfl rv)
        | _ => exact q.elim
end
section
variable {X : Cx} {K : Fg} {cl : Cl} {W : WX} {pos : Pos}
theorem pass_no : Passes (L2.CX X.prog X.w) X (fun _ _ _ => False) := fun _ _ _ _ _ _ _ h => by
  obtain ⟨_, _, _, _, _, _, _, _, _, _, _, _, z⟩ := h
  exact z.elim
theorem ve_fld {c : String} {f : Str} {e : Expr} {te : TE} {t : DT} (he : VE X K cl W e te t) (hC : ∀ C, cl.nm c = some C → L2.Cls K C ∧ NoAttr K C f) (hb : attributeBase e f X.env (eval e X.env) = eval e X.env := by rfl) : VE X K cl W (.Attribute e f pos) (tFld K te f) (dFld c f t) := by
  obtain rfl := he.hK
  exact ⟨pe_fld he.pe hb, rfe_fld hC he.rf, rfl⟩
theorem vs_fldO {i : Nat} {c : String} {f x : Str} {e : Expr} {te : TE} {t : DT} {p1 pos' : Pos} (he : VE X K cl W e te t) (hC : ∀ C, cl.nm c = some C → L2.Cls K C ∧ NoAttr K C f) (hN : X.N[i]? = some x := by rfl) (hv : Vis X.env.scope x := by first | exact Or.inl rfl | exact Or.inr (Or.inl rfl) | exact Or.inr (Or.inr rfl)) (hd : (x == ("__debug__" : Str)) = false := by decide)
    (hcd : (x == ("__classdict__" : Str)) = false := by decide) (hs : swapsWith e (some (.Attribute (.Name x p1) f pos')) pos.line X.env = pure false := by rfl) : VS X K cl W (.Assign [.Attribute (.Name x p1) f pos'] e pos) (sFld K (tVar i) te f) (sFldO c i f t) := by
  obtain rfl := he.hK
  exact ⟨ps_fld (pe_var hN hv hd hcd) he.pe hs, rfs_fldO hC he.rf, rfl⟩
theorem ve_meth {c : String} {C : Addr} {m : Str} {Wf : DF} {k : Nat} {f : Addr} {fd : FuncData} {ps : List Str} {o e : Expr} {es : List Expr} {to : TE} {t : TA} {d : DT} {q : DA} {apos : Pos} {pl : Sem Bool} (F : FnOk X.prog X.w X.K X.mg X.base (L2.CX X.prog X.w) k f fd ps (spD X.K cl Wf)) (hr : Room k X.A) (c1 : L2.Cls X.K C) (hm : Meth X.K C m f) (hb : Binds X.K fd ps []) (hC : cl.nm c = some C)
    (ho : VE X K cl W o to d) (ha : VA X K cl W (e :: es) t q) (hst : starEach (e :: es) X.env = (false, eval e X.env) :: starEach es X.env := by rfl) (hpl : (backTo pos (starEach es X.env)).any (·.1) = false := by rfl)
    (ht : eval (.Call (.Attribute o m apos) (e :: es) [] pos) X.env = (do
      let ov ← eval o X.env
      standAt apos.atName
      let (f, first) ← holding [ov] (getMethod ov m pl)
      callWith pos f first (backTo pos (starEach (e :: es) X.env)) (backToKw pos (keywordEach [] X.env))) := by rfl) :
    VE X K cl W (.Call (.Attribute o m apos) (e :: es) [] pos) (tMeth C m (spD K cl Wf) [] (fun _ _ _ => False) to t) (dMeth c m Wf d q) := by
  obtain rfl := ho.hK
  exact ⟨pe_meth ho.pe c1 hm F hr hb .nil pass_no ha.pe hst hpl ht, rfe_meth hC ho.rf ha.rf, rfl⟩
theorem ve_meth0 {c : String} {C : Addr} {m : Str} {Wf : DF} {k : Nat} {f : Addr} {fd : FuncData} {ps : List Str} {o : Expr} {to : TE} {d : DT} {apos : Pos} {pl : Sem Bool} (F : FnOk X.prog X.w X.K X.mg X.base (L2.CX X.prog X.w) k f fd ps (spD X.K cl Wf)) (hr : Room k X.A) (c1 : L2.Cls X.K C) (hm : Meth X.K C m f) (hb : Binds X.K fd ps []) (hC : cl.nm c = some C)
    (ho : VE X K cl W o to d)
    (ht : eval (.Call (.Attribute o m apos) [] [] pos) X.env = (do
      let ov ← eval o X.env
      standAt apos.atName
      let (f, first) ← holding [ov] (getMethod ov m pl)
      callWith pos f first (backTo pos (starEach [] X.env)) (backToKw pos (keywordEach [] X.env))) := by rfl) :
    VE X K cl W (.Call (.Attribute o m apos) [] [] pos) (tMeth C m (spD K cl Wf) [] (fun _ _ _ => False) to tNil) (dMeth c m Wf d aNil) := by
  obtain rfl := ho.hK
  exact ⟨pe_meth0 ho.pe c1 hm F hr hb .nil pass_no ht, rfe_meth hC ho.rf rfa_nil, rfl⟩
theorem ve_make {c : String} {C : Addr} {Wf : DF} {k : Nat} {f : Addr} {fd : FuncData} {ps : List Str} {x : Str} {p : Pos} {e : Expr} {es : List Expr} {t : TA} {q : DA} (F : FnOk X.prog X.w X.K X.mg X.base (L2.CX X.prog X.w) k f fd ps (spM X.K cl c Wf)) (hr : Room (k + 1) X.A) (M : Mk X.K C f) (hg : Gl X x) (hm : X.mg x = some (.ref C)) (hb : Binds X.K fd ps []) (hC : cl.nm c = some C)
    (ha : VA X K cl W (e :: es) t q) (hdb : (x == ("__debug__" : Str)) = false := by decide) (he : starEach (e :: es) X.env = (false, eval e X.env) :: starEach es X.env := by rfl) (hpl : (backTo pos (starEach es X.env)).any (·.1) = false := by rfl) :
    VE X K cl W (.Call (.Name x p) (e :: es) [] pos) (tMake C (spM K cl c Wf) [] (fun _ _ _ => False) t) (dMake Wf q) := by
  obtain rfl := ha.hK
  exact ⟨pe_make M F hr hg hm hb .nil pass_no ha.pe hdb he hpl, rfe_make hC ha.rf, rfl⟩
end
section
variable {P : Program} {w : World} {K : Fg} {cl : Cl} {mg : Str → Option Value} {base : Heap} {f : Addr} {fd : FuncData} {ps : List Str}
theorem fn_noneM {k : Nat} {c : String} : FnOk P w K mg base (L2.CX P w) k f fd ps (spM K cl c fun _ _ _ => False) := by
  have no : ∀ vs H Q E, ¬ spM K cl c (fun _ _ _ => False) vs H Q E := fun vs H Q E h => by
    obtain ⟨_, _, _, _, _, _, _, _, _, _, _, _, _, _, _, _, _, z, _⟩ := h
    exact z
  exact ⟨fun vs H Q E h => absurd h (no vs H Q E), fun A outer s H args us vs Q E _ _ _ _ h => absurd h (no vs H Q E)⟩
theorem fn_upN2 {G : Nat → DF} {N L : Nat} (h : ∀ n, FnOk P w K mg base (L2.CX P w) (L + 2 * n) f fd ps (spD K cl (G n))) : FnOk P w K mg base (L2.CX P w) (L + 2 * N) f fd ps (spD K cl (upN G N)) := by
  have go : ∀ vs H Q E, spD K cl (upN G N) vs H Q E → ∃ n, n ≤ N ∧ spD K cl (G n) vs H Q E := fun vs H Q E ⟨F, ds, Q', E', s, r, ⟨n, hn, q⟩, a, b⟩ => ⟨n, hn, F, ds, Q', E', s, r, q, a, b⟩
  refine ⟨fun vs H Q E hs => ?_, fun A outer s H args us vs Q E hr a b c hs => ?_⟩
  · obtain ⟨n, _, q⟩ := go _ _ _ _ hs
    exact (h n).len _ _ _ _ q
  · obtain ⟨n, hn, q⟩ := go _ _ _ _ hs
    exact (h n).run A outer s H args us vs Q E (hr.mono (by omega)) a b c q
theorem fn_upNM2 {c : String} {G : Nat → DF} {N L : Nat} (h : ∀ n, FnOk P w K mg base (L2.CX P w) (L + 2 * n) f fd ps (spM K cl c (G n))) : FnOk P w K mg base (L2.CX P w) (L + 2 * N) f fd ps (spM K cl c (upN G N)) := by
  have go : ∀ vs H Q E, spM K cl c (upN G N) vs H Q E → ∃ n, n ≤ N ∧ spM K cl c (G n) vs H Q E := fun vs H Q E ⟨x, dx, C, us, Hb, F, ds, Q', E', e1, e2, e3, e4, e5, e6, e7, r, ⟨n, hn, q⟩, a, b⟩ => ⟨n, hn, x, dx, C, us, Hb, F, ds, Q', E', e1, e2, e3, e4, e5, e6, e7, r, q, a, b⟩
  refine ⟨fun vs H Q E hs => ?_, fun A outer s H args us vs Q E hr a b c hs => ?_⟩
  · obtain ⟨n, _, q⟩ := go _ _ _ _ hs
    exact (h n).len _ _ _ _ q
  · obtain ⟨n, hn, q⟩ := go _ _ _ _ hs
    exact (h n).run A outer s H args us vs Q E (hr.mono (by omega)) a b c q
theorem le_add2 {j L n : Nat} (h : j ≤ L) : j ≤ L + n + 1 := Nat.le_trans h (Nat.le_trans (Nat.le_add_right L n) (Nat.le_succ _))
end
end DL

/-! DDraw: the drawing state of the laws as one steady object. -/
namespace DL
open PySem L2 PyProof.Rows
variable [TN]
/-- the same things are tracked, some told otherwise -/
structure Sm (H H1 : Hp) : Prop where
  dom : ∀ b, H b = none ↔ H1 b = none
  tups : ∀ b xs, H b = some (.tup xs) → H1 b = some (.tup xs)
  frzs : ∀ b o u, H b = some (.frz o u) → H1 b = some (.frz o u)
  tbls : ∀ b ps, H b = some (.tbl ps) → H1 b = some (.tbl ps)
theorem Sm.refl (H : Hp) : Sm H H := ⟨fun _ => Iff.rfl, fun _ _ h => h, fun _ _ _ h => h, fun _ _ h => h⟩
theorem Sm.upd {H : Hp} {a : Addr} {o u : HO} (h : H a = some o) (n1 : ∀ xs, o ≠ .tup xs) (n2 : ∀ x y, o ≠ .frz x y) (n3 : ∀ ps, o ≠ .tbl ps) : Sm H (L2.upd H a u) := by
  have go : ∀ b v, H b = some v → o ≠ v → L2.upd H a u b = some v := fun b v e ne => by
    have hb : b ≠ a := fun z => by
      subst z
      rw [h] at e
      exact ne (Option.some.inj e)
    rw [upd_ne hb]
    exact e
  refine ⟨fun b => ?_, fun b xs e => go b _ e (n1 xs), fun b x y e => go b _ e (n2 x y), fun b ps e => go b _ e (n3 ps)⟩
  by_cases hb : b = a
  · subst hb
    rw [upd_same, h]
    simp
  · rw [upd_ne hb]
section
variable {P : Program} {w : World} {K : PySem.W.Frag} {mg : Str → Option Value} {base : Heap}
theorem fn_view {k : Nat} {f : Addr} {fd : FuncData} {ps : List Str} {sp sp' : Sp} (F : FnOk P w K mg base (L2.CX P w) k f fd ps sp')
    (hl : ∀ vs H Q E, sp vs H Q E → vs.length = ps.length)
    (hsp : ∀ vs H Q E, sp vs H Q E → ∀ h, HOk P w H h → ∃ H1, Sm H H1 ∧ HOk P w H1 h ∧ sp' vs H1 (fun v H2 => ∃ H3, Sm H2 H3 ∧ (∀ h, HOk P w H2 h → HOk P w H3 h) ∧ Q v H3) (fun _ _ _ => False)) :
    FnOk P w K mg base (L2.CX P w) k f fd ps sp := by
  refine ⟨hl, fun A outer s H args us vs Q E hr he hb hv h => ?_⟩
  obtain ⟨H1, sm, hok, q⟩ := hsp vs H Q E h s.heap he.hok
  have he1 : Env0 P w K mg base A outer s H1 := ⟨he.frames, he.mod, fun b o e => ⟨(he.bs b o e).1, (sm.dom b).mp (he.bs b o e).2⟩, he.bsz, he.funs, fun b hb => (sm.dom b).mp (he.frf b hb), hok, he.bare⟩
  refine codeAny_mono (F.run A outer s H1 args us vs _ _ hr he1 hb hv q) fun r s' hq => ?_
  cases r with
  | error e =>
    obtain ⟨_, _, _, _, _, _, _, _, _, _, _, _, z⟩ := hq
    exact z.elim
  | ok fl =>
    cases fl with
    | ret u =>
      obtain ⟨v, H2, os, bare, un, hok2, rv, H3, sm3, ok3, qq⟩ := hq
      refine ⟨v, H3, os, bare, ⟨fun b o e n hb hx => un.keep b o e ((sm.dom b).mp n) hb hx, fun b o e n hb hx => un.slot b o e ((sm.dom b).mp n) hb hx, fun b o e n hx => (sm3.dom b).mp (un.free b o e ((sm.dom b).mp n) hx), un.there, fun b xs e => sm3.tups _ _ (un.tups b xs (sm.tups _ _ e)), fun b o u e => sm3.frzs _ _ _ (un.frzs b o u (sm.frzs _ _ _ e)), fun b ps e => ?_⟩, ok3 _ hok2, rv, qq⟩
      obtain ⟨more, z⟩ := un.tbls b ps (sm.tbls _ _ e)
      exact ⟨more, sm3.tbls _ _ z⟩
    | next => exact False.elim hq
    | brk => exact False.elim hq
    | cont => exact False.elim hq
end
/-! ### the state's dict -/
def kCells : L2.Key := Sum.inr ("cells" : Str)
def kAt : L2.Key := Sum.inr ("at" : Str)
def kLeft : L2.Key := Sum.inr ("left" : Str)
def kMix : L2.Key := Sum.inr ("mix" : Str)
def stKV (c : Addr) (i l m : Int) : List (L2.Key × V) := [(kCells, .ref c), (kAt, .int i), (kLeft, .int l), (kMix, .int m)]
theorem st_ne : ((("cells" : Str) ≠ "at" ∧ ("cells" : Str) ≠ "left" ∧ ("cells" : Str) ≠ "mix") ∧ (("at" : Str) ≠ "cells" ∧ ("at" : Str) ≠ "left" ∧ ("at" : Str) ≠ "mix")) ∧
    ((("left" : Str) ≠ "cells" ∧ ("left" : Str) ≠ "at" ∧ ("left" : Str) ≠ "mix") ∧ (("mix" : Str) ≠ "cells" ∧ ("mix" : Str) ≠ "at" ∧ ("mix" : Str) ≠ "left")) := by decide +kernel
theorem key_ne {a b : Str} (h : a ≠ b) : (Sum.inr a : L2.Key) ≠ Sum.inr b := fun z => h (Sum.inr.inj z)
theorem st_cells (c : Addr) (i l m : Int) : valV (stKV c i l m) (Sum.inr ("cells" : Str)) = some (.ref c) := by
  simp [valV, stKV, kCells]
theorem st_at (c : Addr) (i l m : Int) : valV (stKV c i l m) (Sum.inr ("at" : Str)) = some (.int i) := by
  obtain ⟨⟨⟨a1, a2, a3⟩, ⟨b1, b2, b3⟩⟩, ⟨⟨c1, c2, c3⟩, ⟨d1, d2, d3⟩⟩⟩ := st_ne
  simp [valV, stKV, kCells, kAt, key_ne a1]
theorem st_left (c : Addr) (i l m : Int) : valV (stKV c i l m) (Sum.inr ("left" : Str)) = some (.int l) := by
  obtain ⟨⟨⟨a1, a2, a3⟩, ⟨b1, b2, b3⟩⟩, ⟨⟨c1, c2, c3⟩, ⟨d1, d2, d3⟩⟩⟩ := st_ne
  simp [valV, stKV, kCells, kAt, kLeft, key_ne a2, key_ne b2]
theorem st_mix (c : Addr) (i l m : Int) : valV (stKV c i l m) (Sum.inr ("mix" : Str)) = some (.int m) := by
  obtain ⟨⟨⟨a1, a2, a3⟩, ⟨b1, b2, b3⟩⟩, ⟨⟨c1, c2, c3⟩, ⟨d1, d2, d3⟩⟩⟩ := st_ne
  simp [valV, stKV, kCells, kAt, kLeft, kMix, key_ne a3, key_ne b3, key_ne c3]
theorem st_put_at (c : Addr) (i l m j : Int) : putK (stKV c i l m) (Sum.inr ("at" : Str)) (.int j) = stKV c j l m := by
  obtain ⟨⟨⟨a1, a2, a3⟩, ⟨b1, b2, b3⟩⟩, ⟨⟨c1, c2, c3⟩, ⟨d1, d2, d3⟩⟩⟩ := st_ne
  simp [putK, stKV, kCells, kAt, kLeft, kMix, a1, c2, d2]
theorem st_put_left (c : Addr) (i l m j : Int) : putK (stKV c i l m) (Sum.inr ("left" : Str)) (.int j) = stKV c i j m := by
  obtain ⟨⟨⟨a1, a2, a3⟩, ⟨b1, b2, b3⟩⟩, ⟨⟨c1, c2, c3⟩, ⟨d1, d2, d3⟩⟩⟩ := st_ne
  simp [putK, stKV, kCells, kAt, kLeft, kMix, a2, b2, d3]
theorem st_put_mix (c : Addr) (i l m j : Int) : putK (stKV c i l m) (Sum.inr ("mix" : Str)) (.int j) = stKV c i l j := by
  obtain ⟨⟨⟨a1, a2, a3⟩, ⟨b1, b2, b3⟩⟩, ⟨⟨c1, c2, c3⟩, ⟨d1, d2, d3⟩⟩⟩ := st_ne
  simp [putK, stKV, kCells, kAt, kLeft, kMix, a3, b3, c3]
/-- what holds of the numbers -/
def StOk (n : Nat) (i l m : Int) : Prop := 0 ≤ i ∧ i ≤ n ∧ 0 ≤ l ∧ 0 ≤ m ∧ m < 2147483647
def stPhi (P : Program) (w : World) (a c : Addr) (n : Nat) : Heap → Prop := fun h => ∃ i l m, StOk n i l m ∧ ObjOk P w (fun _ => none) h a (.dK (stKV c i l m))
def stO0 (P : Program) (w : World) (a c : Addr) (n : Nat) : HO := .ext (stPhi P w a c n)
def stO (P : Program) (w : World) : Bool × (Addr → Addr → Nat → HO) := (true, stO0 P w)
theorem dk_any {P : Program} {w : World} {H H' : Hp} {h : Heap} {a : Addr} {kvs : List (L2.Key × V)} (x : ObjOk P w H h a (.dK kvs)) : ObjOk P w H' h a (.dK kvs) := x
theorem hok_upd {P : Program} {w : World} {H : Hp} {h : Heap} {a : Addr} {o u : HO} (ok : HOk P w H h) (e : H a = some o) (n1 : ∀ x, o ≠ .own x) (n2 : ∀ xs, o ≠ .tup xs) (new : ObjOk P w (upd H a u) h a u) : HOk P w (upd H a u) h := fun b v q => by
  by_cases hb : b = a
  · subst hb
    rw [upd_same] at q
    cases q
    exact new
  · rw [upd_ne hb] at q
    have ne : ∀ c y, H c = some y → o ≠ y → upd H a u c = some y := fun c y z k => by
      have hc : c ≠ a := fun z' => by
        subst z'
        rw [e] at z
        exact k (Option.some.inj z)
      rw [upd_ne hc]
      exact z
    exact (ok b v q).stay (fun _ _ _ x => x) (fun c z => ne c _ z (n1 b)) fun c xs z => ne c _ z (n2 xs)
theorem st_open {P : Program} {w : World} {H : Hp} {h : Heap} {a c : Addr} {n : Nat} (ok : HOk P w H h) (e : H a = some (stO0 P w a c n)) : ∃ i l m, StOk n i l m ∧ HOk P w (upd H a (.dK (stKV c i l m))) h := by
  obtain ⟨⟨i, l, m, hs, d⟩, _, _⟩ := ok a _ e
  exact ⟨i, l, m, hs, hok_upd ok e (fun _ z => by cases z) (fun _ z => by cases z) d⟩
theorem st_close {P : Program} {w : World} {H : Hp} {h : Heap} {a c : Addr} {n : Nat} {i l m : Int} (hs : StOk n i l m) (ok : HOk P w H h) (e : H a = some (.dK (stKV c i l m))) : HOk P w (upd H a (stO0 P w a c n)) h := by
  have d := ok a _ e
  refine hok_upd ok e (fun _ z => by cases z) (fun _ z => by cases z) ⟨⟨i, l, m, hs, d⟩, ?_, fun h1 h2 ⟨i, l, m, hs, d⟩ k => ⟨i, l, m, hs, ?_⟩⟩
  · obtain ⟨_, _, vs, _, ob, es, ep, e2, _⟩ := d
    exact ⟨ob, e2⟩
  · exact d.stay (fun b u hb q => by
      rcases hb with rfl | z
      · exact k _ q
      · cases z) (fun _ z => by cases z) (fun _ _ z => by cases z)
end DL
namespace DL
open PySem L2 PyProof.Rows
variable [TN]
section
variable {H : Hp} {a c : Addr} {i l m : Int}
theorem sg_cells (e : H a = some (.dK (stKV c i l m))) : DGet H a (.str ("cells" : Str)) (some (.ref c)) := by
  have := DGet.k (k := (Sum.inr ("cells" : Str) : L2.Key)) e
  rwa [st_cells] at this
theorem sg_at (e : H a = some (.dK (stKV c i l m))) : DGet H a (.str ("at" : Str)) (some (.int i)) := by
  have := DGet.k (k := (Sum.inr ("at" : Str) : L2.Key)) e
  rwa [st_at] at this
theorem sg_left (e : H a = some (.dK (stKV c i l m))) : DGet H a (.str ("left" : Str)) (some (.int l)) := by
  have := DGet.k (k := (Sum.inr ("left" : Str) : L2.Key)) e
  rwa [st_left] at this
theorem sg_mix (e : H a = some (.dK (stKV c i l m))) : DGet H a (.str ("mix" : Str)) (some (.int m)) := by
  have := DGet.k (k := (Sum.inr ("mix" : Str) : L2.Key)) e
  rwa [st_mix] at this
theorem st_small : (stKV c i l m).length < sizeLine := small1000 (show 4 ≤ 1000 by decide)
theorem sp_at (j : Int) (e : H a = some (.dK (stKV c i l m))) : DPut H a (.str ("at" : Str)) (.int j) (upd H a (.dK (stKV c j l m))) := by
  have := DPut.k (k := (Sum.inr ("at" : Str) : L2.Key)) (v := .int j) e st_small
  rwa [st_put_at] at this
theorem sp_left (j : Int) (e : H a = some (.dK (stKV c i l m))) : DPut H a (.str ("left" : Str)) (.int j) (upd H a (.dK (stKV c i j m))) := by
  have := DPut.k (k := (Sum.inr ("left" : Str) : L2.Key)) (v := .int j) e st_small
  rwa [st_put_left] at this
theorem sp_mix (j : Int) (e : H a = some (.dK (stKV c i l m))) : DPut H a (.str ("mix" : Str)) (.int j) (upd H a (.dK (stKV c i l j))) := by
  have := DPut.k (k := (Sum.inr ("mix" : Str) : L2.Key)) (v := .int j) e st_small
  rwa [st_put_mix] at this
end
/-- the draw's promise over the dict -/
def spDraw : Sp := fun vs H Q _ => ∃ (a c : Addr) (ns : List Int) (i l m b : Int), vs = [.ref a, .int b] ∧ H a = some (.dK (stKV c i l m)) ∧ H c = some (.lst (ns.map V.int)) ∧ (∀ x ∈ ns, 0 ≤ x) ∧ StOk ns.length i l m ∧ 0 < b ∧ b.natAbs.log2 < 9000 ∧
  ∀ r i' l' m', 0 ≤ r → r < b → StOk ns.length i' l' m' → Q (.int r) (upd H a (.dK (stKV c i' l' m')))
theorem mod_mix (z : Int) : 0 ≤ z % 2147483647 ∧ z % 2147483647 < 2147483647 := ⟨Int.emod_nonneg _ (by decide), Int.emod_lt_of_pos _ (by decide)⟩
theorem small_mix {m : Int} (h0 : 0 ≤ m) (h : m < 2147483647) : -(2 ^ 64) < m ∧ m < 2 ^ 64 := ⟨by omega, by omega⟩
theorem emod_in {z b : Int} (h : 0 < b) : 0 ≤ z % b ∧ z % b < b := ⟨Int.emod_nonneg _ (by omega), Int.emod_lt_of_pos _ h⟩
/-- over the steady object -/
theorem draw_view {P : Program} {w : World} {K : Fg} {cl : Cl} {mg : Str → Option Value} {base : Heap} {k : Nat} {f : Addr} {fd : FuncData} (hso : cl.so = stO P w) (F : FnOk P w K mg base (L2.CX P w) k f fd ["state", "bound"] spDraw) :
    FnOk P w K mg base (L2.CX P w) k f fd ["state", "bound"] (spD K cl wDraw) := by
  refine fn_view F (fun vs H Q E h => ?_) (fun vs H Q E h hp ok => ?_)
  · obtain ⟨F0, ds, Q', E', _, r, q, _⟩ := h
    match ds, q with
    | [.st, .int b], q => rw [r.length]; rfl
  · obtain ⟨F0, ds, Q', E', s0, r, q, hQ, hE⟩ := h
    match ds, q, r with
    | [.st, .int b], ⟨hb, hb2, q⟩, .cons (.st (a := a) (c := c) (ns := ns) e1 e2 e3) (.cons (.int _) .nil) =>
      rw [hso] at e1 e2
      have e1 : F0 a = some (stO0 P w a c ns.length) := e1
      have e2 : F0 c = some (.lst (ns.map V.int)) := e2 rfl
      have e1' := s0 _ _ e1
      have e2' := s0 _ _ e2
      have nac : c ≠ a := fun z => by
        subst z
        rw [e1'] at e2'
        cases e2'
      obtain ⟨i, l, m, hs, ok1⟩ := st_open ok e1'
      have sm : Sm H (upd H a (.dK (stKV c i l m))) := Sm.upd e1' (fun _ z => by cases z) (fun _ _ z => by cases z) (fun _ z => by cases z)
      refine ⟨_, sm, ok1, a, c, ns, i, l, m, b, rfl, upd_same, by rw [upd_ne nac]; exact e2', e3, hs, hb, hb2, fun r i' l' m' h0 h1 hs' => ?_⟩
      refine ⟨H, ?_, fun h ok2 => ?_, hQ _ (q r h0 h1) _ F0 H (Gr.refl s0) (.int _)⟩
      · rw [upd_upd]
        have z := Sm.upd (H := upd H a (.dK (stKV c i' l' m'))) (a := a) (u := stO0 P w a c ns.length) upd_same (fun _ z => by cases z) (fun _ _ z => by cases z) (fun _ z => by cases z)
        rw [upd_upd] at z
        have e : upd H a (stO0 P w a c ns.length) = H := by
          funext p
          by_cases hp : p = a
          · subst hp
            rw [upd_same, e1']
          · rw [upd_ne hp]
        rwa [e] at z
      · rw [upd_upd] at ok2
        have z := st_close hs' ok2 upd_same
        rw [upd_upd] at z
        have e : upd H a (stO0 P w a c ns.length) = H := by
          funext p
          by_cases hp : p = a
          · subst hp
            rw [upd_same, e1']
          · rw [upd_ne hp]
        rwa [e] at z
/-- the start's promise over the dict -/
def spStart (K : Fg) : Sp := fun vs H Q _ => ∃ (a : Addr) (ns : List Int), vs = [.ref a] ∧ SqL K H a (ns.map V.int) ∧ ns.length ≤ 63 ∧
  ∀ (p c : Addr) (ns' : List Int) (m : Int) (H' : Hp), Nx H H' → H p = none → H c = none → ns'.length = ns.length → (∀ x ∈ ns', 0 ≤ x) → 0 ≤ m → m < 2147483647 → H' c = some (.lst (ns'.map V.int)) → H' p = some (.dK (stKV c 0 0 m)) → Q (.ref p) H'
theorem start_view {P : Program} {w : World} {K : Fg} {cl : Cl} {mg : Str → Option Value} {base : Heap} {k : Nat} {f : Addr} {fd : FuncData} (hso : cl.so = stO P w) (F : FnOk P w K mg base (L2.CX P w) k f fd ["script"] (spStart K)) :
    FnOk P w K mg base (L2.CX P w) k f fd ["script"] (spD K cl wStart) := by
  refine fn_view F (fun vs H Q E h => ?_) (fun vs H Q E h hp ok => ?_)
  · obtain ⟨F0, ds, Q', E', _, r, q, _⟩ := h
    match ds, q with
    | [.scr ns], q => rw [r.length]; rfl
  · obtain ⟨F0, ds, Q', E', s0, r, q, hQ, hE⟩ := h
    match ds, q, r with
    | [.scr ns], ⟨hn, q⟩, .cons (.scr (a := a) e) .nil =>
      refine ⟨H, Sm.refl H, ok, a, ns, rfl, s0.seq e, hn, fun p c ns' m H' sm np nc hl hx h0 h1 ec ep => ?_⟩
      have ncp : c ≠ p := fun z => by
        subst z
        rw [ec] at ep
        cases ep
      refine ⟨upd H' p (stO0 P w p c ns'.length), Sm.upd ep (fun _ z => by cases z) (fun _ _ z => by cases z) (fun _ z => by cases z), fun h ok2 => st_close ⟨by omega, by omega, by omega, h0, h1⟩ ok2 ep, ?_⟩
      have s1 : Same F0 H' := s0.trans sm.s
      have e1 : (upd H' p (stO0 P w p c ns'.length)) p = some (stO0 P w p c ns'.length) := upd_same
      have fp : F0 p = none := s0.free np
      have fc : F0 c = none := s0.free nc
      refine hQ _ q _ (upd (upd F0 c (.lst (ns'.map V.int))) p (stO0 P w p c ns'.length)) _ ⟨fun b u z => ?_, sm.kp.put np (.at ep), fun b u z => ?_, fun b z1 z2 => ?_, fun b ps z => ?_, fun b ps z => ?_⟩ (.st (c := c) (ns := ns') (by rw [hso]; exact upd_same) (fun _ => by rw [upd_ne ncp, upd_same]) hx)
      · rw [upd_ne (ne_of_none z fp), upd_ne (ne_of_none z fc)]
        exact z
      · by_cases hb : b = p
        · subst hb
          rw [upd_same] at z ⊢
          exact z
        · rw [upd_ne hb] at z ⊢
          by_cases hb2 : b = c
          · subst hb2
            rw [upd_same] at z
            rw [ec]
            exact z
          · rw [upd_ne hb2] at z
            exact s1 b u z
      · by_cases hb : b = p
        · subst hb; exact np
        · rw [upd_ne hb] at z1
          by_cases hb2 : b = c
          · subst hb2; exact nc
          · rw [upd_ne hb2] at z1
            exact absurd z2 z1
      · by_cases hb : b = p
        · subst hb; exact .inl np
        · rw [upd_ne hb] at z
          by_cases hb2 : b = c
          · subst hb2; exact .inl nc
          · rw [upd_ne hb2] at z
            exact .inr (s0 _ _ z)
      · by_cases hb : b = p
        · rw [hb, upd_same] at z; cases z
        · rw [upd_ne hb] at z
          by_cases hb2 : b = c
          · rw [hb2, upd_same] at z; cases z
          · rwa [upd_ne hb2] at z

/-- the second part of a block once, for all ways that come to it -/
theorem seq_elim {t u : TS} {D : Ends} {σ : L2.St} {H : Hp} (C : L2.St → Hp → Prop) (h2 : ∀ σ2 H2, C σ2 H2 → u D σ2 H2) (h1 : (∀ σ2 H2, C σ2 H2 → u D σ2 H2) → t { D with nx := u D } σ H) : tSeq t u D σ H := h1 h2
theorem up_self {H : Hp} {a : Addr} {o : HO} (h : H a = some o) : upd H a o = H := by
  funext p
  by_cases hp : p = a
  · subst hp
    rw [upd_same, h]
  · rw [upd_ne hp]
theorem at_ns {ns : List Int} {i : Int} (h0 : 0 ≤ i) (h1 : i < ns.length) : ∃ x, x ∈ ns ∧ atI (ns.map V.int) i = some (.int x) := by
  have hl : i.toNat < ns.length := by omega
  refine ⟨ns[i.toNat], List.getElem_mem _, ?_⟩
  have := atI_nat (xs := ns.map V.int) (j := i.toNat) (v := .int ns[i.toNat]) (by rw [List.getElem?_map, List.getElem?_eq_getElem hl]; rfl)
  rwa [Int.toNat_of_nonneg h0] at this

theorem sqT_frag {K : Fg} {a : Addr} {xs : List V} {dd : Option Addr} {sl : Array (Option Value)} {its : Array Value} {n : Nat} (h : K.lookup a = some ⟨.type "tuple", dd, .seq its n, sl⟩) (hs : its.size ≤ sizeLine) (hv : Vals xs its.toList) (H : Hp) : SqT K H a xs := .inr ⟨_, its, n, h, rfl, rfl, hs, hv⟩
theorem fn_none {P : Program} {w : World} {K : Fg} {cl : Cl} {mg : Str → Option Value} {base : Heap} {k : Nat} {f : Addr} {fd : FuncData} {ps : List Str} : FnOk P w K mg base (L2.CX P w) k f fd ps (spD K cl fun _ _ _ => False) := by
  have no : ∀ vs H Q E, ¬ spD K cl (fun _ _ _ => False) vs H Q E := fun vs H Q E h => by
    obtain ⟨_, _, _, _, _, _, z, _⟩ := h
    exact z
  exact ⟨fun vs H Q E h => absurd h (no vs H Q E), fun A outer s H args us vs Q E _ _ _ _ h => absurd h (no vs H Q E)⟩
theorem fn_upN {P : Program} {w : World} {K : Fg} {cl : Cl} {mg : Str → Option Value} {base : Heap} {f : Addr} {fd : FuncData} {ps : List Str} {G : Nat → DF} {N L : Nat} (h : ∀ n, FnOk P w K mg base (L2.CX P w) (L + n) f fd ps (spD K cl (G n))) :
    FnOk P w K mg base (L2.CX P w) (L + N) f fd ps (spD K cl (upN G N)) := by
  have go : ∀ vs H Q E, spD K cl (upN G N) vs H Q E → ∃ n, n ≤ N ∧ spD K cl (G n) vs H Q E := fun vs H Q E ⟨F, ds, Q', E', s, r, ⟨n, hn, q⟩, a, b⟩ => ⟨n, hn, F, ds, Q', E', s, r, q, a, b⟩
  refine ⟨fun vs H Q E hs => ?_, fun A outer s H args us vs Q E hr a b c hs => ?_⟩
  · obtain ⟨n, _, q⟩ := go _ _ _ _ hs
    exact (h n).len _ _ _ _ q
  · obtain ⟨n, hn, q⟩ := go _ _ _ _ hs
    exact (h n).run A outer s H args us vs Q E (hr.mono (Nat.add_le_add_left hn L)) a b c q
theorem le_add {j L n : Nat} (h : j ≤ L) : j ≤ L + n := Nat.le_trans h (Nat.le_add_right L n)
theorem hu65 {A : Around} {k : Nat} (hr : Room k A) : A.units + 65 < cLine := by
  have := hr.un
  omega
/-- what a law promises -/
def spLaw (K : Fg) : Sp := fun vs H Q _ => ∃ (a : Addr) (ns : List Int), vs = [.ref a] ∧ SqL K H a (ns.map V.int) ∧ ns.length ≤ 63 ∧ ∀ H', Q (.bl true) H'
theorem law_ok {P : Program} {w : World} {K : Fg} {cl : Cl} {mg : Str → Option Value} {base : Heap} {k : Nat} {f : Addr} {fd : FuncData} {W : DF} (F : FnOk P w K mg base (L2.CX P w) k f fd ["script"] (spD K cl W)) (h : ∀ ns : List Int, ns.length ≤ 63 → W [.scr ns] (fun d => d = .bl true) fun _ => False) :
    FnOk P w K mg base (L2.CX P w) k f fd ["script"] (spLaw K) :=
  F.imp fun vs H Q E ⟨a, ns, e, hS, hl, q⟩ => ⟨H, [.scr ns], _, _, Same.refl H, by rw [e]; exact .cons (.scr hS) .nil, h ns hl, fun d z v F' H' g r => by
    subst z
    cases r
    exact q H', fun _ z => z.elim⟩
omit [TN] in
theorem walkD {l : PySem.W.OpenLaw} {k : Nat} {q : Program} {loose : List Str} {XP : (Str → Option Value) → Heap → Prop} {YP : World → Heap → Prop} {d : DefRec} {K : Params → PySem.W.Frag}
    (hn : l.most = some 63) (hdf : d.params.defaults = []) (hr : Room k callerA) (hY : ∀ (w : World) (h : Heap), YP w h → (K w.params).In h)
    (F : ∀ (w : World) (mg : Str → Option Value) (fa : Addr) (h : Heap), (K w.params).In h → h.Ns mainGlobals mg → mg d.name = some (.ref fa) →
      ∃ fd : FuncData, (∀ (s : Shared) (u : Value), BindsTo s fd ⟨[u], []⟩ [("script", u)]) ∧
        ∀ base : Heap, (K w.params).In base → base.Ns mainGlobals mg → FnOk l.prog w (K w.params) mg base (L2.CX l.prog w) k fa fd ["script"] (spLaw (K w.params))) :
    PySem.W.WalkO q loose XP YP l.row.toRowW d [] (fun f vs => PySem.call f vs) :=
  L2.walk_of (n := 63) (k := k) (x := "script") (CX := fun w => L2.CX l.prog w) (sp := fun w => spLaw (K w.params)) hn (by decide) hdf hr hY F (fun _ _ a ns hl _ hS => ⟨a, ns, rfl, hS, hl, fun _ => rfl⟩) fun _ _ _ _ _ z => by
    obtain ⟨_, _, _, _, _, _, _, _, _, _, _, _, z⟩ := z
    exact z
end DL

/-! DVc: how a transformer is proved. Plain Lean. -/
namespace DL
open PySem
@[simp] theorem envOf_eq (n : Nat) (ds : List D) : envOf n ds = ds.map Sl.v ++ List.replicate (n - ds.length) .no := rfl
@[simp] theorem fgt_nil (ρ : Env) : fgt [] ρ = ρ := rfl
@[simp] theorem fgt_cons (j : Nat) (js : List Nat) (ρ : Env) : fgt (j :: js) ρ = fgt js (ρ.set j .no) := rfl
@[simp] theorem wipe_nil (ρ : Env) : wipeE ρ [] = ρ := rfl
@[simp] theorem wipe_cons (j : Nat) (js : List Nat) (ρ : Env) : wipeE ρ (j :: js) = wipeE (ρ.set j .no) js := rfl
@[simp] theorem xown_nil : noOwn [] = [] := rfl
@[simp] theorem xown_v (d : D) (ρ : Env) : noOwn (.v d :: ρ) = .v d :: noOwn ρ := rfl
@[simp] theorem xown_o (d : D) (ρ : Env) : noOwn (.o d :: ρ) = .no :: noOwn ρ := rfl
@[simp] theorem xown_no (ρ : Env) : noOwn (.no :: ρ) = .no :: noOwn ρ := rfl
/-- of a slot that nothing is known of -/
def own1 (s : Sl) : Sl := match s with
  | .v d => .v d
  | _ => .no
@[simp low] theorem xown_any (s : Sl) (ρ : DL.Env) : noOwn (s :: ρ) = own1 s :: noOwn ρ := by cases s <;> rfl
def bor1 (s : Sl) : Sl := match s with
  | .o d => .v d
  | s => s
@[simp low] theorem xbor_any (s : Sl) (ρ : DL.Env) : bor (s :: ρ) = bor1 s :: bor ρ := by cases s <;> rfl
@[simp] theorem xbor_nil : bor [] = [] := rfl
@[simp] theorem xbor_v (d : D) (ρ : Env) : bor (.v d :: ρ) = .v d :: bor ρ := rfl
@[simp] theorem xbor_o (d : D) (ρ : Env) : bor (.o d :: ρ) = .v d :: bor ρ := rfl
@[simp] theorem xbor_no (ρ : Env) : bor (.no :: ρ) = .no :: bor ρ := rfl
@[simp] theorem bor1_o {d : D} : bor1 (.o d) = .v d := rfl
@[simp] theorem bor1_v {d : D} : bor1 (.v d) = .v d := rfl
@[simp] theorem bor1_no : bor1 .no = .no := rfl
@[simp] theorem own1_o {d : D} : own1 (.o d) = .no := rfl
@[simp] theorem own1_v {d : D} : own1 (.v d) = .v d := rfl
@[simp] theorem own1_no : own1 .no = .no := rfl
/-! what a place holds -/
def gV (o : Option Sl) (Q : DK) : Prop := match o with
  | some (.v d) => Q d
  | _ => False
@[simp] theorem gV_v {d : D} {Q : DK} : gV (some (.v d)) Q ↔ Q d := ⟨fun h => h, fun h => h⟩
@[simp] theorem gOL_o {d : List D} {Q : List D → Prop} : gOL (some (.o (.lst d))) Q ↔ Q d := ⟨fun h => h, fun h => h⟩
def gFrz (o : Option Sl) (i : Nat) (ρ : DL.Env) (Q : DL.Env → Prop) : Prop := match o with
  | some (.o d) => Q (ρ.set i (.v d))
  | _ => Q ρ
@[simp] theorem gFrz_o {d : D} {i : Nat} {ρ : DL.Env} {Q : DL.Env → Prop} : gFrz (some (.o d)) i ρ Q ↔ Q (ρ.set i (.v d)) := ⟨fun h => h, fun h => h⟩
@[simp] theorem gFrz_v {d : D} {i : Nat} {ρ : DL.Env} {Q : DL.Env → Prop} : gFrz (some (.v d)) i ρ Q ↔ Q ρ := ⟨fun h => h, fun h => h⟩
@[simp] theorem gFrz_no {i : Nat} {ρ : DL.Env} {Q : DL.Env → Prop} : gFrz (some .no) i ρ Q ↔ Q ρ := ⟨fun h => h, fun h => h⟩
def gB (d : D) (Q : Bool → Prop) : Prop := match d with
  | .bl b => Q b
  | _ => False
@[simp] theorem gB_b {b : Bool} {Q : Bool → Prop} : gB (.bl b) Q ↔ Q b := ⟨fun h => h, fun h => h⟩
@[simp] theorem gI_i {b : Int} {Q : Int → Prop} : gI (.int b) Q ↔ Q b := ⟨fun h => h, fun h => h⟩
def gSeq (d : D) (Q : List D → Prop) : Prop := match d with
  | .lst xs => Q xs
  | .tup xs => Q xs
  | .str z => Q (z.cps.toList.map fun c => .str ⟨#[c]⟩)
  | _ => False
@[simp] theorem gSeq_l {xs : List D} {Q : List D → Prop} : gSeq (.lst xs) Q ↔ Q xs := ⟨fun h => h, fun h => h⟩
@[simp] theorem gSeq_t {xs : List D} {Q : List D → Prop} : gSeq (.tup xs) Q ↔ Q xs := ⟨fun h => h, fun h => h⟩
def gRng1 (xs : List D) (Q : List D → Prop) : Prop := match xs with
  | [.int j] => -(2 ^ 62) ≤ j ∧ j < 2 ^ 62 ∧ Q (rng 0 j.toNat)
  | _ => False
@[simp] theorem gRng1_i {j : Int} {Q : List D → Prop} : gRng1 [.int j] Q ↔ -4611686018427387904 ≤ j ∧ j < 4611686018427387904 ∧ Q (rng 0 j.toNat) := ⟨fun h => h, fun h => h⟩
def gRng2 (xs : List D) (Q : List D → Prop) : Prop := match xs with
  | [.int i, .int j] => (-(2 ^ 62) ≤ i ∧ i < 2 ^ 62 ∧ -(2 ^ 62) ≤ j ∧ j < 2 ^ 62) ∧ Q (rng i (j - i).toNat)
  | _ => False
@[simp] theorem gRng2_i {i j : Int} {Q : List D → Prop} : gRng2 [.int i, .int j] Q ↔ (-4611686018427387904 ≤ i ∧ i < 4611686018427387904 ∧ -4611686018427387904 ≤ j ∧ j < 4611686018427387904) ∧ Q (rng i (j - i).toNat) := ⟨fun h => h, fun h => h⟩
def g2 (xs : List D) (Q : D → D → Prop) : Prop := match xs with
  | [x, y] => Q x y
  | _ => False
@[simp] theorem g2_2 {x y : D} {Q : D → D → Prop} : g2 [x, y] Q ↔ Q x y := ⟨fun h => h, fun h => h⟩
def gEnum (xs : List D) (Q : List D → Prop) : Prop := match xs with
  | [.lst xs] => Q (enumD xs)
  | _ => False
@[simp] theorem gEnum_l {xs : List D} {Q : List D → Prop} : gEnum [.lst xs] Q ↔ Q (enumD xs) := ⟨fun h => h, fun h => h⟩
def gZip (xs : List D) (Q : List D → Prop) : Prop := match xs with
  | [.lst xs, .lst ys] => Q (zipD xs ys)
  | [.tup xs, .tup ys] => Q (zipD xs ys)
  | _ => False
@[simp] theorem gZip_l {xs ys : List D} {Q : List D → Prop} : gZip [.lst xs, .lst ys] Q ↔ Q (zipD xs ys) := ⟨fun h => h, fun h => h⟩
@[simp] theorem gZip_t {xs ys : List D} {Q : List D → Prop} : gZip [.tup xs, .tup ys] Q ↔ Q (zipD xs ys) := ⟨fun h => h, fun h => h⟩
def gRev (x : D) (Q : List D → Prop) : Prop := match x with
  | .lst xs => Q xs.reverse
  | .tup xs => Q xs.reverse
  | _ => False
@[simp] theorem gRev_l {xs : List D} {Q : List D → Prop} : gRev (.lst xs) Q ↔ Q xs.reverse := ⟨fun h => h, fun h => h⟩
@[simp] theorem gRev_t {xs : List D} {Q : List D → Prop} : gRev (.tup xs) Q ↔ Q xs.reverse := ⟨fun h => h, fun h => h⟩
@[simp] theorem w_ienum {a : DA} {E : EK} {ρ : DL.Env} {Q : List D → Prop} : DL.iEnum a E ρ Q ↔ a E ρ fun xs => gEnum xs Q := ⟨fun h => h, fun h => h⟩
@[simp] theorem w_izip {a : DA} {E : EK} {ρ : DL.Env} {Q : List D → Prop} : DL.iZip a E ρ Q ↔ a E ρ fun xs => gZip xs Q := ⟨fun h => h, fun h => h⟩
@[simp] theorem w_irev {a : DT} {E : EK} {ρ : DL.Env} {Q : List D → Prop} : DL.iRev a E ρ Q ↔ a E ρ fun x => gRev x Q := ⟨fun h => h, fun h => h⟩
def gIns (c : String) (x : D) (Q : List (Str × D) → Prop) : Prop := match x with
  | .ins c' fs => c' = c ∧ Q fs
  | _ => False
@[simp] theorem gIns_i {c : String} {fs : List (Str × D)} {Q : List (Str × D) → Prop} : gIns c (.ins c fs) Q ↔ Q fs := ⟨fun h => h.2, fun h => ⟨rfl, h⟩⟩
def gOI (c : String) (o : Option Sl) (Q : List (Str × D) → Prop) : Prop := match o with
  | some (.o (.ins c' fs)) => c' = c ∧ Q fs
  | _ => False
@[simp] theorem gOI_i {c : String} {fs : List (Str × D)} {Q : List (Str × D) → Prop} : gOI c (some (.o (.ins c fs))) Q ↔ Q fs := ⟨fun h => h.2, fun h => ⟨rfl, h⟩⟩
@[simp] theorem w_fld {c : String} {f : Str} {a : DT} {E : EK} {ρ : DL.Env} {Q : DK} : dFld c f a E ρ Q ↔ a E ρ fun x => gIns c x fun fs => oGet (fs.lookup f) Q := ⟨fun h => h, fun h => h⟩
@[simp] theorem w_fldO {c : String} {i : Nat} {f : Str} {a : DT} {E : EK} {K : DE} {ρ : DL.Env} : sFldO c i f a E K ρ ↔ gOI c ρ[i]? fun fs => a E ρ fun v => fs.length < 1000 ∧ K.nx (ρ.set i (.o (.ins c (putFD f v fs)))) := by
  unfold sFldO gOI
  cases ρ[i]? with
  | none => exact Iff.rfl
  | some s => cases s with
    | o d => cases d <;> exact Iff.rfl
    | _ => exact Iff.rfl
@[simp] theorem w_make {W : DF} {r : DA} {E : EK} {ρ : DL.Env} {Q : DK} : dMake W r E ρ Q ↔ r E ρ fun xs => up W xs Q fun _ => False := ⟨fun h => h, fun h => h⟩
@[simp] theorem w_made {c : String} {fs : List (Str × D)} {ρ : DL.Env} {Q : DK} : madeQ Q (.o (.ins c fs) :: ρ) ↔ Q (.ins c fs) := ⟨fun h => h, fun h => h⟩
@[simp] theorem gO_o {d : D} {Q : DK} : gO (some (.o d)) Q ↔ Q d := ⟨fun h => h, fun h => h⟩
@[simp] theorem w_retO {i : Nat} {E : EK} {K : DE} {ρ : DL.Env} : sRetO i E K ρ ↔ gO ρ[i]? K.rt := ⟨fun h => h, fun h => h⟩
@[simp] theorem gOD_o {d : List (Key × D)} {Q : List (Key × D) → Prop} : gOD (some (.o (.dk d))) Q ↔ Q d := ⟨fun h => h, fun h => h⟩
@[simp] theorem gK_i {b : Int} {Q : Key → Prop} : gK (.int b) Q ↔ Q (.inl b) := ⟨fun h => h, fun h => h⟩
@[simp] theorem gK_s {b : Str} {Q : Key → Prop} : gK (.str b) Q ↔ Q (.inr b) := ⟨fun h => h, fun h => h⟩
@[simp] theorem gSm_s {α : Type} {b : α} {Q : α → Prop} : gSm (some b) Q ↔ Q b := ⟨fun h => h, fun h => h⟩
@[simp] theorem gDk_d {d : List (Key × D)} {Q : List (Key × D) → Prop} : gDk (.dk d) Q ↔ Q d := ⟨fun h => h, fun h => h⟩
@[simp] theorem w_lop {f : List D → List D → (List D → Prop) → Prop} {i : Nat} {a : DA} {E : EK} {K : DE} {ρ : DL.Env} : sLop f i a E K ρ ↔ gOL ρ[i]? fun xs => a E ρ fun ys => f xs ys fun zs => K.nx (ρ.set i (.o (.lst zs))) := ⟨fun h => h, fun h => h⟩
@[simp] theorem w_ext {xs zs : List D} {Q : List D → Prop} : lExt xs [.lst zs] Q ↔ xs.length + zs.length ≤ lineMax ∧ Q (xs ++ zs) := ⟨fun h => h, fun h => h⟩
@[simp] theorem w_ins {xs : List D} {k : Int} {y : D} {Q : List D → Prop} : lIns xs [.int k, y] Q ↔ (xs.length < lineMax ∧ 0 ≤ k ∧ k < 9223372036854775808) ∧ Q (xs.take k.toNat ++ [y] ++ xs.drop k.toNat) := ⟨fun h => h, fun h => h⟩
@[simp] theorem w_rev {xs : List D} {Q : List D → Prop} : lRev xs [] Q ↔ Q xs.reverse := ⟨fun h => h.2, fun h => ⟨rfl, h⟩⟩
@[simp] theorem w_clr {xs : List D} {Q : List D → Prop} : lClr xs [] Q ↔ Q [] := ⟨fun h => h.2, fun h => ⟨rfl, h⟩⟩
@[simp] theorem w_pop0 {xs : List D} {Q : D → List D → Prop} : lPop xs [] Q ↔ gSm xs[xs.length - 1]? fun y => Q y xs.dropLast := ⟨fun h => h, fun h => h⟩
@[simp] theorem w_pop1 {xs : List D} {k : Int} {Q : D → List D → Prop} : lPop xs [.int k] Q ↔ (-9223372036854775808 ≤ k ∧ k < 9223372036854775808) ∧ gSm (ixN xs.length k) fun j => gSm xs[j]? fun y => Q y (xs.eraseIdx j) := ⟨fun h => h, fun h => h⟩
@[simp] theorem w_pop {i : Nat} {a : DA} {E : EK} {K : DE} {ρ : DL.Env} : sPop i a E K ρ ↔ gOL ρ[i]? fun xs => a E ρ fun ys => lPop xs ys fun _ zs => K.nx (ρ.set i (.o (.lst zs))) := ⟨fun h => h, fun h => h⟩
@[simp] theorem w_popTo {i j : Nat} {a : DA} {E : EK} {K : DE} {ρ : DL.Env} : sPopTo i j a E K ρ ↔ gOL ρ[i]? fun xs => a E ρ fun ys => lPop xs ys fun y zs => K.nx ((ρ.set i (.o (.lst zs))).set j (.v y)) := ⟨fun h => h, fun h => h⟩
@[simp] theorem w_popApp {i : Nat} {a : DA} {E : EK} {K : DE} {ρ : DL.Env} : sPopApp i a E K ρ ↔ gOL ρ[i]? fun xs => a E ρ fun ys => lPop xs ys fun y zs => zs.length < lineMax ∧ K.nx (ρ.set i (.o (.lst (zs ++ [y])))) := ⟨fun h => h, fun h => h⟩
@[simp] theorem w_setIx {i : Nat} {a b : DT} {E : EK} {K : DE} {ρ : DL.Env} : sSetIx i a b E K ρ ↔ gOL ρ[i]? fun xs => b E ρ fun v => a E ρ fun k => gI k fun k => gSm (ixN xs.length k) fun j => K.nx (ρ.set i (.o (.lst (xs.set j v)))) := ⟨fun h => h, fun h => h⟩
@[simp] theorem w_augIx {f : D → D → DK → Prop} {i : Nat} {a b : DT} {E : EK} {K : DE} {ρ : DL.Env} : sAugIx f i a b E K ρ ↔ gOL ρ[i]? fun xs => a E ρ fun k => gI k fun k => gSm (ixN xs.length k) fun j => gSm xs[j]? fun x => b E ρ fun y => f x y fun z => K.nx (ρ.set i (.o (.lst (xs.set j z)))) := ⟨fun h => h, fun h => h⟩
@[simp] theorem w_newK {E : EK} {ρ : DL.Env} {Q : DK} : dNewK E ρ Q ↔ Q (.dk []) := ⟨fun h => h, fun h => h⟩
@[simp] theorem w_putK {i : Nat} {a b : DT} {E : EK} {K : DE} {ρ : DL.Env} : sPutK i a b E K ρ ↔ gOD ρ[i]? fun kvs => b E ρ fun v => a E ρ fun k => gK k fun k => kvs.length < 1000000 ∧ K.nx (ρ.set i (.o (.dk (putD kvs k v)))) := ⟨fun h => h, fun h => h⟩
@[simp] theorem w_ixK {i : Nat} {a : DT} {E : EK} {ρ : DL.Env} {Q : DK} : dIxK i a E ρ Q ↔ gOD ρ[i]? fun kvs => a E ρ fun k => gK k fun k => oGet (lookD kvs k) Q := ⟨fun h => h, fun h => h⟩
@[simp] theorem w_getK1 {a b : DT} {E : EK} {ρ : DL.Env} {Q : DK} : dGetK1 a b E ρ Q ↔ a E ρ fun x => gDk x fun kvs => b E ρ fun k => gK k fun k => Q ((lookD kvs k).getD .non) := ⟨fun h => h, fun h => h⟩
@[simp] theorem w_getK2 {a b c : DT} {E : EK} {ρ : DL.Env} {Q : DK} : dGetK2 a b c E ρ Q ↔ a E ρ fun x => gDk x fun kvs => b E ρ fun k => c E ρ fun z => gK k fun k => Q ((lookD kvs k).getD z) := ⟨fun h => h, fun h => h⟩
@[simp] theorem w_pnil {E : EK} {ρ : DL.Env} {Q : List (D × D) → Prop} : pNil E ρ Q ↔ Q [] := ⟨fun h => h, fun h => h⟩
@[simp] theorem w_pcons {a b : DT} {r : DPs} {E : EK} {ρ : DL.Env} {Q : List (D × D) → Prop} : pCons a b r E ρ Q ↔ a E ρ fun x => b E ρ fun y => r E ρ fun ps => Q ((x, y) :: ps) := ⟨fun h => h, fun h => h⟩
@[simp] theorem w_disp {a : DPs} {E : EK} {ρ : DL.Env} {Q : DK} : dDisp a E ρ Q ↔ a E ρ fun ps => gSm (keyV ps) fun kvs => ps.length ≤ 15 ∧ Q (.dk (mergeD kvs)) := ⟨fun h => h, fun h => h⟩
@[simp] theorem keyV_nil : keyV [] = some [] := rfl
@[simp] theorem keyV_i {i : Int} {v : D} {r : List (D × D)} : keyV ((.int i, v) :: r) = (keyV r).map fun kvs => (.inl i, v) :: kvs := by
  simp only [keyV, keyOf]
  cases keyV r <;> rfl
@[simp] theorem keyV_s {i : Str} {v : D} {r : List (D × D)} : keyV ((.str i, v) :: r) = (keyV r).map fun kvs => (.inr i, v) :: kvs := by
  simp only [keyV, keyOf]
  cases keyV r <;> rfl
/-! the transformers, one by one -/
@[simp] theorem w_var {i : Nat} {Q : DK} {E : EK} {ρ : DL.Env} : dVar i E ρ Q ↔ gV ρ[i]? Q := ⟨fun h => h, fun h => h⟩
@[simp] theorem w_c {d : D} {Q : DK} {E : EK} {ρ : DL.Env} : dC d E ρ Q ↔ Q d := ⟨fun h => h, fun h => h⟩
@[simp] theorem w_op {f : D → D → DK → Prop} {a b : DT} {Q : DK} {E : EK} {ρ : DL.Env} : dOp f a b E ρ Q ↔ a E ρ fun x => b E ρ fun y => f x y Q := ⟨fun h => h, fun h => h⟩
@[simp] theorem w_un {f : D → DK → Prop} {a : DT} {Q : DK} {E : EK} {ρ : DL.Env} : dUn f a E ρ Q ↔ a E ρ fun x => f x Q := ⟨fun h => h, fun h => h⟩
@[simp] theorem w_chain {f g : D → D → DK → Prop} {a b c : DT} {Q : DK} {E : EK} {ρ : DL.Env} : dChain f g a b c E ρ Q ↔ a E ρ fun x => b E ρ fun y => f x y fun z => gB z fun k => if k = true then c E ρ fun u => g y u Q else Q (.bl false) := ⟨fun h => h, fun h => h⟩
@[simp] theorem w_anil {Q : List D → Prop} {E : EK} {ρ : DL.Env} : aNil E ρ Q ↔ Q [] := ⟨fun h => h, fun h => h⟩
@[simp] theorem w_acons {a : DT} {r : DA} {Q : List D → Prop} {E : EK} {ρ : DL.Env} : aCons a r E ρ Q ↔ a E ρ fun x => r E ρ fun xs => Q (x :: xs) := ⟨fun h => h, fun h => h⟩
@[simp] theorem w_tup {a : DA} {Q : DK} {E : EK} {ρ : DL.Env} : dTup a E ρ Q ↔ a E ρ fun xs => xs.length ≤ lineMax ∧ Q (.tup xs) := ⟨fun h => h, fun h => h⟩
@[simp] theorem w_lst {a : DA} {Q : DK} {E : EK} {ρ : DL.Env} : dLst a E ρ Q ↔ a E ρ fun xs => xs.length ≤ lineMax ∧ Q (.lst xs) := ⟨fun h => h, fun h => h⟩
@[simp] theorem w_call {W : DF} {a : DA} {Q : DK} {E : EK} {ρ : DL.Env} : dCall W a E ρ Q ↔ a E ρ fun xs => up W xs Q fun e => E e ρ := ⟨fun h => h, fun h => h⟩
@[simp] theorem w_blt {f : List D → DK → Prop} {a : DA} {Q : DK} {E : EK} {ρ : DL.Env} : dBlt f a E ρ Q ↔ a E ρ fun xs => f xs Q := ⟨fun h => h, fun h => h⟩
@[simp] theorem w_T {a : DT} {Q : Bool → Prop} {E : EK} {ρ : DL.Env} : bT a E ρ Q ↔ a E ρ fun x => gB x Q := ⟨fun h => h, fun h => h⟩
@[simp] theorem w_truth {a : DT} {Q : Bool → Prop} {E : EK} {ρ : DL.Env} : bTruth a E ρ Q ↔ a E ρ fun x => truthD x Q := ⟨fun h => h, fun h => h⟩
@[simp] theorem w_and {a b : DB} {Q : Bool → Prop} {E : EK} {ρ : DL.Env} : bAnd a b E ρ Q ↔ a E ρ fun c => if c = true then b E ρ Q else Q false := ⟨fun h => h, fun h => h⟩
@[simp] theorem w_or {a b : DB} {Q : Bool → Prop} {E : EK} {ρ : DL.Env} : bOr a b E ρ Q ↔ a E ρ fun c => if c = true then Q true else b E ρ Q := ⟨fun h => h, fun h => h⟩
@[simp] theorem w_not {a : DB} {Q : Bool → Prop} {E : EK} {ρ : DL.Env} : bNot a E ρ Q ↔ a E ρ fun c => Q (!c) := ⟨fun h => h, fun h => h⟩
@[simp] theorem w_andV {a b : DT} {Q : DK} {E : EK} {ρ : DL.Env} : dAndV a b E ρ Q ↔ a E ρ fun x => gB x fun c => if c = true then b E ρ Q else Q (.bl false) := ⟨fun h => h, fun h => h⟩
@[simp] theorem w_orV {a b : DT} {Q : DK} {E : EK} {ρ : DL.Env} : dOrV a b E ρ Q ↔ a E ρ fun x => gB x fun c => if c = true then Q (.bl true) else b E ρ Q := ⟨fun h => h, fun h => h⟩
@[simp] theorem w_notV {a : DT} {Q : DK} {E : EK} {ρ : DL.Env} : dNotV a E ρ Q ↔ a E ρ fun x => gB x fun c => Q (.bl (!c)) := ⟨fun h => h, fun h => h⟩
@[simp] theorem w_if {c : DB} {a b : DT} {Q : DK} {E : EK} {ρ : DL.Env} : dIf c a b E ρ Q ↔ c E ρ fun k => if k = true then a E ρ Q else b E ρ Q := ⟨fun h => h, fun h => h⟩
@[simp] theorem w_oN {Q : Option Int → Prop} {E : EK} {ρ : DL.Env} : oN E ρ Q ↔ Q none := ⟨fun h => h, fun h => h⟩
@[simp] theorem w_oS {a : DT} {Q : Option Int → Prop} {E : EK} {ρ : DL.Env} : oS a E ρ Q ↔ a E ρ fun x => gI x fun i => Q (some i) := ⟨fun h => h, fun h => h⟩
@[simp] theorem w_slice {a : DT} {lo hi : DO} {Q : DK} {E : EK} {ρ : DL.Env} : dSlice a lo hi E ρ Q ↔ a E ρ fun x => lo E ρ fun l => hi E ρ fun h => oCut x l h Q := ⟨fun h => h, fun h => h⟩
@[simp] theorem w_iseq {a : DT} {Q : List D → Prop} {E : EK} {ρ : DL.Env} : iSeq a E ρ Q ↔ a E ρ fun x => gSeq x Q := ⟨fun h => h, fun h => h⟩
@[simp] theorem w_rng1 {a : DA} {Q : List D → Prop} {E : EK} {ρ : DL.Env} : iRng1 a E ρ Q ↔ a E ρ fun xs => gRng1 xs Q := ⟨fun h => h, fun h => h⟩
@[simp] theorem w_rng2 {a : DA} {Q : List D → Prop} {E : EK} {ρ : DL.Env} : iRng2 a E ρ Q ↔ a E ρ fun xs => gRng2 xs Q := ⟨fun h => h, fun h => h⟩
@[simp] theorem w_gname {i : Nat} {d : D} {ρ : DL.Env} {Q : DL.Env → Prop} : gName i d ρ Q ↔ Q (ρ.set i (.v d)) := ⟨fun h => h, fun h => h⟩
@[simp] theorem w_gnil {ρ : DL.Env} {Q : DL.Env → Prop} : gNil [] ρ Q ↔ Q ρ := ⟨fun h => h.2, fun h => ⟨rfl, h⟩⟩
@[simp] theorem w_gcons {g : DG} {r : DGs} {x : D} {xs : List D} {ρ : DL.Env} {Q : DL.Env → Prop} : gCons g r (x :: xs) ρ Q ↔ g x ρ fun ρ' => r xs ρ' Q := ⟨fun h => h, fun h => h⟩
@[simp] theorem w_gtup {g : DGs} {xs : List D} {ρ : DL.Env} {Q : DL.Env → Prop} : gTup g (.tup xs) ρ Q ↔ g xs ρ Q := ⟨fun h => h, fun h => h⟩
@[simp] theorem w_gtupL {g : DGs} {xs : List D} {ρ : DL.Env} {Q : DL.Env → Prop} : gTup g (.lst xs) ρ Q ↔ g xs ρ Q := ⟨fun h => h, fun h => h⟩
@[simp] theorem w_next {E : EK} {K : DE} {ρ : DL.Env} : sNext E K ρ ↔ K.nx ρ := ⟨fun h => h, fun h => h⟩
@[simp] theorem w_seq {a b : DS} {E : EK} {K : DE} {ρ : DL.Env} : sSeq a b E K ρ ↔ a E { K with nx := b E K } ρ := ⟨fun h => h, fun h => h⟩
@[simp] theorem w_brk {E : EK} {K : DE} {ρ : DL.Env} : sBreak E K ρ ↔ K.bk ρ := ⟨fun h => h, fun h => h⟩
@[simp] theorem w_cnt {E : EK} {K : DE} {ρ : DL.Env} : sCont E K ρ ↔ K.ct ρ := ⟨fun h => h, fun h => h⟩
@[simp] theorem w_drop {a : DT} {E : EK} {K : DE} {ρ : DL.Env} : sDrop a E K ρ ↔ a E ρ fun _ => K.nx ρ := ⟨fun h => h, fun h => h⟩
@[simp] theorem w_ret {a : DT} {E : EK} {K : DE} {ρ : DL.Env} : sRet a E K ρ ↔ a E ρ K.rt := ⟨fun h => h, fun h => h⟩
@[simp] theorem w_retN {E : EK} {K : DE} {ρ : DL.Env} : sRetN E K ρ ↔ K.rt .non := ⟨fun h => h, fun h => h⟩
@[simp] theorem w_ifs {c : DB} {a b : DS} {E : EK} {K : DE} {ρ : DL.Env} : sIf c a b E K ρ ↔ c E ρ fun k => if k = true then a E K ρ else b E K ρ := ⟨fun h => h, fun h => h⟩
@[simp] theorem w_asg {a : DT} {g : DG} {E : EK} {K : DE} {ρ : DL.Env} : sAsg a g E K ρ ↔ a E ρ fun x => g x ρ K.nx := ⟨fun h => h, fun h => h⟩
@[simp] theorem w_set {i : Nat} {a : DT} {E : EK} {K : DE} {ρ : DL.Env} : sSet i a E K ρ ↔ a E ρ fun x => K.nx (ρ.set i (.v x)) := ⟨fun h => h, fun h => h⟩
@[simp] theorem w_own {i : Nat} {a : DT} {E : EK} {K : DE} {ρ : DL.Env} : sOwn i a E K ρ ↔ a E ρ fun x => K.nx (ρ.set i (.o x)) := ⟨fun h => h, fun h => h⟩
@[simp] theorem w_frz {i : Nat} {a : DS} {E : EK} {K : DE} {ρ : DL.Env} : sFrz i a E K ρ ↔ gFrz ρ[i]? i ρ fun ρ => a E K ρ := by
  show a E K (frz i ρ) ↔ _
  unfold frz gFrz
  cases ρ[i]? with
  | none => exact Iff.rfl
  | some s => cases s <;> exact Iff.rfl
@[simp] theorem w_fgt {js : List Nat} {a : DS} {E : EK} {K : DE} {ρ : DL.Env} : sFgt js a E K ρ ↔ a E K (fgt js ρ) := ⟨fun h => h, fun h => h⟩
@[simp] theorem w_par {i j : Nat} {a : DA} {E : EK} {K : DE} {ρ : DL.Env} : sPar i j a E K ρ ↔ a E ρ fun xs => g2 xs fun x y => K.nx ((ρ.set i (.v x)).set j (.v y)) := ⟨fun h => h, fun h => h⟩
@[simp] theorem w_aug {i : Nat} {f : D → D → DK → Prop} {a : DT} {E : EK} {K : DE} {ρ : DL.Env} : sAug i f a E K ρ ↔ gV ρ[i]? fun x => a E ρ fun y => f x y fun z => K.nx (ρ.set i (.v z)) := ⟨fun h => h, fun h => h⟩
@[simp] theorem w_app {i : Nat} {a : DT} {E : EK} {K : DE} {ρ : DL.Env} : sApp i a E K ρ ↔ gOL ρ[i]? fun xs => a E ρ fun x => xs.length < lineMax ∧ K.nx (ρ.set i (.o (.lst (xs ++ [x])))) := ⟨fun h => h, fun h => h⟩
@[simp] theorem w_for {it : DI} {g : DG} {b : DS} {E : EK} {K : DE} {ρ : DL.Env} : sFor it g b E K ρ ↔ it E ρ fun xs => forL g b E K xs ρ := ⟨fun h => h, fun h => h⟩
@[simp] theorem w_while {c : DB} {b : DS} {E : EK} {K : DE} {ρ : DL.Env} : sWhile c b E K ρ ↔ ∃ n, whileN c b E K n ρ := ⟨fun h => h, fun h => h⟩
@[simp] theorem w_lc {it : DI} {g : DG} {t : DB} {e : DT} {vs : List Nat} {Q : DK} {E : EK} {ρ : DL.Env} : dLc it g t e vs E ρ Q ↔ it E ρ fun xs => lcL g t e (noOwn (wipeE ρ vs)) xs [] fun r => Q (.lst r) := ⟨fun h => h, fun h => h⟩
@[simp] theorem w_yes {Q : Bool → Prop} {E : EK} {ρ : DL.Env} : bYes E ρ Q ↔ Q true := ⟨fun h => h, fun h => h⟩
@[simp] theorem w_isi {c : String} {a : DT} {Q : DK} {E : EK} {ρ : DL.Env} : dIsi c a E ρ Q ↔ a E ρ fun d => tyName d ≠ "" ∧ Q (.bl (isTy c d)) := ⟨fun h => h, fun h => h⟩
@[simp] theorem w_dbor {a : DT} {Q : DK} {E : EK} {ρ : DL.Env} : dBor a E ρ Q ↔ a noE (bor ρ) fun d => isFlat d = true ∧ Q d := ⟨fun h => h, fun h => h⟩
@[simp] theorem w_bbor {a : DB} {Q : Bool → Prop} {E : EK} {ρ : DL.Env} : bBor a E ρ Q ↔ a noE (bor ρ) Q := ⟨fun h => h, fun h => h⟩
@[simp] theorem w_ixO {i : Nat} {a : DT} {Q : DK} {E : EK} {ρ : DL.Env} : dIxO i a E ρ Q ↔ gOL ρ[i]? fun xs => a E ρ fun y => gI y fun k => oGet (atI xs k) Q := ⟨fun h => h, fun h => h⟩
@[simp] theorem w_addI {i j : Int} {Q : DK} : oAdd (.int i) (.int j) Q ↔ Q (.int (i + j)) := ⟨fun h => h, fun h => h⟩
@[simp] theorem w_addS {a b : Str} {Q : DK} : oAdd (.str a) (.str b) Q ↔ a.length + b.length ≤ lineMax ∧ Q (.str (a ++ b)) := ⟨fun h => h, fun h => h⟩
@[simp] theorem w_addL {a b : List D} {Q : DK} : oAdd (.lst a) (.lst b) Q ↔ a.length + b.length ≤ lineMax ∧ Q (.lst (a ++ b)) := ⟨fun h => h, fun h => h⟩
@[simp] theorem w_addT {a b : List D} {Q : DK} : oAdd (.tup a) (.tup b) Q ↔ a.length + b.length ≤ lineMax ∧ Q (.tup (a ++ b)) := ⟨fun h => h, fun h => h⟩
@[simp] theorem w_sub {i j : Int} {Q : DK} : oSub (.int i) (.int j) Q ↔ Q (.int (i - j)) := ⟨fun h => h, fun h => h⟩
@[simp] theorem w_mul {i j : Int} {Q : DK} : oMul (.int i) (.int j) Q ↔ mulOk i j ∧ Q (.int (i * j)) := ⟨fun h => h, fun h => h⟩
@[simp] theorem w_mulT {a : List D} {k : Int} {Q : DK} : oMul (.tup a) (.int k) Q ↔ -(2 ^ 63) ≤ k ∧ k ≤ 1000 ∧ a.length ≤ 1000 ∧ Q (.tup (List.replicate k.toNat a).flatten) := ⟨fun h => h, fun h => h⟩
@[simp] theorem w_mulL {a : List D} {k : Int} {Q : DK} : oMul (.lst a) (.int k) Q ↔ -(2 ^ 63) ≤ k ∧ k < 2 ^ 63 ∧ a.length * k.toNat ≤ lineMax ∧ Q (.lst (List.replicate k.toNat a).flatten) := ⟨fun h => h, fun h => h⟩
@[simp] theorem w_div {i j : Int} {Q : DK} : oDiv (.int i) (.int j) Q ↔ divOk j ∧ Q (.int (i / j)) := ⟨fun h => h, fun h => h⟩
@[simp] theorem w_mod {i j : Int} {Q : DK} : oMod (.int i) (.int j) Q ↔ 0 < j ∧ Q (.int (i % j)) := ⟨fun h => h, fun h => h⟩
@[simp] theorem w_pow {i j : Int} {Q : DK} : oPow (.int i) (.int j) Q ↔ (0 ≤ j ∧ j ≤ 1000000 ∧ i.natAbs < 2 ^ 64) ∧ Q (.int (i ^ j.toNat)) := ⟨fun h => h, fun h => h⟩
@[simp] theorem w_neg {i : Int} {Q : DK} : oNeg (.int i) Q ↔ Q (.int (-i)) := ⟨fun h => h, fun h => h⟩
@[simp] theorem w_eq {x y : D} {Q : DK} : oEq x y Q ↔ okD 60 x = true ∧ okD 60 y = true ∧ Q (.bl (eqD x y)) := ⟨fun h => h, fun h => h⟩
@[simp] theorem w_ne {x y : D} {Q : DK} : oNe x y Q ↔ okD 60 x = true ∧ okD 60 y = true ∧ Q (.bl (!eqD x y)) := ⟨fun h => h, fun h => h⟩
@[simp] theorem w_lt {i j : Int} {Q : DK} : oLt (.int i) (.int j) Q ↔ Q (.bl (decide (i < j))) := ⟨fun h => h, fun h => h⟩
@[simp] theorem w_le {i j : Int} {Q : DK} : oLe (.int i) (.int j) Q ↔ Q (.bl (decide (i ≤ j))) := ⟨fun h => h, fun h => h⟩
@[simp] theorem w_gt {i j : Int} {Q : DK} : oGt (.int i) (.int j) Q ↔ Q (.bl (decide (j < i))) := ⟨fun h => h, fun h => h⟩
@[simp] theorem w_ge {i j : Int} {Q : DK} : oGe (.int i) (.int j) Q ↔ Q (.bl (decide (j ≤ i))) := ⟨fun h => h, fun h => h⟩
@[simp] theorem w_is {x y : D} {Q : DK} : oIs x y Q ↔ isNon y = true ∧ Q (.bl (isNon x)) := ⟨fun h => h, fun h => h⟩
@[simp] theorem w_isnot {x y : D} {Q : DK} : oIsNot x y Q ↔ isNon y = true ∧ Q (.bl (!isNon x)) := ⟨fun h => h, fun h => h⟩
@[simp] theorem w_addAI {i j : Int} {Q : DK} : oAddI (.int i) (.int j) Q ↔ Q (.int (i + j)) := ⟨fun h => h, fun h => h⟩
@[simp] theorem w_inL {x : D} {xs : List D} {Q : DK} : oIn x (.lst xs) Q ↔ okD 60 x = true ∧ okDs 59 xs = true ∧ Q (.bl (inD x xs)) := ⟨fun h => h, fun h => h⟩
@[simp] theorem w_inT {x : D} {xs : List D} {Q : DK} : oIn x (.tup xs) Q ↔ ((isFlat x = true ∧ xs.all isFlat = true) ∨ (okD 60 x = true ∧ okDs 59 xs = true)) ∧ Q (.bl (inD x xs)) := ⟨fun h => h, fun h => h⟩
@[simp] theorem w_notIn {x y : D} {Q : DK} : oNotIn x y Q ↔ oIn x y fun d => gB d fun b => Q (.bl (!b)) := ⟨fun h => h, fun h => h⟩
@[simp] theorem w_get {d : D} {Q : DK} : oGet (some d) Q ↔ Q d := ⟨fun h => h, fun h => h⟩
@[simp] theorem w_ixL {xs : List D} {i : Int} {Q : DK} : oIx (.lst xs) (.int i) Q ↔ oGet (atI xs i) Q := ⟨fun h => h, fun h => h⟩
@[simp] theorem w_ixT {xs : List D} {i : Int} {Q : DK} : oIx (.tup xs) (.int i) Q ↔ oGet (atI xs i) Q := ⟨fun h => h, fun h => h⟩
@[simp] theorem w_cutL {xs : List D} {lo hi : Option Int} {Q : DK} : oCut (.lst xs) lo hi Q ↔ Q (.lst (cutL xs lo hi)) := ⟨fun h => h, fun h => h⟩
@[simp] theorem w_cutT {xs : List D} {lo hi : Option Int} {Q : DK} : oCut (.tup xs) lo hi Q ↔ Q (.tup (cutL xs lo hi)) := ⟨fun h => h, fun h => h⟩
@[simp] theorem w_lenL {xs : List D} {Q : DK} : fLen [.lst xs] Q ↔ Q (.int xs.length) := ⟨fun h => h, fun h => h⟩
@[simp] theorem w_lenT {xs : List D} {Q : DK} : fLen [.tup xs] Q ↔ Q (.int xs.length) := ⟨fun h => h, fun h => h⟩
@[simp] theorem w_lenS {xs : List Int} {Q : DK} : fLen [.scr xs] Q ↔ Q (.int xs.length) := ⟨fun h => h, fun h => h⟩
@[simp] theorem w_lenK {xs : List (Key × D)} {Q : DK} : fLen [.dk xs] Q ↔ Q (.int xs.length) := ⟨fun h => h, fun h => h⟩
@[simp] theorem w_abs {i : Int} {Q : DK} : fAbs [.int i] Q ↔ Q (.int (if i < 0 then -i else i)) := ⟨fun h => h, fun h => h⟩
@[simp] theorem w_gcd {i j : Int} {Q : DK} : fGcd [.int i, .int j] Q ↔ Q (.int ((Nat.gcd i.natAbs j.natAbs : Nat) : Int)) := ⟨fun h => h, fun h => h⟩
@[simp] theorem w_min2 {i j : Int} {Q : DK} : fMin [.int i, .int j] Q ↔ Q (.int (if j < i then j else i)) := ⟨fun h => h, fun h => h⟩
@[simp] theorem w_max2 {i j : Int} {Q : DK} : fMax [.int i, .int j] Q ↔ Q (.int (if j > i then j else i)) := ⟨fun h => h, fun h => h⟩
@[simp] theorem w_listL {l : List D} {Q : DK} : fList [.lst l] Q ↔ Q (.lst l) := ⟨fun h => h, fun h => h⟩
@[simp] theorem w_listT {l : List D} {Q : DK} : fList [.tup l] Q ↔ Q (.lst l) := ⟨fun h => h, fun h => h⟩
@[simp] theorem w_tupleL {l : List D} {Q : DK} : fTuple [.lst l] Q ↔ Q (.tup l) := ⟨fun h => h, fun h => h⟩
@[simp] theorem w_tupleT {l : List D} {Q : DK} : fTuple [.tup l] Q ↔ Q (.tup l) := ⟨fun h => h, fun h => h⟩
@[simp] theorem w_int {i : Int} {Q : DK} : fInt [.int i] Q ↔ Q (.int i) := ⟨fun h => h, fun h => h⟩
@[simp] theorem w_intB {b : Bool} {Q : DK} : fInt [.bl b] Q ↔ Q (.int (if b then 1 else 0)) := ⟨fun h => h, fun h => h⟩
@[simp] theorem w_str {i : Int} {Q : DK} : fStr [.int i] Q ↔ i.natAbs.log2 < 1920 ∧ Q (.str (Str.ofString (toString i))) := ⟨fun h => h, fun h => h⟩
@[simp] theorem w_divmod {i j : Int} {Q : DK} : fDivmod [.int i, .int j] Q ↔ (0 < j ∧ j < 1073741824) ∧ Q (.tup [.int (i / j), .int (i % j)]) := ⟨fun h => h, fun h => h⟩
@[simp] theorem tr_b {b : Bool} {Q : Bool → Prop} : truthD (.bl b) Q ↔ Q b := ⟨fun h => h, fun h => h⟩
@[simp] theorem tr_n {Q : Bool → Prop} : truthD .non Q ↔ Q false := ⟨fun h => h, fun h => h⟩
@[simp] theorem tr_i {i : Int} {Q : Bool → Prop} : truthD (.int i) Q ↔ Q (i != 0) := ⟨fun h => h, fun h => h⟩
@[simp] theorem tr_l {xs : List D} {Q : Bool → Prop} : truthD (.lst xs) Q ↔ Q (!xs.isEmpty) := ⟨fun h => h, fun h => h⟩
@[simp] theorem tr_t {xs : List D} {Q : Bool → Prop} : truthD (.tup xs) Q ↔ Q (!xs.isEmpty) := ⟨fun h => h, fun h => h⟩
@[simp] theorem ok_int {n : Nat} {i : Int} : okD n (.int i) = true := by cases n <;> simp [okD]
@[simp] theorem ok_bl {n : Nat} {i : Bool} : okD n (.bl i) = true := by cases n <;> simp [okD]
@[simp] theorem ok_non {n : Nat} : okD n .non = true := by cases n <;> simp [okD]
@[simp] theorem ok_tup {n : Nat} {xs : List D} : okD (n + 1) (.tup xs) = okDs n xs := by simp [okD]
@[simp] theorem ok_lst {n : Nat} {xs : List D} : okD (n + 1) (.lst xs) = okDs n xs := by simp [okD]
@[simp] theorem oks_nil {n : Nat} : okDs n [] = true := by simp [okDs]
@[simp] theorem oks_cons {n : Nat} {x : D} {xs : List D} : okDs n (x :: xs) = (okD n x && okDs n xs) := by simp [okDs]
@[simp] theorem eq_int {i j : Int} : eqD (.int i) (.int j) = decide (i = j) := by simp [eqD]; rfl
@[simp] theorem eq_bl {i j : Bool} : eqD (.bl i) (.bl j) = (i == j) := by simp [eqD]
@[simp] theorem eq_non : eqD .non .non = true := by simp [eqD]
@[simp] theorem eq_tup {xs ys : List D} : eqD (.tup xs) (.tup ys) = eqDs xs ys := by simp [eqD]
@[simp] theorem eq_lst {xs ys : List D} : eqD (.lst xs) (.lst ys) = eqDs xs ys := by simp [eqD]
@[simp] theorem eq_tn {xs : List D} : eqD (.tup xs) .non = false := by simp [eqD]
@[simp] theorem eq_nt {xs : List D} : eqD .non (.tup xs) = false := by simp [eqD]
@[simp] theorem eqs_nil : eqDs [] [] = true := by simp [eqDs]
@[simp] theorem eqs_cons {x y : D} {xs ys : List D} : eqDs (x :: xs) (y :: ys) = (eqD x y && eqDs xs ys) := by simp [eqDs]
@[simp] theorem fl_int {i : Int} : isFlat (.int i) = true := rfl
@[simp] theorem fl_bl {i : Bool} : isFlat (.bl i) = true := rfl
@[simp] theorem fl_non : isFlat .non = true := rfl
@[simp] theorem fl_str {x : Str} : isFlat (.str x) = true := rfl
@[simp] theorem non_non : isNon .non = true := rfl
@[simp] theorem non_int {i : Int} : isNon (.int i) = false := rfl
@[simp] theorem non_tup {i : List D} : isNon (.tup i) = false := rfl
@[simp] theorem non_lst {i : List D} : isNon (.lst i) = false := rfl
mutual
/-- == of data with itself, where it is known -/
theorem eqD_self : ∀ (n : Nat) (d : D), okD n d = true → eqD d d = true
  | _, .non, _ => by simp [eqD]
  | _, .bl _, _ => by simp [eqD]
  | _, .int _, _ => by simp [eqD]
  | _, .str _, _ => by simp [eqD]
  | 0, .tup _, h => by simp [okD] at h
  | n + 1, .tup xs, h => by
    simp only [okD] at h
    simpa [eqD] using eqDs_self n xs h
  | 0, .lst _, h => by simp [okD] at h
  | n + 1, .lst xs, h => by
    simp only [okD] at h
    simpa [eqD] using eqDs_self n xs h
  | n, .dk _, h => by cases n <;> simp [okD] at h
  | n, .dt _, h => by cases n <;> simp [okD] at h
  | n, .ins _ _, h => by cases n <;> simp [okD] at h
  | n, .st, h => by cases n <;> simp [okD] at h
  | n, .scr _, h => by cases n <;> simp [okD] at h
  | n, .fn _, h => by cases n <;> simp [okD] at h
theorem eqDs_self : ∀ (n : Nat) (d : List D), okDs n d = true → eqDs d d = true
  | _, [], _ => by simp [eqDs]
  | n, x :: xs, h => by
    simp only [okDs, Bool.and_eq_true] at h
    simp only [eqDs, Bool.and_eq_true]
    exact ⟨eqD_self n x h.1, eqDs_self n xs h.2⟩
end
@[simp] theorem log_lit {b : Int} (h0 : 0 ≤ b) (h : b < 1000000000000000000) : b.natAbs.log2 < 9000 := by
  have h1 : b.natAbs < 2 ^ 64 := by omega
  have h2 : b.natAbs.log2 < 64 ∨ b.natAbs = 0 := by
    by_cases z : b.natAbs = 0
    · exact .inr z
    · exact .inl ((Nat.log2_lt z).mpr h1)
  rcases h2 with z | z
  · omega
  · rw [z]
    decide
@[simp] theorem log_nat {n : Nat} (h : n < 1000000000000000000) : n.log2 < 9000 := by
  by_cases z : n = 0
  · rw [z]
    decide
  · have : n.log2 < 64 := (Nat.log2_lt z).mpr (by omega)
    omega
theorem two_le_line {n : Nat} (h : n ≤ 1000000) : n ≤ lineMax := Nat.le_trans h (by decide)
theorem lit_line : lineMax = 16777216 := rfl
@[simp] theorem le_line {n : Nat} : n ≤ lineMax ↔ n ≤ 16777216 := Iff.rfl
@[simp] theorem lt_line {n : Nat} : n < lineMax ↔ n < 16777216 := Iff.rfl
@[simp] theorem inD_nil {x : D} : inD x [] = false := rfl
@[simp] theorem inD_cons {x y : D} {ys : List D} : inD x (y :: ys) = (eqD y x || inD x ys) := rfl
theorem ixN_pos {n : Nat} {i : Int} (h0 : 0 ≤ i) (h : i < n) : ixN n i = some i.toNat := by
  unfold ixN
  rw [if_pos h0, if_pos h]
theorem ixN_neg {n : Nat} {i : Int} (h0 : i < 0) (h : -(n : Int) ≤ i) : ixN n i = some (i + n).toNat := by
  unfold ixN
  rw [if_neg (by omega), if_pos h]
theorem atI_pos {α : Type} {xs : List α} {i : Int} (h0 : 0 ≤ i) (h : i < xs.length) : atI xs i = some (xs[i.toNat]'(by omega)) := by
  unfold atI
  rw [ixN_pos h0 h]
  show xs[i.toNat]? = _
  exact List.getElem?_eq_getElem (by omega)
theorem atI_nat {α : Type} {xs : List α} {i : Nat} (h : i < xs.length) : atI xs (i : Int) = some xs[i] := by
  rw [atI_pos (by omega) (by omega)]
  simp
/-- xs[-1] -/
theorem atI_last {α : Type} {xs : List α} {x : α} : atI (xs ++ [x]) (-1) = some x := by
  unfold atI
  rw [ixN_neg (by omega) (by simp; omega)]
  have : (-1 + ((xs ++ [x]).length : Int)).toNat = xs.length := by
    simp only [List.length_append, List.length_singleton]
    omega
  rw [this]
  simp
@[simp] theorem atI_lit0 {α : Type} {x : α} {xs : List α} : atI (x :: xs) 0 = some x := by
  rw [atI_pos (by omega) (by simp)]
  simp
@[simp] theorem atI_lit1 {α : Type} {x y : α} {xs : List α} : atI (x :: y :: xs) 1 = some y := by
  rw [atI_pos (by omega) (by simp; omega)]
  simp
@[simp] theorem atI_lit2 {α : Type} {x y z : α} {xs : List α} : atI (x :: y :: z :: xs) 2 = some z := by
  rw [atI_pos (by omega) (by simp; omega)]
  simp
@[simp] theorem atI_lit3 {α : Type} {x y z u : α} {xs : List α} : atI (x :: y :: z :: u :: xs) 3 = some u := by
  rw [atI_pos (by omega) (by simp; omega)]
  simp
theorem get_any {xs : List D} {i : Int} {Q : DK} (h0 : 0 ≤ i) (h1 : i < xs.length) (q : ∀ x ∈ xs, Q x) : oGet (atI xs i) Q := by
  rw [atI_pos h0 h1]
  exact q _ (List.getElem_mem _)
theorem intsOf_map (ns : List Int) : intsOf (ns.map D.int) = some ns := by
  induction ns with
  | nil => rfl
  | cons n r ih => simp [intsOf, ih]
theorem fMax_ints {ns : List Int} {Q : DK} (h : ns ≠ []) (q : ∀ m ∈ ns, (∀ y ∈ ns, y ≤ m) → Q (.int m)) : fMax [.lst (ns.map D.int)] Q := by
  show match intsOf (ns.map D.int) with
    | some ns => ns ≠ [] ∧ ∀ m, m ∈ ns → (∀ y ∈ ns, y ≤ m) → Q (.int m)
    | none => False
  rw [intsOf_map]
  exact ⟨h, q⟩
theorem fMin_ints {ns : List Int} {Q : DK} (h : ns ≠ []) (q : ∀ m ∈ ns, (∀ y ∈ ns, m ≤ y) → Q (.int m)) : fMin [.lst (ns.map D.int)] Q := by
  show match intsOf (ns.map D.int) with
    | some ns => ns ≠ [] ∧ ∀ m, m ∈ ns → (∀ y ∈ ns, m ≤ y) → Q (.int m)
    | none => False
  rw [intsOf_map]
  exact ⟨h, q⟩
theorem fSum_ints {ns : List Int} {Q : DK} (q : Q (.int ns.sum)) : fSum [.lst (ns.map D.int)] Q := by
  show match intsOf (ns.map D.int) with
    | some ns => Q (.int ns.sum)
    | none => False
  rw [intsOf_map]
  exact q
theorem fSumT_ints {ns : List Int} {Q : DK} (q : Q (.int ns.sum)) : fSum [.tup (ns.map D.int)] Q := by
  simp only [fSum, intsOf_map]
  exact q
theorem fSum_map {α : Type} {xs : List α} {f : α → Int} {Q : DK} (q : Q (.int (xs.map f).sum)) : fSum [.lst (xs.map fun x => D.int (f x))] Q := by
  have := fSum_ints (ns := xs.map f) (Q := Q) q
  rw [List.map_map] at this
  exact this
theorem blsOf_map (ns : List Bool) : blsOf (ns.map D.bl) = some ns := by
  induction ns with
  | nil => rfl
  | cons n r ih => simp [blsOf, ih]
theorem fAll_bls {ns : List Bool} {Q : DK} (q : Q (.bl (ns.all id))) : fAll [.lst (ns.map D.bl)] Q := by
  show match blsOf (ns.map D.bl) with
    | some ns => Q (.bl (ns.all id))
    | none => False
  rw [blsOf_map]
  exact q
theorem fAny_bls {ns : List Bool} {Q : DK} (q : Q (.bl (ns.any id))) : fAny [.lst (ns.map D.bl)] Q := by
  show match blsOf (ns.map D.bl) with
    | some ns => Q (.bl (ns.any id))
    | none => False
  rw [blsOf_map]
  exact q
theorem fAll_map {α : Type} {xs : List α} {f : α → Bool} {Q : DK} (q : Q (.bl (xs.all f))) : fAll [.lst (xs.map fun x => D.bl (f x))] Q := by
  have := fAll_bls (ns := xs.map f) (Q := Q) (by simpa using q)
  rw [List.map_map] at this
  exact this
theorem fAny_map {α : Type} {xs : List α} {f : α → Bool} {Q : DK} (q : Q (.bl (xs.any f))) : fAny [.lst (xs.map fun x => D.bl (f x))] Q := by
  have := fAny_bls (ns := xs.map f) (Q := Q) (by simpa using q)
  rw [List.map_map] at this
  exact this
/-- cuts by small places -/
theorem sIx_nat (n d k : Nat) : sIx n d (some (k : Int)) = min k n := by
  show (if (k : Int) < 0 then ((k : Int) + n).toNat else min (k : Int).toNat n) = _
  rw [if_neg (by omega), Int.toNat_natCast]
theorem cutL_to {α : Type} (xs : List α) (n : Nat) : cutL xs none (some (n : Int)) = xs.take n := by
  unfold cutL
  rw [sIx_nat]
  show (xs.drop 0).take (min n xs.length - 0) = _
  rw [List.drop_zero, Nat.sub_zero]
  by_cases h : n ≤ xs.length
  · rw [Nat.min_eq_left h]
  · rw [Nat.min_eq_right (by omega), List.take_of_length_le (Nat.le_refl _), List.take_of_length_le (by omega)]
theorem cutL_from {α : Type} (xs : List α) (n : Nat) : cutL xs (some (n : Int)) none = xs.drop n := by
  unfold cutL
  rw [sIx_nat]
  show (xs.drop (min n xs.length)).take (xs.length - min n xs.length) = _
  rw [List.take_of_length_le (by rw [List.length_drop]; omega)]
  by_cases h : n ≤ xs.length
  · rw [Nat.min_eq_left h]
  · rw [Nat.min_eq_right (by omega), List.drop_of_length_le (Nat.le_refl _), List.drop_of_length_le (by omega)]
theorem cutL_to1 {α : Type} (xs : List α) : cutL xs none (some 1) = xs.take 1 := cutL_to xs 1
theorem cutL_from1 {α : Type} (xs : List α) : cutL xs (some 1) none = xs.drop 1 := cutL_from xs 1
theorem rngx_get {lo : Int} {n i : Nat} {x : D} (h : (rng lo n)[i]? = some x) : i < n ∧ x = .int (lo + i) := by
  unfold rng at h
  rw [List.getElem?_map] at h
  obtain ⟨j, hj, rfl⟩ := Option.map_eq_some_iff.mp h
  obtain ⟨h1, rfl⟩ := List.getElem?_eq_some_iff.mp hj
  simp at h1
  exact ⟨h1, by simp⟩
@[simp] theorem rngx_len {lo : Int} {n : Nat} : (rng lo n).length = n := by simp [rng]
theorem ite2' {c A B : Prop} [Decidable c] (h1 : c → A) (h2 : ¬ c → B) : if c then A else B := by
  split
  · exact h1 (by assumption)
  · exact h2 (by assumption)
/-! ### calls -/
theorem up_use {W : DF} {ds : List D} {R : DK} {F : Err → Prop} {Q : DK} {E : Err → Prop} (h : W ds R F) (hq : ∀ d, R d → Q d) (he : ∀ e, F e → E e) : up W ds Q E := ⟨R, F, h, hq, he⟩
/-- a def that lets nothing out -/
theorem up_use0 {W : DF} {ds : List D} {R : DK} {Q : DK} {E : Err → Prop} (h : W ds R fun _ => False) (hq : ∀ d, R d → Q d) : up W ds Q E := ⟨R, _, h, hq, fun _ z => z.elim⟩
@[simp] theorem up_start {ns : List Int} {Q : DK} {E : Err → Prop} : up wStart [.scr ns] Q E ↔ ns.length ≤ 63 ∧ Q .st :=
  ⟨fun ⟨_, _, h, a, _⟩ => ⟨h.1, a _ h.2⟩, fun h => ⟨Q, E, h, fun _ z => z, fun _ z => z⟩⟩
@[simp] theorem up_draw {b : Int} {Q : DK} {E : Err → Prop} : up wDraw [.st, .int b] Q E ↔ 0 < b ∧ b.natAbs.log2 < 9000 ∧ ∀ r, 0 ≤ r → r < b → Q (.int r) :=
  ⟨fun ⟨_, _, h, a, _⟩ => ⟨h.1, h.2.1, fun r h0 h1 => a _ (h.2.2 r h0 h1)⟩, fun h => ⟨Q, E, h, fun _ z => z, fun _ z => z⟩⟩
/-! ### loops -/
theorem forL_inv {g : DG} {b : DS} {E : EK} {K : DE} (I : Nat → Env → Prop) {xs : List D} {ρ : Env} (h0 : I 0 ρ)
    (step : ∀ i x ρ (nx : Env → Prop), xs[i]? = some x → I i ρ → (∀ ρ', I (i + 1) ρ' → nx ρ') → g x ρ fun ρ' => b E { nx := nx, ct := nx, bk := K.nx, rt := K.rt, ro := K.ro } ρ')
    (fin : ∀ ρ, I xs.length ρ → K.nx ρ) : forL g b E K xs ρ := by
  have go : ∀ (r : List D) (i : Nat) (ρ : Env), xs.drop i = r → i ≤ xs.length → I i ρ → forL g b E K r ρ := by
    intro r
    induction r with
    | nil =>
      intro i ρ e hi h
      have : i = xs.length := by
        have := congrArg List.length e
        simp at this
        omega
      subst this
      exact fin ρ h
    | cons x r ih =>
      intro i ρ e hi h
      have hx : xs[i]? = some x := by
        have := congrArg (·[0]?) e
        simpa using this
      have e' : xs.drop (i + 1) = r := by
        have := congrArg List.tail e
        simpa [List.tail_drop] using this
      have hi' : i < xs.length := (List.getElem?_eq_some_iff.mp hx).1
      exact step i x ρ (forL g b E K r) hx h fun ρ' q => ih (i + 1) ρ' e' hi' q
  exact go xs 0 ρ rfl (Nat.zero_le _) h0
/-- a comprehension, turn by turn -/
theorem lcL_inv {g : DG} {t : DB} {e : DT} {ρ : Env} (I : Nat → List D → Prop) {xs : List D} {Q : List D → Prop} (h0 : I 0 [])
    (h : ∀ i x acc (A : DK) (R : Prop), xs[i]? = some x → I i acc → (∀ y, I (i + 1) (acc ++ [y]) → A y) → (I (i + 1) acc → R) → g x ρ fun ρ' => t noE ρ' fun k => if k = true then e noE ρ' A else R)
    (hl : xs.length ≤ lineMax) (q : ∀ r, I xs.length r → Q r) : lcL g t e ρ xs [] Q := by
  have go : ∀ (r acc : List D) (i : Nat), xs.drop i = r → i ≤ xs.length → acc.length ≤ i → I i acc → lcL g t e ρ r acc Q := by
    intro r
    induction r with
    | nil =>
      intro acc i e1 hi _ z
      have : i = xs.length := by
        have := congrArg List.length e1
        simp at this
        omega
      subst this
      exact q acc z
    | cons x r ih =>
      intro acc i e1 hi ha z
      have hx : xs[i]? = some x := by
        have := congrArg (·[0]?) e1
        simpa using this
      have e' : xs.drop (i + 1) = r := by
        have := congrArg List.tail e1
        simpa [List.tail_drop] using this
      have hi' : i < xs.length := (List.getElem?_eq_some_iff.mp hx).1
      exact h i x acc (fun y => acc.length < lineMax ∧ lcL g t e ρ r (acc ++ [y]) Q) (lcL g t e ρ r acc Q) hx z (fun y z => ⟨Nat.lt_of_lt_of_le (Nat.lt_of_le_of_lt ha hi') hl, ih _ (i + 1) e' hi' (by simp; omega) z⟩) fun z => ih _ (i + 1) e' hi' (by omega) z
  exact go xs [] 0 rfl (Nat.zero_le _) (Nat.le_refl _) h0
/-- one that maps -/
theorem lcL_map {g : DG} {t : DB} {e : DT} {ρ : Env} (f : D → D) {xs : List D} {Q : List D → Prop} (h : ∀ x ∈ xs, ∀ (A : DK) (R : Prop), A (f x) → g x ρ fun ρ' => t noE ρ' fun k => if k = true then e noE ρ' A else R)
    (hl : xs.length ≤ lineMax) (q : Q (xs.map f)) : lcL g t e ρ xs [] Q := by
  refine lcL_inv (fun i acc => acc = (xs.take i).map f) rfl (fun i x acc A R hx ha y n => ?_) hl fun r hr => ?_
  · refine h x (List.mem_of_getElem? hx) A R (y _ ?_)
    rw [ha, List.take_add_one, hx]
    simp
  · rw [hr, List.take_length]
    exact q
/-- one that keeps some and maps -/
theorem lcL_fm {g : DG} {t : DB} {e : DT} {ρ : Env} (f : D → Option D) {xs : List D} {Q : List D → Prop} (h : ∀ x ∈ xs, ∀ (A : DK) (R : Prop), (∀ y, f x = some y → A y) → (f x = none → R) → g x ρ fun ρ' => t noE ρ' fun k => if k = true then e noE ρ' A else R)
    (hl : xs.length ≤ lineMax) (q : Q (xs.filterMap f)) : lcL g t e ρ xs [] Q := by
  refine lcL_inv (fun i acc => acc = (xs.take i).filterMap f) rfl (fun i x acc A R hx ha y n => ?_) hl fun r hr => ?_
  · refine h x (List.mem_of_getElem? hx) A R (fun z hz => y z ?_) fun hz => n ?_
    · rw [ha, List.take_add_one, hx]
      simp [hz]
    · rw [ha, List.take_add_one, hx]
      simp [hz]
  · rw [hr, List.take_length]
    exact q
/-! ### string literals -/
theorem ofS_eq {a b : String} : (Str.ofString a = Str.ofString b) ↔ a = b := by
  refine ⟨fun h => ?_, fun h => by rw [h]⟩
  rw [Str.ofString_eq_toList, Str.ofString_eq_toList] at h
  have h1 : a.toList.map Char.toNat = b.toList.map Char.toNat := by simpa using h
  have h2 : a.toList = b.toList := by
    have inj : ∀ (x y : List Char), x.map Char.toNat = y.map Char.toNat → x = y := by
      intro x
      induction x with
      | nil => intro y h; cases y with
        | nil => rfl
        | cons _ _ => simp at h
      | cons c x ih => intro y h; cases y with
        | nil => simp at h
        | cons d y =>
          simp only [List.map_cons, List.cons.injEq] at h
          rw [ih y h.2, Char.toNat_inj.mp h.1]
    exact inj _ _ h1
  exact String.toList_inj.mp h2
@[simp] theorem ofS_eq_lit {a b : String} : (Str.ofString a = Str.ofString b) ↔ a = b := ofS_eq
@[simp] theorem ofS_beq {a b : String} : (Str.ofString a == Str.ofString b) = (a == b) := by
  rw [Bool.eq_iff_iff, beq_iff_eq, beq_iff_eq]
  exact ofS_eq
theorem ok_str {n : Nat} {x : Str} : okD n (.str x) = x.cps.all (· < 0x110000) := by cases n <;> simp [okD]
@[simp] theorem ok_lit {n : Nat} {a : String} : okD n (.str (Str.ofString a)) = true := by
  rw [ok_str, Str.ofString_eq_toList]
  simp
  intro c _
  have := c.valid
  simp only [UInt32.isValidChar, Nat.isValidChar] at this
  show c.val.toNat < 1114112
  omega
@[simp] theorem eq_str {a b : Str} : eqD (.str a) (.str b) = (a == b) := by simp [eqD]
/-! fields -/
@[simp] theorem put_nil {f : Str} {v : D} : putFD f v [] = [(f, v)] := rfl
@[simp] theorem put_cons {f g : Str} {v x : D} {r : List (Str × D)} : putFD f v ((g, x) :: r) = if g = f then (g, v) :: r else (g, x) :: putFD f v r := rfl
@[simp] theorem look_nil {f : Str} : List.lookup f ([] : List (Str × D)) = none := rfl
@[simp] theorem look_cons {f g : Str} {x : D} {r : List (Str × D)} : List.lookup f ((g, x) :: r) = if f = g then some x else List.lookup f r := by
  rw [List.lookup_cons]
  by_cases h : f = g
  · simp [h]
  · have : (f == g) = false := by simpa using h
    simp [h, this]
def noFld (m : Str) (fs : List (Str × D)) : Prop := fs.lookup m = none
@[simp] theorem noFld_nil {m : Str} : noFld m [] := rfl
@[simp] theorem noFld_cons {m g : Str} {x : D} {r : List (Str × D)} : noFld m ((g, x) :: r) ↔ ¬ m = g ∧ noFld m r := by
  unfold noFld
  rw [look_cons]
  by_cases h : m = g <;> simp [h]
@[simp] theorem w_meth {c : String} {m : Str} {W : DF} {a : DT} {r : DA} {E : EK} {ρ : DL.Env} {Q : DK} : dMeth c m W a r E ρ Q ↔ a E ρ fun x => gIns c x fun fs => noFld m fs ∧ r E ρ fun xs => up W (.ins c fs :: xs) Q fun _ => False := by
  unfold dMeth gIns noFld
  exact Iff.of_eq (congrArg _ (funext fun x => by
    cases x <;> first | rfl | skip
    rename_i c' l
    by_cases h : c' = c
    · subst h; simp [and_assoc]
    · simp [h]))
@[simp] theorem lcD_nil {g : DG} {t : DB} {e : DT} {ρ : DL.Env} {acc : List D} {Q : List D → Prop} : lcL g t e ρ [] acc Q ↔ Q acc := ⟨fun h => h, fun h => h⟩
theorem lcD_cons {g : DG} {t : DB} {e : DT} {ρ : DL.Env} {x : D} {r acc : List D} {Q : List D → Prop} : lcL g t e ρ (x :: r) acc Q ↔ g x ρ fun ρ' => t noE ρ' fun k => if k = true then e noE ρ' fun y => acc.length < lineMax ∧ lcL g t e ρ r (acc ++ [y]) Q else lcL g t e ρ r acc Q := ⟨fun h => h, fun h => h⟩
@[simp] theorem cut1 {α : Type} {x : α} {xs : List α} : cutL (x :: xs) (some 1) none = xs := by rw [cutL_from1]; rfl
/-- a comprehension over encoded things -/
theorem lcD_list {α : Type} {g : DG} {t : DB} {e : DT} {ρ : DL.Env} (en : α → D) (f : α → D) {Q : List D → Prop} : ∀ (xs : List α) (acc : List D), (∀ x ∈ xs, ∀ (A : DK) (R : Prop), A (f x) → g (en x) ρ fun ρ' => t noE ρ' fun k => if k = true then e noE ρ' A else R) →
    acc.length + xs.length ≤ lineMax → Q (acc ++ xs.map f) → lcL g t e ρ (xs.map en) acc Q
  | [], acc, _, _, q => by simpa using q
  | x :: r, acc, h, hl, q => by
    simp only [List.map_cons, List.length_cons] at *
    rw [lcD_cons]
    have hh : lineMax = 16777216 := rfl
    refine h x (by simp) _ _ ⟨by omega, lcD_list en f r (acc ++ [f x]) (fun y hy => h y (by simp [hy])) (by simp; omega) (by simpa using q)⟩
/-- one that leaves some out -/
theorem lcD_fm {α : Type} {g : DG} {t : DB} {e : DT} {ρ : DL.Env} (en : α → D) (f : α → Option D) {Q : List D → Prop} : ∀ (xs : List α) (acc : List D), (∀ x ∈ xs, ∀ (A : DK) (R : Prop), (∀ y, f x = some y → A y) → (f x = none → R) → g (en x) ρ fun ρ' => t noE ρ' fun k => if k = true then e noE ρ' A else R) →
    acc.length + xs.length ≤ lineMax → Q (acc ++ xs.filterMap f) → lcL g t e ρ (xs.map en) acc Q
  | [], acc, _, _, q => by simpa using q
  | x :: r, acc, h, hl, q => by
    simp only [List.map_cons, List.length_cons] at *
    rw [lcD_cons]
    have hh : lineMax = 16777216 := rfl
    refine h x (by simp) _ _ (fun y hy => ⟨by omega, lcD_fm en f r (acc ++ [y]) (fun z hz => h z (by simp [hz])) (by simp; omega) ?_⟩) (fun hy => lcD_fm en f r acc (fun z hz => h z (by simp [hz])) (by omega) ?_)
    · rw [List.filterMap_cons_some hy] at q
      simpa using q
    · rw [List.filterMap_cons_none hy] at q
      exact q
theorem imp_use {W : DF} {ds : List D} {R R' : DK} (h : W ds R fun _ => False) (hq : ∀ d, R d → R' d) : up W ds R' fun _ => False := ⟨R, _, h, hq, fun _ z => z⟩
theorem up_gen {G : Nat → DF} {N n : Nat} {ds : List D} {R Q : DK} {E : Err → Prop} (hn : n ≤ N) (h : G n ds R fun _ => False) (hq : ∀ d, R d → Q d) : up (upN G N) ds Q E := ⟨R, _, ⟨n, hn, h⟩, hq, fun _ z => z.elim⟩
/-- a while loop: what holds at its head, and what shrinks -/
theorem while_inv {c : DB} {b : DS} {E : EK} {K : DE} (I : Nat → DL.Env → Prop) {ρ : DL.Env} {m : Nat} (h0 : I m ρ)
    (step : ∀ m ρ (nx : DL.Env → Prop), I m ρ → (∀ m' ρ', m' < m → I m' ρ' → nx ρ') → c E ρ fun k => if k = true then b E { nx := nx, ct := nx, bk := K.nx, rt := K.rt, ro := K.ro } ρ else K.nx ρ) : ∃ n, whileN c b E K n ρ := by
  have go : ∀ n m ρ, m < n → I m ρ → whileN c b E K n ρ := by
    intro n
    induction n with
    | zero => intro m ρ h; omega
    | succ n ih => intro m ρ h hi; exact step m ρ _ hi fun m' ρ' hm h' => ih m' ρ' (by omega) h'
  exact ⟨m + 1, go _ m ρ (by omega) h0⟩
@[simp] theorem eq_tl {a : List D} {b : List D} : eqD (.tup a) (.lst b) = false := by simp [eqD]
@[simp] theorem eq_ts {a : List D} {b : Str} : eqD (.tup a) (.str b) = false := by simp [eqD]
@[simp] theorem eq_ti {a : List D} {b : Int} : eqD (.tup a) (.int b) = false := by simp [eqD]
@[simp] theorem eq_lt {a : List D} {b : List D} : eqD (.lst a) (.tup b) = false := by simp [eqD]
@[simp] theorem eq_ls {a : List D} {b : Str} : eqD (.lst a) (.str b) = false := by simp [eqD]
@[simp] theorem eq_li {a : List D} {b : Int} : eqD (.lst a) (.int b) = false := by simp [eqD]
@[simp] theorem eq_ln {a : List D} : eqD (.lst a) .non = false := by simp [eqD]
@[simp] theorem eq_st {a : Str} {b : List D} : eqD (.str a) (.tup b) = false := by simp [eqD]
@[simp] theorem eq_sl {a : Str} {b : List D} : eqD (.str a) (.lst b) = false := by simp [eqD]
@[simp] theorem eq_si {a : Str} {b : Int} : eqD (.str a) (.int b) = false := by simp [eqD]
@[simp] theorem eq_sn {a : Str} : eqD (.str a) .non = false := by simp [eqD]
@[simp] theorem eq_it {a : Int} {b : List D} : eqD (.int a) (.tup b) = false := by simp [eqD]
@[simp] theorem eq_il {a : Int} {b : List D} : eqD (.int a) (.lst b) = false := by simp [eqD]
@[simp] theorem eq_is {a : Int} {b : Str} : eqD (.int a) (.str b) = false := by simp [eqD]
@[simp] theorem eq_in {a : Int} : eqD (.int a) .non = false := by simp [eqD]
@[simp] theorem eq_nl {b : List D} : eqD .non (.lst b) = false := by simp [eqD]
@[simp] theorem eq_ns {b : Str} : eqD .non (.str b) = false := by simp [eqD]
@[simp] theorem eq_ni {b : Int} : eqD .non (.int b) = false := by simp [eqD]
@[simp] theorem w_listS {ns : List Int} {Q : DK} : fList [.scr ns] Q ↔ Q (.lst (ns.map .int)) := ⟨fun h => h, fun h => h⟩
@[simp] theorem w_listK {l : List (Key × D)} {Q : DK} : fList [.dk l] Q ↔ Q (.lst (l.map fun kv => keyD kv.1)) := ⟨fun h => h, fun h => h⟩
@[simp] theorem w_keyO {i : Nat} {E : EK} {ρ : DL.Env} {Q : List D → Prop} : iKeyO i E ρ Q ↔ gOD ρ[i]? fun kvs => Q (kvs.map fun kv => keyD kv.1) := ⟨fun h => h, fun h => h⟩
@[simp] theorem keyD_l {i : Int} : keyD (.inl i) = .int i := rfl
@[simp] theorem keyD_r {i : Str} : keyD (.inr i) = .str i := rfl
theorem fSorted_keys {kvs : List (Key × D)} {ns : List Int} {Q : DK} (h : ikeys kvs = some ns) (hl : ns.length < 64) (q : ∀ ns' : List Int, ns'.Perm ns → ns'.Pairwise (· ≤ ·) → Q (.lst (ns'.map D.int))) : fSorted [.dk kvs] Q := by
  simp only [fSorted, h]
  exact ⟨hl, q⟩
theorem oks_map {n : Nat} {α : Type} {f : α → D} {xs : List α} (h : ∀ x ∈ xs, okD n (f x) = true) : okDs n (xs.map f) = true := by
  induction xs with
  | nil => simp
  | cons x r ih => simp [h x (by simp), ih fun y hy => h y (by simp [hy])]
@[simp] theorem oks_ints {n : Nat} {xs : List Int} : okDs n (xs.map D.int) = true := oks_map fun _ _ => by simp
/-! ### errors -/
@[simp] theorem w_raise {c : String} {fs : List Str} {a : DA} {E : EK} {K : DE} {ρ : DL.Env} : sRaise c fs a E K ρ ↔ a E ρ fun xs => xs.length = fs.length ∧ (∀ x ∈ xs, okE x) ∧ E ⟨c, (fs.zip xs).reverse⟩ ρ := ⟨fun h => h, fun h => h⟩
@[simp] theorem w_tryR {m : String} {os : List String} {i : Nat} {f : Str} {b : DS} {E : EK} {K : DE} {ρ : DL.Env} : sTryR m os i f b E K ρ ↔ b (fun e ρ' => if e.cls = m then i < ρ'.length ∧ oGet (e.fs.lookup f) K.rt else e.cls ∈ os ∧ E e ρ') K ρ := ⟨fun h => h, fun h => h⟩
@[simp] theorem w_try {ms os : List String} {b s : DS} {E : EK} {K : DE} {ρ : DL.Env} : sTry ms os b s E K ρ ↔ b (fun e ρ' => if e.cls ∈ ms then s noE K ρ' else e.cls ∈ os ∧ E e ρ') K ρ := ⟨fun h => h, fun h => h⟩
theorem okE_lit {a : String} (h : a.length ≤ 1000) : okE (.str (Str.ofString a)) := by
  refine ⟨by rw [Str.ofString_eq_toList]; simp only [Str.length, List.size_toArray, List.length_map]; rw [String.length_toList]; exact h, fun c hc => ?_⟩
  have := ok_lit (n := 0) (a := a)
  rw [ok_str] at this
  have := Array.all_eq_true_iff_forall_mem.mp this c (by simpa using hc)
  simp at this
  omega
@[simp] theorem okE_int {i : Int} : okE (.int i) ↔ i.natAbs.log2 < 1920 := ⟨fun h => h, fun h => h⟩
/-! ### loops over encoded things -/
theorem forL_list {α : Type} (en : α → D) {g : DG} {b : DS} {E : EK} {K : DE} (I : Nat → Env → Prop) {xs : List α} {ρ : Env} (h0 : I 0 ρ)
    (step : ∀ i x ρ (nx : Env → Prop), xs[i]? = some x → I i ρ → (∀ ρ', I (i + 1) ρ' → nx ρ') → g (en x) ρ fun ρ' => b E { nx := nx, ct := nx, bk := K.nx, rt := K.rt, ro := K.ro } ρ')
    (fin : ∀ ρ, I xs.length ρ → K.nx ρ) : forL g b E K (xs.map en) ρ := by
  refine forL_inv I h0 (fun i x ρ nx hx hi hn => ?_) (fun ρ h => fin ρ (by simpa using h))
  rw [List.getElem?_map] at hx
  obtain ⟨y, hy, rfl⟩ := Option.map_eq_some_iff.mp hx
  exact step i y ρ nx hy hi hn
theorem forL_rng {lo : Int} {n : Nat} {g : DG} {b : DS} {E : EK} {K : DE} (I : Nat → Env → Prop) {ρ : Env} (h0 : I 0 ρ)
    (step : ∀ i ρ (nx : Env → Prop), i < n → I i ρ → (∀ ρ', I (i + 1) ρ' → nx ρ') → g (.int (lo + i)) ρ fun ρ' => b E { nx := nx, ct := nx, bk := K.nx, rt := K.rt, ro := K.ro } ρ')
    (fin : ∀ ρ, I n ρ → K.nx ρ) : forL g b E K (rng lo n) ρ := by
  refine forL_inv I h0 (fun i x ρ nx hx hi hn => ?_) (fun ρ h => fin ρ (by simpa using h))
  obtain ⟨hl, rfl⟩ := rngx_get hx
  exact step i ρ nx hl hi hn
/-- what has been walked, and what is next -/
theorem forL_hist {α : Type} (en : α → D) {g : DG} {b : DS} {E : EK} {K : DE} (I : List α → Env → Prop) {xs : List α} {ρ : Env} (h0 : I [] ρ)
    (step : ∀ hs x ts ρ (nx : Env → Prop), xs = hs ++ x :: ts → I hs ρ → (∀ ρ', I (hs ++ [x]) ρ' → nx ρ') → g (en x) ρ fun ρ' => b E { nx := nx, ct := nx, bk := K.nx, rt := K.rt, ro := K.ro } ρ')
    (fin : ∀ ρ, I xs ρ → K.nx ρ) : forL g b E K (xs.map en) ρ := by
  refine forL_list en (fun i ρ => I (xs.take i) ρ) h0 (fun i x ρ nx hx hi hn => ?_) (fun ρ h => fin ρ (by simpa using h))
  obtain ⟨hl, rfl⟩ := List.getElem?_eq_some_iff.mp hx
  refine step (xs.take i) xs[i] (xs.drop (i + 1)) ρ nx (by rw [List.getElem_cons_drop, List.take_append_drop]) hi fun ρ' h => hn ρ' ?_
  rw [List.take_add_one, hx]
  exact h
theorem lcD_rng {lo : Int} {n : Nat} {g : DG} {t : DB} {e : DT} {ρ : DL.Env} (f : Nat → D) {Q : List D → Prop} (h : ∀ i, i < n → ∀ (A : DK) (R : Prop), A (f i) → g (.int (lo + i)) ρ fun ρ' => t noE ρ' fun k => if k = true then e noE ρ' A else R)
    (hl : n ≤ lineMax) (q : Q ((List.range n).map f)) : lcL g t e ρ (rng lo n) [] Q :=
  lcD_list (fun k : Nat => D.int (lo + k)) f (List.range n) [] (fun k hk A R hA => h k (List.mem_range.mp hk) A R hA) (by simpa using hl) (by simpa using q)
theorem lcD_rngF {lo : Int} {n : Nat} {g : DG} {t : DB} {e : DT} {ρ : DL.Env} (f : Nat → Option D) {Q : List D → Prop} (h : ∀ i, i < n → ∀ (A : DK) (R : Prop), (∀ y, f i = some y → A y) → (f i = none → R) → g (.int (lo + i)) ρ fun ρ' => t noE ρ' fun k => if k = true then e noE ρ' A else R)
    (hl : n ≤ lineMax) (q : Q ((List.range n).filterMap f)) : lcL g t e ρ (rng lo n) [] Q :=
  lcD_fm (fun k : Nat => D.int (lo + k)) f (List.range n) [] (fun k hk A R hA hR => h k (List.mem_range.mp hk) A R hA hR) (by simpa using hl) (by simpa using q)
/-- one that keeps some and maps: by a test and a map -/
theorem lcD_ft {α : Type} {g : DG} {t : DB} {e : DT} {ρ : DL.Env} (en : α → D) (p : α → Bool) (f : α → D) {Q : List D → Prop} (xs : List α) (h : ∀ x ∈ xs, ∀ (A : DK) (R : Prop), (p x = true → A (f x)) → (p x = false → R) → g (en x) ρ fun ρ' => t noE ρ' fun k => if k = true then e noE ρ' A else R)
    (hl : xs.length ≤ lineMax) (q : Q ((xs.filter p).map f)) : lcL g t e ρ (xs.map en) [] Q := by
  refine lcD_fm en (fun x => if p x = true then some (f x) else none) xs [] (fun x hx A R hA hR => h x hx A R (fun z => hA _ (by rw [if_pos z])) (fun z => hR (by rw [if_neg (by simp [z])]))) (by simpa using hl) ?_
  have : xs.filterMap (fun x => if p x = true then some (f x) else none) = (xs.filter p).map f := by
    clear q hl h
    induction xs with
    | nil => rfl
    | cons x r ih => cases h : p x <;> simp [List.filterMap_cons, h, ih]
  rw [this]
  simpa using q
theorem inD_map {α : Type} {x : D} {en : α → D} {xs : List α} : inD x (xs.map en) = xs.any fun y => eqD (en y) x := by
  unfold inD
  rw [List.any_map]
  rfl
theorem oks_any {n : Nat} {xs : List D} (h : ∀ x ∈ xs, okD n x = true) : okDs n xs = true := by
  induction xs with
  | nil => simp
  | cons x r ih => simp [h x (by simp), ih fun y hy => h y (by simp [hy])]
theorem fSetSorted_ints {ns : List Int} {Q : DK} (hl : ns.length ≤ 4000) (q : ∀ ys : List Int, ys.Pairwise (· < ·) → (∀ j, j ∈ ys ↔ j ∈ ns) → Q (.lst (ys.map D.int))) : fSetSorted [.lst (ns.map D.int)] Q := by
  simp only [fSetSorted, intsOf_map]
  exact ⟨hl, q⟩
@[simp] theorem w_listO {i : Nat} {E : EK} {ρ : DL.Env} {Q : DK} : dListO i E ρ Q ↔ gOL ρ[i]? fun xs => Q (.lst xs) := ⟨fun h => h, fun h => h⟩
@[simp] theorem w_tupleO {i : Nat} {E : EK} {ρ : DL.Env} {Q : DK} : dTupleO i E ρ Q ↔ gOL ρ[i]? fun xs => Q (.tup xs) := ⟨fun h => h, fun h => h⟩
/-! ### defs that change what stands at a parameter -/
@[simp] theorem gPair_p {x y : D} {Q : D → D → Prop} : gPair (dPair x y) Q ↔ Q x y := ⟨fun h => h, fun h => h⟩
@[simp] theorem w_retX {a : DT} {E : EK} {K : DE} {ρ : DL.Env} : sRetX a E K ρ ↔ a E ρ fun d => K.ro d ρ := ⟨fun h => h, fun h => h⟩
@[simp] theorem w_retNX {E : EK} {K : DE} {ρ : DL.Env} : sRetNX E K ρ ↔ K.ro .non ρ := ⟨fun h => h, fun h => h⟩
@[simp] theorem w_aOwn {i : Nat} {r : DA} {E : EK} {ρ : DL.Env} {Q : List D → Prop} : aOwn i r E ρ Q ↔ gO ρ[i]? fun d => r E ρ fun xs => Q (d :: xs) := ⟨fun h => h, fun h => h⟩
@[simp] theorem w_callX {i : Nat} {W : DF} {a : DA} {E : EK} {K : DE} {ρ : DL.Env} : sCallX i W a E K ρ ↔ a E ρ fun xs => up W xs (fun r => gPair r fun _ o => K.nx (ρ.set i (.o o))) fun e => E e (ρ.set i .no) := ⟨fun h => h, fun h => h⟩
@[simp] theorem w_callXTo {i k : Nat} {W : DF} {a : DA} {E : EK} {K : DE} {ρ : DL.Env} : sCallXTo i k W a E K ρ ↔ a E ρ fun xs => up W xs (fun r => gPair r fun d o => K.nx ((ρ.set i (.o o)).set k (.v d))) fun e => E e (ρ.set i .no) := ⟨fun h => h, fun h => h⟩
end DL

/-! DCoreM: methods of built-in values, read as plain Lean. -/
namespace DL
open PySem L2
def tyD (T : String) : D → Prop
  | .str _ => T = "str"
  | .lst _ => T = "list"
  | _ => False
/-- x.m(..): f is asked of x and the arguments -/
def dMt (T : String) (f : List D → DK → Prop) (p : DT) (q : DA) : DT := fun E ρ Q => p E ρ fun x => tyD T x ∧ q E ρ fun xs => f (x :: xs) Q
/-- xs.index(x) of ints -/
def fIndex (xs : List D) (Q : DK) : Prop := match xs with
  | [.lst l, x] => isFlat x = true ∧ l.all isFlat = true ∧ ∃ j, (∃ z, l[j]? = some z ∧ eqD z x = true) ∧ (∀ m z, m < j → l[m]? = some z → eqD z x = false) ∧ Q (.int (j : Nat))
  | _ => False
def strsOf : List D → Option (List Str)
  | [] => some []
  | .str x :: r => (strsOf r).map (x :: ·)
  | _ :: _ => none
/-- a test of two texts -/
def fS2 (g : Str → Str → D) (xs : List D) (Q : DK) : Prop := match xs with
  | [.str a, .str b] => Q (g a b)
  | _ => False
def fS1 (C : Str → Prop) (g : Str → D) (xs : List D) (Q : DK) : Prop := match xs with
  | [.str a] => C a ∧ Q (g a)
  | _ => False
def fSplit (xs : List D) (Q : DK) : Prop := match xs with
  | [.str a, .str b] => (b.length == 0) = false ∧ a.length + 2 ≤ lineMax ∧ Q (.lst ((Txt.split a b).map D.str))
  | _ => False
def fJoin (xs : List D) (Q : DK) : Prop := match xs with
  | [.str a, .lst l] => match strsOf l with
    | some ys => (ys.map (·.length)).sum + ys.length * a.length ≤ 16777216 ∧ Q (.str (Txt.join a ys))
    | none => False
  | _ => False
/-- min(xs, default=d) -/
def fMinD (xs zs : List D) (Q : DK) : Prop := match xs, zs with
  | [.lst l], [d] => match intsOf l with
    | some ns => (ns = [] → Q d) ∧ (ns ≠ [] → ∀ m, m ∈ ns → (∀ y, y ∈ ns → m ≤ y) → Q (.int m))
    | none => False
  | _, _ => False
def dMinD (p q : DA) : DT := fun E ρ Q => p E ρ fun xs => q E ρ fun zs => fMinD xs zs Q
/-- xs[::-1] -/
def gRevX (x : D) (Q : DK) : Prop := match x with
  | .lst l => Q (.lst l.reverse)
  | .tup l => Q (.tup l.reverse)
  | _ => False
def dRev (t : DT) : DT := fun E ρ Q => t E ρ fun x => gRevX x Q
/-- a dict comprehension -/
def dcL (g : DG) (t : DB) (k e : DT) (ρ : Env) : List D → List (Key × D) → (List (Key × D) → Prop) → Prop
  | [], acc, Q => Q acc
  | x :: r, acc, Q => g x ρ fun ρ' => t noE ρ' fun b => if b = true then k noE ρ' fun y => e noE ρ' fun z => gK y fun j => acc.length < 1000000 ∧ dcL g t k e ρ r (putD acc j z) Q else dcL g t k e ρ r acc Q
def dDc (it : DI) (g : DG) (t : DB) (k e : DT) (vs : List Nat) : DT := fun E ρ Q => it E ρ fun xs => dcL g t k e (noOwn (wipeE ρ vs)) xs [] fun r => Q (.dk r)
/-- a list of draws, kept as one thing -/
def wDraws : DF := fun ds Q _ => match ds with
  | [.scr ns, .int c] => (ns.length ≤ 63 ∧ 0 ≤ c ∧ c ≤ 1000) ∧ Q .st
  | _ => False
/-- a text k times -/
def repS (a : Str) (k : Int) : Str := ⟨(List.replicate k.toNat a.cps.toList).flatten.toArray⟩
def oMulS (x y : D) (Q : DK) : Prop := match x, y with
  | .str a, .int k => (-1000 ≤ k ∧ k ≤ 10000 ∧ a.length ≤ 1000) ∧ Q (.str (repS a k))
  | _, _ => False
/-- // by a divisor of any sign -/
def oDivN (x y : D) (Q : DK) : Prop := match x, y with
  | .int i, .int j => (j ≠ 0 ∧ j.natAbs.log2 < 9000) ∧ Q (.int (i.fdiv j))
  | _, _ => False
/-- two digits -/
def two (i : Int) : Str := ⟨#[48 + i.toNat / 10, 48 + i.toNat % 10]⟩
/-- {x} -/
def gFmt (x : D) (Q : DK) : Prop := match x with
  | .str y => y.length ≤ lineMax ∧ Q (.str y)
  | .int i => i.natAbs.log2 < 1920 ∧ Q (.str (toString i))
  | _ => False
def dFmt (p : DT) : DT := fun E ρ Q => p E ρ fun x => gFmt x Q
/-- {x:02d} of a number of two digits -/
def gFmt2 (x : D) (Q : DK) : Prop := match x with
  | .int i => (0 ≤ i ∧ i < 100) ∧ Q (.str (two i))
  | _ => False
def dFmt2 (p : DT) : DT := fun E ρ Q => p E ρ fun x => gFmt2 x Q
def gStr (x : D) (Q : Str → Prop) : Prop := match x with
  | .str y => Q y
  | _ => False
/-- the parts of an f-string, one behind the other -/
def dJs : List DT → Str → EK → Env → (Str → Prop) → Prop
  | [], acc, _, _, Q => Q acc
  | t :: ts, acc, E, ρ, Q => t E ρ fun x => gStr x fun y => (acc ++ y).length ≤ lineMax ∧ dJs ts (acc ++ y) E ρ Q
def dJoin (ts : List DT) : DT := fun E ρ Q => dJs ts Str.empty E ρ fun y => Q (.str y)
/-- for x in xs: if c: return r, xs a list of the def's own that stays so -/
def forQ (g : DG) (c : DB) (r : DT) (K : DE) (ρ : Env) (N : Prop) : List D → Prop
  | [] => N
  | x :: xs => g x ρ fun ρ' => c noE ρ' fun k => if k = true then r noE ρ' (fun d => isFlat d = true ∧ K.rt d) else forQ g c r K ρ N xs
def sForQ (i : Nat) (js : List Nat) (g : DG) (c : DB) (r : DT) : DS := fun _ K ρ => gOL ρ[i]? fun xs => i ∉ js ∧ forQ g c r K (bor (fgt js ρ)) (K.nx (fgt js ρ)) xs
/-- sorted of triples: a number, a truth, a number -/
def triD (t : Int × Bool × Int) : D := .tup [.int t.1, .bl t.2.1, .int t.2.2]
def tb (b : Bool) : Int := if b then 1 else 0
def triLt (p q : Int × Bool × Int) : Prop := p.1 < q.1 ∨ (p.1 = q.1 ∧ (tb p.2.1 < tb q.2.1 ∨ (tb p.2.1 = tb q.2.1 ∧ p.2.2 < q.2.2)))
def fSorted3 (xs : List D) (Q : DK) : Prop := ∃ ts : List (Int × Bool × Int), xs = [.lst (ts.map triD)] ∧ ∀ us : List (Int × Bool × Int), us.Perm ts → (us.Pairwise fun p q => ¬ triLt q p) → Q (.lst (us.map triD))
/-- .get(k, z) of a written dict of the module: texts to texts -/
def kgetD (kvs : List (Str × Str)) (x z : D) (Q : DK) : Prop := match x with
  | .str k => Q (match kvs.lookup k with
    | some v => .str v
    | none => z)
  | _ => False
def dKGet2 (kvs : List (Str × Str)) (k z : DT) : DT := fun E ρ Q => k E ρ fun x => z E ρ fun y => kgetD kvs x y Q
/-- a text's place in another one -/
def gInS (x y : D) (Q : DK) : Prop := match x, y with
  | .str a, .str b => Q (.bl (!(Builtin.Str.occurrences b a 0 b.length 1).isEmpty))
  | _, _ => False
/-- zip of a tuple and a plain text -/
def gZipT (xs : List D) (Q : List D → Prop) : Prop := match xs with
  | [.tup l, .str z] => z.cps.all (· < 128) = true ∧ Q (zipD l (z.cps.toList.map fun c => .str ⟨#[c]⟩))
  | _ => False
def iZipT (a : DA) : DI := fun E ρ Q => a E ρ fun xs => gZipT xs Q
/-- [.., *x, ..] -/
def gStar (x : D) (Q : List D → Prop) : Prop := match x with
  | .lst xs => Q xs
  | .tup xs => Q xs
  | _ => False
def aStar (a : DT) (r : DA) : DA := fun E ρ Q => a E ρ fun x => gStar x fun xs => r E ρ fun ys => Q (xs ++ ys)
/-- except C as e: return what is said of e -/
def sTryE (m : String) (os : List String) (i : Nat) (R : Err → DK → Prop) (b : DS) : DS := fun E B ρ => b (fun e ρ' => if e.cls = m then i < ρ'.length ∧ R e B.rt else e.cls ∈ os ∧ E e ρ') B ρ
/-- what is said of e: its fields, what is written, tuples of both, operations -/
def xFld (f : Str) : Err → DK → Prop := fun e Q => match e.fs.lookup f with
  | some d => Q d
  | none => False
def xC (d : D) : Err → DK → Prop := fun _ Q => Q d
def xNil : Err → (List D → Prop) → Prop := fun _ Q => Q []
def xCons (a : Err → DK → Prop) (r : Err → (List D → Prop) → Prop) : Err → (List D → Prop) → Prop := fun e Q => a e fun x => r e fun xs => Q (x :: xs)
def xTup (a : Err → (List D → Prop) → Prop) : Err → DK → Prop := fun e Q => a e fun xs => xs.length ≤ lineMax ∧ Q (.tup xs)
def xOp (f : D → D → DK → Prop) (a b : Err → DK → Prop) : Err → DK → Prop := fun e Q => a e fun x => b e fun y => f x y Q
/-- sorted of a dict whose keys are texts -/
def skeys : List (Key × D) → Option (List Str)
  | [] => some []
  | (.inr x, _) :: r => (skeys r).map (x :: ·)
  | (.inl _, _) :: _ => none
def fSortedT (xs : List D) (Q : DK) : Prop := match xs with
  | [.dk kvs] => match skeys kvs with
    | some ks => ks.length < 64 ∧ ∀ ys : List Str, ys.Perm ks → Q (.lst (ys.map .str))
    | none => False
  | _ => False
/-- what the clauses say of an error; os: the other errors that come -/
def pick (os : List String) : List (String × (Err → DK → Prop)) → Err → DK → Prop
  | [], _, _ => False
  | (m, R) :: r, e, Q => if e.cls = m then R e Q else e.cls ∈ os ∧ pick os r e Q
def dCode (os : List String) (hs : List (String × (Err → DK → Prop))) (z : Str) (t : DT) : DT := fun _ ρ Q => t (fun e _ => pick os hs e Q) (noOwn ρ) fun _ => Q (.str z)
/-- one more part of a chain of comparisons -/
def dLink (f : D → D → DK → Prop) (x y : D) (k : DK → Prop) (Q : DK) : Prop := f x y fun z => match z with
  | .bl b => if b = true then k Q else Q (.bl false)
  | _ => False
/-- a < b < c < d -/
def dChain3 (f g h : D → D → DK → Prop) (a b c d : DT) : DT := fun E ρ Q => a E ρ fun x => b E ρ fun y => dLink f x y (fun Q => c E ρ fun u => dLink g y u (fun Q => d E ρ fun v => h u v Q) Q) Q
/-- x, y = a, b, y a new list from then on its own -/
def sParO (i j : Nat) (a b : DT) : DS := fun E K ρ => a E ρ fun x => b E ρ fun y => K.nx ((ρ.set i (.v x)).set j (.o y))
/-- list(range(..)), tuple(range(..)) -/
def rgOk (i j : Int) : Prop := -(2 ^ 62) ≤ i ∧ i < 2 ^ 62 ∧ -(2 ^ 62) ≤ j ∧ j < 2 ^ 62 ∧ (j - i).toNat ≤ 2 ^ 24
def rgB1 (a : DT) : EK → Env → (Int → Int → Prop) → Prop := fun E ρ Q => a E ρ fun x => gI x fun n => Q 0 n
def gI2 (x y : D) (Q : Int → Int → Prop) : Prop := match x, y with
  | .int n, .int m => Q n m
  | _, _ => False
def rgB2 (a b : DT) : EK → Env → (Int → Int → Prop) → Prop := fun E ρ Q => a E ρ fun x => b E ρ fun y => gI2 x y Q
def dTupRg (t : EK → Env → (Int → Int → Prop) → Prop) : DT := fun E ρ Q => t E ρ fun i j => rgOk i j ∧ Q (.tup (rng i (j - i).toNat))
def dLstRg (t : EK → Env → (Int → Int → Prop) → Prop) : DT := fun E ρ Q => t E ρ fun i j => rgOk i j ∧ Q (.lst (rng i (j - i).toNat))
theorem seq_w (a b : DS) {E : EK} {K : DE} {ρ : Env} : sSeq a b E K ρ ↔ a E { K with nx := b E K } ρ := Iff.rfl
mutual
/-- as the kit's plain data -/
def pyD : D → PyData
  | .non => .none
  | .bl b => .bool b
  | .int i => .int i
  | .str x => .str x
  | .tup xs => .tuple (pyDs xs)
  | .lst xs => .list (pyDs xs)
  | _ => .dict []
def pyDs : List D → List PyData
  | [] => []
  | x :: r => pyD x :: pyDs r
end
/-- what may be sorted: all of one form -/
structure SrtOk (l : List D) : Prop where
  al : PySem.W.AllAlike (l.map pyD)
  so : PySem.W.Sortable (l.map pyD)
  dp : ∀ d ∈ l, (pyD d).depth ≤ 60
  ln : l.length ≤ lineMax
def leD : D → D → Bool := PySem.W.dataLe false pyD
/-- sorted of a list or a tuple -/
def fSortD (xs : List D) (Q : DK) : Prop := match xs with
  | [.lst l] => SrtOk l ∧ Q (.lst (l.mergeSort leD))
  | [.tup l] => SrtOk l ∧ Q (.lst (l.mergeSort leD))
  | _ => False
def fSortX (xs : List D) (Q : DK) : Prop := fSorted xs Q ∨ fSortD xs Q
end DL

/-! DCoreN: plain words of the later rules. -/
namespace DL
open PySem
/-- y, x = b, a, y a new list from then on its own -/
def sParP (i j : Nat) (b a : DT) : DS := fun E K ρ => b E ρ fun y => a E ρ fun x => K.nx ((ρ.set i (.o y)).set j (.v x))
end DL

/-! DCoreQ: plain words of sorted(range(..), key=lambda y: z[y]). -/
namespace DL
open PySem
/-- some order of the numbers below n is given (which one is not told): z, of n pairs, stands in slot i -/
def dSortRg (i : Nat) (t : EK → DL.Env → (Int → Int → Prop) → Prop) : DT := fun E ρ Q => t E ρ fun a b => a = 0 ∧ ∃ ps : List (Int × Int), ρ[i]? = some (.v (.lst (ps.map pairD))) ∧ b = ps.length ∧ ps.length ≤ 16777216 ∧ ∀ ys : List Nat, ys.Perm (List.range ps.length) → Q (.lst (ys.map fun j : Nat => D.int (j : Int)))
/-- a new list of flat things, read off what is borrowed -/
def flatL : D → Bool
  | .lst ds => ds.all isFlat
  | _ => false
def dBorL (a : DT) : DT := fun _ ρ Q => a noE (bor ρ) fun d => flatL d = true ∧ Q d
end DL

/-! DCoreR: plain words of loops over lambdas and of two walks in one comprehension. -/
namespace DL
open PySem
/-- a lambda's reading, told by a def: its errors by the clauses, else z -/
def dCodeV (os : List String) (hs : List (String × (Err → DK → Prop))) (z : D) (t : DT) : DT := fun _ ρ Q => t (fun e _ => pick os hs e Q) (noOwn ρ) fun _ => Q z
/-- for f in (lambda: .., lambda: ..): the suites one behind the other, slot i empty -/
def sForLam (i : Nat) : List DS → DS
  | [] => fun _ K ρ => K.nx ρ
  | b :: r => fun E K ρ => i < ρ.length ∧ b E { nx := sForLam i r E K, ct := sForLam i r E K, bk := K.nx, rt := K.rt, ro := K.ro } (ρ.set i .no)
/-- [e for x in xs if .. for y in ys if ..] -/
def lc2L (g : DG) (t : DB) (it1 : DI) (g1 : DG) (t1 : DB) (e : DT) (vs1 : List Nat) (ρ : Env) : List D → List D → (List D → Prop) → Prop
  | [], acc, Q => Q acc
  | x :: r, acc, Q => g x ρ fun ρ' => t noE ρ' fun k => if k = true then it1 noE ρ' fun ys => lcL g1 t1 e (wipeE ρ' vs1) ys acc fun a => lc2L g t it1 g1 t1 e vs1 ρ r a Q else lc2L g t it1 g1 t1 e vs1 ρ r acc Q
def dLc2 (it : DI) (g : DG) (t : DB) (it1 : DI) (g1 : DG) (t1 : DB) (e : DT) (vs vs1 : List Nat) : DT := fun E ρ Q => it E ρ fun xs => lc2L g t it1 g1 t1 e vs1 (noOwn (wipeE ρ vs)) xs [] fun r => Q (.lst r)
/-- a built-in of two texts and a number -/
def fS3 (g : Str → Str → Int → D) (xs : List D) (Q : DK) : Prop := match xs with
  | [.str a, .str b, .int i] => Q (g a b i)
  | _ => False
/-- x.replace(y, z) -/
def dRepl (y z : Str) (a : DT) : DT := fun E ρ Q => a E ρ fun x => match x with
  | .str x => x.length + (x.length + 1) * z.length ≤ 16777216 ∧ Q (.str (Txt.replace x y z))
  | _ => False
/-- a sign in a text (n: not in) -/
def gSgn (n : Bool) (x y : D) (Q : DK) : Prop := match x, y with
  | .str a, .str b => ∃ c : Nat, a = ⟨#[c]⟩ ∧ Q (.bl (if n = true then !decide (c ∈ b.cps.toList) else decide (c ∈ b.cps.toList)))
  | _, _ => False
end DL

/-! DCoreS: int(text). -/
namespace DL
open PySem
def fIntS (xs : List D) (Q : DK) : Prop := match xs with
  | [.str a] => ∃ n, intText? a = some n ∧ a.length ≤ 640 ∧ Q (.int n)
  | _ => False
end DL

/-! DCoreT: own dicts that are keyed by tuples. -/
namespace DL
open PySem
def gOT (o : Option Sl) (Q : List (List Key × D) → Prop) : Prop := match o with
  | some (.o (.dt xs)) => Q xs
  | _ => False
def gKs (ds : List D) (Q : List Key → Prop) : Prop := match keysOf ds with
  | some ks => Q ks
  | none => False
def gDt (d : D) (Q : List (List Key × D) → Prop) : Prop := match d with
  | .dt kvs => Q kvs
  | _ => False
def dNewT : DT := fun _ _ Q => Q (.dt [])
/-- d[a, b] = v -/
def sPutT (i : Nat) (a : DA) (b : DT) : DS := fun E K ρ => gOT ρ[i]? fun kvs => b E ρ fun v => a E ρ fun ds => ds.length ≤ lineMax ∧ gKs ds fun ks => kvs.length < 1000000 ∧ K.nx (ρ.set i (.o (.dt (putD kvs ks v))))
def fLenT (xs : List D) (Q : DK) : Prop := match xs with
  | [.dt kvs] => kvs.length < 1000000 ∧ Q (.int kvs.length)
  | _ => False
/-- {(a, b): v for .. in it if ..} -/
def dcTL (g : DG) (t : DB) (k : DA) (e : DT) (ρ : Env) : List D → List (List Key × D) → (List (List Key × D) → Prop) → Prop
  | [], acc, Q => Q acc
  | x :: r, acc, Q => g x ρ fun ρ' => t noE ρ' fun b => if b = true then k noE ρ' fun ds => ds.length ≤ lineMax ∧ e noE ρ' fun z => gKs ds fun ks => acc.length < 1000000 ∧ dcTL g t k e ρ r (putD acc ks z) Q else dcTL g t k e ρ r acc Q
def dDcT (it : DI) (g : DG) (t : DB) (k : DA) (e : DT) (vs : List Nat) : DT := fun E ρ Q => it E ρ fun xs => dcTL g t k e (noOwn (wipeE ρ vs)) xs [] fun r => Q (.dt r)
/-- a pair of small numbers -/
def near20 : List Key → Bool
  | [.inl a, .inl b] => decide (0 ≤ a) && decide (a < 20) && decide (0 ≤ b) && decide (b < 20)
  | _ => false
def mergeDT (kvs more : List (List Key × D)) : List (List Key × D) := more.foldl (fun acc p => putD acc p.1 p.2) kvs
/-- d.update({..}) -/
def sUpdT (i : Nat) (t : DT) : DS := fun E K ρ => gOT ρ[i]? fun kvs => t E ρ fun d => gDt d fun more => (kvs ≠ [] ∨ ((∀ p ∈ more, near20 p.1 = true) ∧ (more.map (·.1)).Nodup)) ∧ kvs.length + more.length < 1000000 ∧ K.nx (ρ.set i (.o (.dt (mergeDT kvs more))))
/-- is, is not of truth values -/
def oIsB (x y : D) (Q : DK) : Prop := match x, y with
  | .bl a, .bl b => Q (.bl (decide (a = b)))
  | _, _ => False
def oNotB (x y : D) (Q : DK) : Prop := match x, y with
  | .bl a, .bl b => Q (.bl (!decide (a = b)))
  | _, _ => False
/-- min and max of a tuple of ints -/
def fMinT (xs : List D) (Q : DK) : Prop := match xs with
  | [.tup l] => match intsOf l with
    | some ns => ns ≠ [] ∧ ∀ m, m ∈ ns → (∀ y ∈ ns, m ≤ y) → Q (.int m)
    | none => False
  | _ => False
def fMaxT (xs : List D) (Q : DK) : Prop := match xs with
  | [.tup l] => match intsOf l with
    | some ns => ns ≠ [] ∧ ∀ m, m ∈ ns → (∀ y ∈ ns, y ≤ m) → Q (.int m)
    | none => False
  | _ => False
end DL

/-! DCoreU: instances of the def's own that change, and expressions that change them. -/
namespace DL
open PySem
abbrev DX : Type := EK → Env → (D → Env → Prop) → Prop
def gIO (c : String) (o : Option Sl) (Q : List (Str × D) → Prop) : Prop := match o with
  | some (.o (.ins c' fs)) => c' = c ∧ Q fs
  | _ => False
/-- x.m(..) of the own instance x of slot i: what is given back, and what it is then -/
def xMeth (c : String) (m : Str) (i : Nat) (W : DF) (a : DA) : DX := fun E ρ Q => gIO c ρ[i]? fun fs => fs.lookup m = none ∧ a E ρ fun xs => up W (.ins c fs :: xs) (fun r => gPair r fun d o => Q d (ρ.set i (.o o))) fun _ => False
/-- a statement behind an expression that changes: its value is known then -/
def sFirst (t : DX) (s : DT → DS) : DS := fun E K ρ => t E ρ fun d ρ' => isFlat d = true ∧ s (dC d) E K ρ'
/-- self.f op= value -/
def sFldA (c : String) (i : Nat) (f : Str) (op : D → D → DK → Prop) (a : DT) : DS := fun E K ρ => gIO c ρ[i]? fun fs => gSm (fs.lookup f) fun x => a E ρ fun y => op x y fun z => fs.length < 1000 ∧ K.nx (ρ.set i (.o (.ins c (putFD f z fs))))
/-- if not g(x.m(..), z) or u: return False -/
def sIfNotX (W : DF) (z : DA) (u : DB) (t : DT) : DS := sIf (bOr (bNot (bT (dCall W (aCons t z)))) u) (sRet (dC (.bl false))) sNext
end DL

set_option maxHeartbeats 8000000
/-! The text of the law, read as plain Lean. -/
namespace K30
open PySem DL
@[reducible] def T_ratio_up : DS := (sRet (dUn oNeg (dOp oDiv (dUn oNeg (dVar 0)) (dVar 1))))
def W_ratio_up : DF := defT 2 2 T_ratio_up
theorem W_ratio_up_w {ds : List D} {Q : DK} {E : Err → Prop} : W_ratio_up ds Q E ↔ ds.length = 2 ∧ (sRet (dUn oNeg (dOp oDiv (dUn oNeg (dVar 0)) (dVar 1)))) (fun e _ => E e) { nx := fun _ => Q .non, rt := Q } (envOf 2 ds) := id Iff.rfl
@[reducible] def T_count_of : DS := (sRet (dBlt fLen (aCons (dLc (iSeq (dVar 0)) (gTup (gCons (gName 2) (gCons (gName 3) gNil))) (bT (dChain oLe oLe (dVar 2) (dVar 1) (dVar 3))) (dC (.int 1)) [2, 3]) aNil)))
def W_count_of : DF := defT 2 4 T_count_of
theorem W_count_of_w {ds : List D} {Q : DK} {E : Err → Prop} : W_count_of ds Q E ↔ ds.length = 2 ∧ (sRet (dBlt fLen (aCons (dLc (iSeq (dVar 0)) (gTup (gCons (gName 2) (gCons (gName 3) gNil))) (bT (dChain oLe oLe (dVar 2) (dVar 1) (dVar 3))) (dC (.int 1)) [2, 3]) aNil))) (fun e _ => E e) { nx := fun _ => Q .non, rt := Q } (envOf 4 ds) := id Iff.rfl
@[reducible] def T_agreement_4 : DS :=
    (sRet (dIf (bTruth (dVar 5)) (dTup (aCons (dBlt fMin (aCons (dVar 5) aNil)) (aCons (dBlt fMax (aCons (dVar 5) aNil)) aNil))) (dC .non)))
def V_agreement_4 : DS := T_agreement_4
theorem V_agreement_4_w {E : EK} {K : DE} {ρ : DL.Env} : V_agreement_4 E K ρ ↔ (sRet (dIf (bTruth (dVar 5)) (dTup (aCons (dBlt fMin (aCons (dVar 5) aNil)) (aCons (dBlt fMax (aCons (dVar 5) aNil)) aNil))) (dC .non))) E K ρ := id Iff.rfl
@[reducible] def T_agreement_3 : DS :=
    (sSeq (sSet 5 (dLc (iSeq (dOp oAdd (dVar 3) (dVar 4))) (gName 6) (bT (dOp oGe (dCall W_count_of (aCons (dVar 0) (aCons (dVar 6) aNil))) (dVar 2))) (dVar 6) [6]))
    T_agreement_4)
def V_agreement_3 : DS := T_agreement_3
theorem V_agreement_3_w {E : EK} {K : DE} {ρ : DL.Env} : V_agreement_3 E K ρ ↔ (sSet 5 (dLc (iSeq (dOp oAdd (dVar 3) (dVar 4))) (gName 6) (bT (dOp oGe (dCall W_count_of (aCons (dVar 0) (aCons (dVar 6) aNil))) (dVar 2))) (dVar 6) [6])) E { K with nx := V_agreement_4 E K } ρ := id Iff.rfl
@[reducible] def T_agreement_2 : DS :=
    (sSeq (sSet 4 (dBlt fSortX (aCons (dLc (iSeq (dVar 0)) (gTup (gCons (gName 8) (gCons (gName 9) gNil))) bYes (dVar 9) [8, 9]) aNil)))
    T_agreement_3)
def V_agreement_2 : DS := T_agreement_2
theorem V_agreement_2_w {E : EK} {K : DE} {ρ : DL.Env} : V_agreement_2 E K ρ ↔ (sSet 4 (dBlt fSortX (aCons (dLc (iSeq (dVar 0)) (gTup (gCons (gName 8) (gCons (gName 9) gNil))) bYes (dVar 9) [8, 9]) aNil))) E { K with nx := V_agreement_3 E K } ρ := id Iff.rfl
@[reducible] def T_agreement_1 : DS :=
    (sSeq (sSet 3 (dBlt fSortX (aCons (dLc (iSeq (dVar 0)) (gTup (gCons (gName 7) (gCons (gName 8) gNil))) bYes (dVar 7) [7, 8]) aNil)))
    T_agreement_2)
def V_agreement_1 : DS := T_agreement_1
theorem V_agreement_1_w {E : EK} {K : DE} {ρ : DL.Env} : V_agreement_1 E K ρ ↔ (sSet 3 (dBlt fSortX (aCons (dLc (iSeq (dVar 0)) (gTup (gCons (gName 7) (gCons (gName 8) gNil))) bYes (dVar 7) [7, 8]) aNil))) E { K with nx := V_agreement_2 E K } ρ := id Iff.rfl
@[reducible] def T_agreement_0 : DS :=
    (sSeq (sSet 2 (dBlt fMax (aCons (dC (.int 1)) (aCons (dOp oSub (dBlt fLen (aCons (dVar 0) aNil)) (dVar 1)) aNil))))
    T_agreement_1)
def V_agreement_0 : DS := T_agreement_0
theorem V_agreement_0_w {E : EK} {K : DE} {ρ : DL.Env} : V_agreement_0 E K ρ ↔ (sSet 2 (dBlt fMax (aCons (dC (.int 1)) (aCons (dOp oSub (dBlt fLen (aCons (dVar 0) aNil)) (dVar 1)) aNil)))) E { K with nx := V_agreement_1 E K } ρ := id Iff.rfl
@[reducible] def T_agreement : DS := T_agreement_0
def W_agreement : DF := defT 2 10 T_agreement
theorem W_agreement_w {ds : List D} {Q : DK} {E : Err → Prop} : W_agreement ds Q E ↔ ds.length = 2 ∧ V_agreement_0 (fun e _ => E e) { nx := fun _ => Q .non, rt := Q } (envOf 10 ds) := id Iff.rfl
@[reducible] def T_KeptClock___init___2 : DS :=
    (sFldO "KeptClock" 0 "_high" (dVar 3))
def V_KeptClock___init___2 : DS := T_KeptClock___init___2
theorem V_KeptClock___init___2_w {E : EK} {K : DE} {ρ : DL.Env} : V_KeptClock___init___2 E K ρ ↔ (sFldO "KeptClock" 0 "_high" (dVar 3)) E K ρ := id Iff.rfl
@[reducible] def T_KeptClock___init___1 : DS :=
    (sSeq (sFldO "KeptClock" 0 "_low" (dVar 2))
    T_KeptClock___init___2)
def V_KeptClock___init___1 : DS := T_KeptClock___init___1
theorem V_KeptClock___init___1_w {E : EK} {K : DE} {ρ : DL.Env} : V_KeptClock___init___1 E K ρ ↔ (sFldO "KeptClock" 0 "_low" (dVar 2)) E { K with nx := V_KeptClock___init___2 E K } ρ := id Iff.rfl
@[reducible] def T_KeptClock___init___0 : DS :=
    (sSeq (sFldO "KeptClock" 0 "_rate" (dVar 1))
    T_KeptClock___init___1)
def V_KeptClock___init___0 : DS := T_KeptClock___init___0
theorem V_KeptClock___init___0_w {E : EK} {K : DE} {ρ : DL.Env} : V_KeptClock___init___0 E K ρ ↔ (sFldO "KeptClock" 0 "_rate" (dVar 1)) E { K with nx := V_KeptClock___init___1 E K } ρ := id Iff.rfl
@[reducible] def T_KeptClock___init__ : DS := T_KeptClock___init___0
def W_KeptClock___init__ : DF := mkT "KeptClock" 4 4 T_KeptClock___init__
theorem W_KeptClock___init___w {ds : List D} {Q : DK} {E : Err → Prop} : W_KeptClock___init__ ds Q E ↔ ds.length + 1 = 4 ∧ V_KeptClock___init___0 (fun e _ => E e) { nx := madeQ Q, rt := fun _ => False } ((envOf 4 (.non :: ds)).set 0 (.o (.ins "KeptClock" []))) := id Iff.rfl
@[reducible] def T_KeptClock_known : DS := (sRet (dTup (aCons (dFld "KeptClock" "_low" (dVar 0)) (aCons (dFld "KeptClock" "_high" (dVar 0)) aNil))))
def W_KeptClock_known : DF := defT 1 1 T_KeptClock_known
theorem W_KeptClock_known_w {ds : List D} {Q : DK} {E : Err → Prop} : W_KeptClock_known ds Q E ↔ ds.length = 1 ∧ (sRet (dTup (aCons (dFld "KeptClock" "_low" (dVar 0)) (aCons (dFld "KeptClock" "_high" (dVar 0)) aNil)))) (fun e _ => E e) { nx := fun _ => Q .non, rt := Q } (envOf 1 ds) := id Iff.rfl
@[reducible] def T_KeptClock_count_2 : DS :=
    (sFldA "KeptClock" 0 "_high" oAddI (dOp oAdd (dVar 1) (dVar 2)))
def V_KeptClock_count_2 : DS := T_KeptClock_count_2
theorem V_KeptClock_count_2_w {E : EK} {K : DE} {ρ : DL.Env} : V_KeptClock_count_2 E K ρ ↔ (sFldA "KeptClock" 0 "_high" oAddI (dOp oAdd (dVar 1) (dVar 2))) E K ρ := id Iff.rfl
@[reducible] def T_KeptClock_count_1 : DS :=
    (sSeq (sFldA "KeptClock" 0 "_low" oAddI (dOp oSub (dVar 1) (dVar 2)))
    T_KeptClock_count_2)
def V_KeptClock_count_1 : DS := T_KeptClock_count_1
theorem V_KeptClock_count_1_w {E : EK} {K : DE} {ρ : DL.Env} : V_KeptClock_count_1 E K ρ ↔ (sFldA "KeptClock" 0 "_low" oAddI (dOp oSub (dVar 1) (dVar 2))) E { K with nx := V_KeptClock_count_2 E K } ρ := id Iff.rfl
@[reducible] def T_KeptClock_count_0 : DS :=
    (sSeq (sSet 2 (dCall W_ratio_up (aCons (dOp oMul (dVar 1) (dBor (dFld "KeptClock" "_rate" (dVar 0)))) (aCons (dC (.int (1000000))) aNil))))
    T_KeptClock_count_1)
def V_KeptClock_count_0 : DS := T_KeptClock_count_0
theorem V_KeptClock_count_0_w {E : EK} {K : DE} {ρ : DL.Env} : V_KeptClock_count_0 E K ρ ↔ (sSet 2 (dCall W_ratio_up (aCons (dOp oMul (dVar 1) (dBor (dFld "KeptClock" "_rate" (dVar 0)))) (aCons (dC (.int (1000000))) aNil)))) E { K with nx := V_KeptClock_count_1 E K } ρ := id Iff.rfl
@[reducible] def T_KeptClock_count : DS := T_KeptClock_count_0
def W_KeptClock_count : DF := defX 0 2 3 T_KeptClock_count
theorem W_KeptClock_count_w {ds : List D} {Q : DK} {E : Err → Prop} : W_KeptClock_count ds Q E ↔ ds.length = 2 ∧ V_KeptClock_count_0 (fun e _ => E e) { nx := fun ρ => gO ρ[(0 : Nat)]? fun o => Q (dPair .non o), rt := fun _ => False, ro := fun d ρ => gO ρ[(0 : Nat)]? fun o => Q (dPair d o) } ((envOf 3 ds).set 0 (.o (ds.getD 0 .non))) := id Iff.rfl
@[reducible] def T_KeptClock_hear_4 : DS :=
    (sRetX (dC (.bl true)))
def V_KeptClock_hear_4 : DS := T_KeptClock_hear_4
theorem V_KeptClock_hear_4_w {E : EK} {K : DE} {ρ : DL.Env} : V_KeptClock_hear_4 E K ρ ↔ (sRetX (dC (.bl true))) E K ρ := id Iff.rfl
@[reducible] def T_KeptClock_hear_3 : DS :=
    (sSeq (sFldO "KeptClock" 0 "_high" (dBor (dBlt fMin (aCons (dFld "KeptClock" "_high" (dVar 0)) (aCons (dOp oIx (dVar 3) (dC (.int 1))) aNil)))))
    T_KeptClock_hear_4)
def V_KeptClock_hear_3 : DS := T_KeptClock_hear_3
theorem V_KeptClock_hear_3_w {E : EK} {K : DE} {ρ : DL.Env} : V_KeptClock_hear_3 E K ρ ↔ (sFldO "KeptClock" 0 "_high" (dBor (dBlt fMin (aCons (dFld "KeptClock" "_high" (dVar 0)) (aCons (dOp oIx (dVar 3) (dC (.int 1))) aNil))))) E { K with nx := V_KeptClock_hear_4 E K } ρ := id Iff.rfl
@[reducible] def T_KeptClock_hear_2 : DS :=
    (sSeq (sFldO "KeptClock" 0 "_low" (dBor (dBlt fMax (aCons (dFld "KeptClock" "_low" (dVar 0)) (aCons (dOp oIx (dVar 3) (dC (.int 0))) aNil)))))
    T_KeptClock_hear_3)
def V_KeptClock_hear_2 : DS := T_KeptClock_hear_2
theorem V_KeptClock_hear_2_w {E : EK} {K : DE} {ρ : DL.Env} : V_KeptClock_hear_2 E K ρ ↔ (sFldO "KeptClock" 0 "_low" (dBor (dBlt fMax (aCons (dFld "KeptClock" "_low" (dVar 0)) (aCons (dOp oIx (dVar 3) (dC (.int 0))) aNil))))) E { K with nx := V_KeptClock_hear_3 E K } ρ := id Iff.rfl
@[reducible] def T_KeptClock_hear_1 : DS :=
    (sSeq (sIf (bOr (bT (dOp oIs (dVar 3) (dC .non))) (bOr (bBor (bT (dOp oGt (dOp oIx (dVar 3) (dC (.int 0))) (dFld "KeptClock" "_high" (dVar 0))))) (bBor (bT (dOp oLt (dOp oIx (dVar 3) (dC (.int 1))) (dFld "KeptClock" "_low" (dVar 0))))))) (sRetX (dC (.bl false))) sNext)
    T_KeptClock_hear_2)
def V_KeptClock_hear_1 : DS := T_KeptClock_hear_1
theorem V_KeptClock_hear_1_w {E : EK} {K : DE} {ρ : DL.Env} : V_KeptClock_hear_1 E K ρ ↔ (sIf (bOr (bT (dOp oIs (dVar 3) (dC .non))) (bOr (bBor (bT (dOp oGt (dOp oIx (dVar 3) (dC (.int 0))) (dFld "KeptClock" "_high" (dVar 0))))) (bBor (bT (dOp oLt (dOp oIx (dVar 3) (dC (.int 1))) (dFld "KeptClock" "_low" (dVar 0))))))) (sRetX (dC (.bl false))) sNext) E { K with nx := V_KeptClock_hear_2 E K } ρ := id Iff.rfl
@[reducible] def T_KeptClock_hear_0 : DS :=
    (sSeq (sSet 3 (dCall W_agreement (aCons (dVar 1) (aCons (dVar 2) aNil))))
    T_KeptClock_hear_1)
def V_KeptClock_hear_0 : DS := T_KeptClock_hear_0
theorem V_KeptClock_hear_0_w {E : EK} {K : DE} {ρ : DL.Env} : V_KeptClock_hear_0 E K ρ ↔ (sSet 3 (dCall W_agreement (aCons (dVar 1) (aCons (dVar 2) aNil)))) E { K with nx := V_KeptClock_hear_1 E K } ρ := id Iff.rfl
@[reducible] def T_KeptClock_hear : DS := T_KeptClock_hear_0
def W_KeptClock_hear : DF := defX 0 3 4 T_KeptClock_hear
theorem W_KeptClock_hear_w {ds : List D} {Q : DK} {E : Err → Prop} : W_KeptClock_hear ds Q E ↔ ds.length = 3 ∧ V_KeptClock_hear_0 (fun e _ => E e) { nx := fun ρ => gO ρ[(0 : Nat)]? fun o => Q (dPair .non o), rt := fun _ => False, ro := fun d ρ => gO ρ[(0 : Nat)]? fun o => Q (dPair d o) } ((envOf 4 ds).set 0 (.o (ds.getD 0 .non))) := id Iff.rfl
abbrev W_u_law_start : DF := wStart
abbrev W_u_law_draw : DF := wDraw
@[reducible] def T_u_law_pick : DS := (sRet (dOp oIx (dVar 1) (dCall W_u_law_draw (aCons (dVar 0) (aCons (dBlt fLen (aCons (dVar 1) aNil)) aNil)))))
def W_u_law_pick : DF := defT 2 2 T_u_law_pick
theorem W_u_law_pick_w {ds : List D} {Q : DK} {E : Err → Prop} : W_u_law_pick ds Q E ↔ ds.length = 2 ∧ (sRet (dOp oIx (dVar 1) (dCall W_u_law_draw (aCons (dVar 0) (aCons (dBlt fLen (aCons (dVar 1) aNil)) aNil))))) (fun e _ => E e) { nx := fun _ => Q .non, rt := Q } (envOf 2 ds) := id Iff.rfl
@[reducible] def T_u_law_is : DS := (sRet (dAndV (dIsi "bool" (dVar 0)) (dOp oEq (dVar 0) (dVar 1))))
def W_u_law_is : DF := defT 2 2 T_u_law_is
theorem W_u_law_is_w {ds : List D} {Q : DK} {E : Err → Prop} : W_u_law_is ds Q E ↔ ds.length = 2 ∧ (sRet (dAndV (dIsi "bool" (dVar 0)) (dOp oEq (dVar 0) (dVar 1)))) (fun e _ => E e) { nx := fun _ => Q .non, rt := Q } (envOf 2 ds) := id Iff.rfl
@[reducible] def T_u_law_agreement_L1_1 : DS :=
    (sFgt [1, 4, 5] sNext)
def V_u_law_agreement_L1_1 : DS := T_u_law_agreement_L1_1
theorem V_u_law_agreement_L1_1_w {E : EK} {K : DE} {ρ : DL.Env} : V_u_law_agreement_L1_1 E K ρ ↔ (sFgt [1, 4, 5] sNext) E K ρ := id Iff.rfl
@[reducible] def T_u_law_agreement_L1_0 : DS :=
    (sSeq (sIf (bT (dOp oGe (dBlt fLen (aCons (dLc (iSeq (dVar 0)) (gName 5) (bT (dChain oLe oLe (dOp oIx (dVar 5) (dC (.int 0))) (dVar 4) (dOp oIx (dVar 5) (dC (.int 1))))) (dC (.int 1)) [5]) aNil)) (dVar 2))) (sApp 3 (dVar 4)) sNext)
    T_u_law_agreement_L1_1)
def V_u_law_agreement_L1_0 : DS := T_u_law_agreement_L1_0
theorem V_u_law_agreement_L1_0_w {E : EK} {K : DE} {ρ : DL.Env} : V_u_law_agreement_L1_0 E K ρ ↔ (sIf (bT (dOp oGe (dBlt fLen (aCons (dLc (iSeq (dVar 0)) (gName 5) (bT (dChain oLe oLe (dOp oIx (dVar 5) (dC (.int 0))) (dVar 4) (dOp oIx (dVar 5) (dC (.int 1))))) (dC (.int 1)) [5]) aNil)) (dVar 2))) (sApp 3 (dVar 4)) sNext) E { K with nx := V_u_law_agreement_L1_1 E K } ρ := id Iff.rfl
@[reducible] def T_u_law_agreement_3 : DS :=
    (sRet (dIf (bBor (bT (dOp oGt (dBlt fLen (aCons (dVar 3) aNil)) (dC (.int 0))))) (dTup (aCons (dIxO 3 (dC (.int 0))) (aCons (dIxO 3 (dUn oNeg (dC (.int 1)))) aNil))) (dC .non)))
def V_u_law_agreement_3 : DS := T_u_law_agreement_3
theorem V_u_law_agreement_3_w {E : EK} {K : DE} {ρ : DL.Env} : V_u_law_agreement_3 E K ρ ↔ (sRet (dIf (bBor (bT (dOp oGt (dBlt fLen (aCons (dVar 3) aNil)) (dC (.int 0))))) (dTup (aCons (dIxO 3 (dC (.int 0))) (aCons (dIxO 3 (dUn oNeg (dC (.int 1)))) aNil))) (dC .non))) E K ρ := id Iff.rfl
@[reducible] def T_u_law_agreement_2 : DS :=
    (sSeq (sFgt [1, 4, 5] (sFor (iRng2 (aCons (dBlt fMin (aCons (dLc (iSeq (dVar 0)) (gName 5) bYes (dOp oIx (dVar 5) (dC (.int 0))) [5]) aNil)) (aCons (dOp oAdd (dBlt fMax (aCons (dLc (iSeq (dVar 0)) (gName 5) bYes (dOp oIx (dVar 5) (dC (.int 1))) [5]) aNil)) (dC (.int 1))) aNil))) (gName 4) T_u_law_agreement_L1_0))
    T_u_law_agreement_3)
def V_u_law_agreement_2 : DS := T_u_law_agreement_2
theorem V_u_law_agreement_2_w {E : EK} {K : DE} {ρ : DL.Env} : V_u_law_agreement_2 E K ρ ↔ (sFgt [1, 4, 5] (sFor (iRng2 (aCons (dBlt fMin (aCons (dLc (iSeq (dVar 0)) (gName 5) bYes (dOp oIx (dVar 5) (dC (.int 0))) [5]) aNil)) (aCons (dOp oAdd (dBlt fMax (aCons (dLc (iSeq (dVar 0)) (gName 5) bYes (dOp oIx (dVar 5) (dC (.int 1))) [5]) aNil)) (dC (.int 1))) aNil))) (gName 4) V_u_law_agreement_L1_0)) E { K with nx := V_u_law_agreement_3 E K } ρ := by
  delta V_u_law_agreement_2 V_u_law_agreement_L1_0 V_u_law_agreement_3
  exact seq_w _ _
@[reducible] def T_u_law_agreement_1 : DS :=
    (sSeq (sOwn 3 (dLst aNil))
    T_u_law_agreement_2)
def V_u_law_agreement_1 : DS := T_u_law_agreement_1
theorem V_u_law_agreement_1_w {E : EK} {K : DE} {ρ : DL.Env} : V_u_law_agreement_1 E K ρ ↔ (sOwn 3 (dLst aNil)) E { K with nx := V_u_law_agreement_2 E K } ρ := id Iff.rfl
@[reducible] def T_u_law_agreement_0 : DS :=
    (sSeq (sSet 2 (dBlt fMax (aCons (dC (.int 1)) (aCons (dOp oSub (dBlt fLen (aCons (dVar 0) aNil)) (dVar 1)) aNil))))
    T_u_law_agreement_1)
def V_u_law_agreement_0 : DS := T_u_law_agreement_0
theorem V_u_law_agreement_0_w {E : EK} {K : DE} {ρ : DL.Env} : V_u_law_agreement_0 E K ρ ↔ (sSet 2 (dBlt fMax (aCons (dC (.int 1)) (aCons (dOp oSub (dBlt fLen (aCons (dVar 0) aNil)) (dVar 1)) aNil)))) E { K with nx := V_u_law_agreement_1 E K } ρ := id Iff.rfl
@[reducible] def T_u_law_agreement : DS := T_u_law_agreement_0
def W_u_law_agreement : DF := defT 2 6 T_u_law_agreement
theorem W_u_law_agreement_w {ds : List D} {Q : DK} {E : Err → Prop} : W_u_law_agreement ds Q E ↔ ds.length = 2 ∧ V_u_law_agreement_0 (fun e _ => E e) { nx := fun _ => Q .non, rt := Q } (envOf 6 ds) := id Iff.rfl
@[reducible] def T_u_law_source_2 : DS :=
    (sRet (dTup (aCons (dVar 3) (aCons (dOp oAdd (dVar 3) (dCall W_u_law_draw (aCons (dVar 0) (aCons (dC (.int 20)) aNil)))) aNil))))
def V_u_law_source_2 : DS := T_u_law_source_2
theorem V_u_law_source_2_w {E : EK} {K : DE} {ρ : DL.Env} : V_u_law_source_2 E K ρ ↔ (sRet (dTup (aCons (dVar 3) (aCons (dOp oAdd (dVar 3) (dCall W_u_law_draw (aCons (dVar 0) (aCons (dC (.int 20)) aNil)))) aNil)))) E K ρ := id Iff.rfl
@[reducible] def T_u_law_source_1 : DS :=
    (sSeq (sSet 3 (dOp oAdd (dOp oSub (dVar 1) (dC (.int 40))) (dCall W_u_law_draw (aCons (dVar 0) (aCons (dC (.int 80)) aNil)))))
    T_u_law_source_2)
def V_u_law_source_1 : DS := T_u_law_source_1
theorem V_u_law_source_1_w {E : EK} {K : DE} {ρ : DL.Env} : V_u_law_source_1 E K ρ ↔ (sSet 3 (dOp oAdd (dOp oSub (dVar 1) (dC (.int 40))) (dCall W_u_law_draw (aCons (dVar 0) (aCons (dC (.int 80)) aNil))))) E { K with nx := V_u_law_source_2 E K } ρ := id Iff.rfl
@[reducible] def T_u_law_source_0 : DS :=
    (sSeq (sIf (bTruth (dVar 2)) (sRet (dTup (aCons (dOp oSub (dVar 1) (dCall W_u_law_draw (aCons (dVar 0) (aCons (dC (.int 12)) aNil)))) (aCons (dOp oAdd (dVar 1) (dCall W_u_law_draw (aCons (dVar 0) (aCons (dC (.int 12)) aNil)))) aNil)))) sNext)
    T_u_law_source_1)
def V_u_law_source_0 : DS := T_u_law_source_0
theorem V_u_law_source_0_w {E : EK} {K : DE} {ρ : DL.Env} : V_u_law_source_0 E K ρ ↔ (sIf (bTruth (dVar 2)) (sRet (dTup (aCons (dOp oSub (dVar 1) (dCall W_u_law_draw (aCons (dVar 0) (aCons (dC (.int 12)) aNil)))) (aCons (dOp oAdd (dVar 1) (dCall W_u_law_draw (aCons (dVar 0) (aCons (dC (.int 12)) aNil)))) aNil)))) sNext) E { K with nx := V_u_law_source_1 E K } ρ := id Iff.rfl
@[reducible] def T_u_law_source : DS := T_u_law_source_0
def W_u_law_source : DF := defT 3 4 T_u_law_source
theorem W_u_law_source_w {ds : List D} {Q : DK} {E : Err → Prop} : W_u_law_source ds Q E ↔ ds.length = 3 ∧ V_u_law_source_0 (fun e _ => E e) { nx := fun _ => Q .non, rt := Q } (envOf 4 ds) := id Iff.rfl
@[reducible] def T_law_B1_4 : DS :=
    (sSet 4 (dLst (aCons (dOp oSub (dOp oAdd (dOp oIx (dVar 4) (dC (.int 0))) (dVar 9)) (dVar 10)) (aCons (dOp oAdd (dOp oAdd (dOp oIx (dVar 4) (dC (.int 1))) (dVar 9)) (dVar 10)) aNil))))
@[irreducible] def V_law_B1_4 : DS := T_law_B1_4
theorem V_law_B1_4_w {E : EK} {K : DE} {ρ : DL.Env} : V_law_B1_4 E K ρ ↔ (sSet 4 (dLst (aCons (dOp oSub (dOp oAdd (dOp oIx (dVar 4) (dC (.int 0))) (dVar 9)) (dVar 10)) (aCons (dOp oAdd (dOp oAdd (dOp oIx (dVar 4) (dC (.int 1))) (dVar 9)) (dVar 10)) aNil)))) E K ρ := by
  delta V_law_B1_4
  exact Iff.rfl
@[reducible] def T_law_B1_3 : DS :=
    (sSeq (sSet 2 (dOp oAdd (dOp oSub (dOp oAdd (dVar 2) (dVar 9)) (dVar 10)) (dCall W_u_law_draw (aCons (dVar 1) (aCons (dOp oAdd (dOp oMul (dC (.int 2)) (dVar 10)) (dC (.int 1))) aNil)))))
    T_law_B1_4)
@[irreducible] def V_law_B1_3 : DS := T_law_B1_3
theorem V_law_B1_3_w {E : EK} {K : DE} {ρ : DL.Env} : V_law_B1_3 E K ρ ↔ (sSet 2 (dOp oAdd (dOp oSub (dOp oAdd (dVar 2) (dVar 9)) (dVar 10)) (dCall W_u_law_draw (aCons (dVar 1) (aCons (dOp oAdd (dOp oMul (dC (.int 2)) (dVar 10)) (dC (.int 1))) aNil))))) E { K with nx := V_law_B1_4 E K } ρ := by
  delta V_law_B1_3 V_law_B1_4
  exact seq_w _ _
@[reducible] def T_law_B1_2 : DS :=
    (sSeq (sFirst (xMeth "KeptClock" "count" 5 W_KeptClock_count (aCons (dVar 9) aNil)) sDrop)
    T_law_B1_3)
@[irreducible] def V_law_B1_2 : DS := T_law_B1_2
theorem V_law_B1_2_w {E : EK} {K : DE} {ρ : DL.Env} : V_law_B1_2 E K ρ ↔ (sFirst (xMeth "KeptClock" "count" 5 W_KeptClock_count (aCons (dVar 9) aNil)) sDrop) E { K with nx := V_law_B1_3 E K } ρ := by
  delta V_law_B1_2 V_law_B1_3
  exact seq_w _ _
@[reducible] def T_law_B1_1 : DS :=
    (sSeq (sSet 10 (dOp oDiv (dOp oAdd (dOp oMul (dVar 9) (dVar 3)) (dC (.int 999999))) (dC (.int 1000000))))
    T_law_B1_2)
@[irreducible] def V_law_B1_1 : DS := T_law_B1_1
theorem V_law_B1_1_w {E : EK} {K : DE} {ρ : DL.Env} : V_law_B1_1 E K ρ ↔ (sSet 10 (dOp oDiv (dOp oAdd (dOp oMul (dVar 9) (dVar 3)) (dC (.int 999999))) (dC (.int 1000000)))) E { K with nx := V_law_B1_2 E K } ρ := by
  delta V_law_B1_1 V_law_B1_2
  exact seq_w _ _
@[reducible] def T_law_B1_0 : DS :=
    (sSeq (sSet 9 (dIf (bT (dOp oNe (dVar 3) (dC (.int 1)))) (dCall W_u_law_draw (aCons (dVar 1) (aCons (dCall W_u_law_pick (aCons (dVar 1) (aCons (dLst (aCons (dC (.int 1)) (aCons (dC (.int 40)) (aCons (dC (.int 3000)) aNil)))) aNil))) aNil))) (dOp oAdd (dOp oMul (dC (.int 1000000)) (dCall W_u_law_draw (aCons (dVar 1) (aCons (dC (.int 3)) aNil)))) (dCall W_u_law_draw (aCons (dVar 1) (aCons (dC (.int 3)) aNil))))))
    T_law_B1_1)
@[irreducible] def V_law_B1_0 : DS := T_law_B1_0
theorem V_law_B1_0_w {E : EK} {K : DE} {ρ : DL.Env} : V_law_B1_0 E K ρ ↔ (sSet 9 (dIf (bT (dOp oNe (dVar 3) (dC (.int 1)))) (dCall W_u_law_draw (aCons (dVar 1) (aCons (dCall W_u_law_pick (aCons (dVar 1) (aCons (dLst (aCons (dC (.int 1)) (aCons (dC (.int 40)) (aCons (dC (.int 3000)) aNil)))) aNil))) aNil))) (dOp oAdd (dOp oMul (dC (.int 1000000)) (dCall W_u_law_draw (aCons (dVar 1) (aCons (dC (.int 3)) aNil)))) (dCall W_u_law_draw (aCons (dVar 1) (aCons (dC (.int 3)) aNil)))))) E { K with nx := V_law_B1_1 E K } ρ := by
  delta V_law_B1_0 V_law_B1_1
  exact seq_w _ _
@[reducible] def T_law_L2_1 : DS :=
    (sFgt [0, 6, 8, 9, 10, 11, 15, 16, 17, 18] sNext)
@[irreducible] def V_law_L2_1 : DS := T_law_L2_1
theorem V_law_L2_1_w {E : EK} {K : DE} {ρ : DL.Env} : V_law_L2_1 E K ρ ↔ (sFgt [0, 6, 8, 9, 10, 11, 15, 16, 17, 18] sNext) E K ρ := by
  delta V_law_L2_1
  exact Iff.rfl
@[reducible] def T_law_L2_0 : DS :=
    (sSeq (sLop lIns 14 (aCons (dCall W_u_law_draw (aCons (dVar 1) (aCons (dOp oAdd (dVar 15) (dC (.int 1))) aNil))) (aCons (dCall W_u_law_source (aCons (dVar 1) (aCons (dVar 2) (aCons (dOp oGe (dVar 15) (dVar 13)) aNil)))) aNil)))
    T_law_L2_1)
@[irreducible] def V_law_L2_0 : DS := T_law_L2_0
theorem V_law_L2_0_w {E : EK} {K : DE} {ρ : DL.Env} : V_law_L2_0 E K ρ ↔ (sLop lIns 14 (aCons (dCall W_u_law_draw (aCons (dVar 1) (aCons (dOp oAdd (dVar 15) (dC (.int 1))) aNil))) (aCons (dCall W_u_law_source (aCons (dVar 1) (aCons (dVar 2) (aCons (dOp oGe (dVar 15) (dVar 13)) aNil)))) aNil))) E { K with nx := V_law_L2_1 E K } ρ := by
  delta V_law_L2_0 V_law_L2_1
  exact seq_w _ _
@[reducible] def T_law_B3_11 : DS :=
    (sFgt [0, 6, 8, 9, 10, 11, 13, 15, 16] (sFirst (xMeth "KeptClock" "hear" 5 W_KeptClock_hear (aCons (dBlt fList (aCons (dVar 14) aNil)) (aCons (dVar 12) aNil))) (sIfNotX W_u_law_is (aCons (dVar 18) aNil) (bT (dOp oNe (dVar 14) (dVar 17))))))
@[irreducible] def V_law_B3_11 : DS := T_law_B3_11
theorem V_law_B3_11_w {E : EK} {K : DE} {ρ : DL.Env} : V_law_B3_11 E K ρ ↔ (sFgt [0, 6, 8, 9, 10, 11, 13, 15, 16] (sFirst (xMeth "KeptClock" "hear" 5 W_KeptClock_hear (aCons (dBlt fList (aCons (dVar 14) aNil)) (aCons (dVar 12) aNil))) (sIfNotX W_u_law_is (aCons (dVar 18) aNil) (bT (dOp oNe (dVar 14) (dVar 17)))))) E K ρ := by
  delta V_law_B3_11
  exact Iff.rfl
@[reducible] def T_law_B3_10 : DS :=
    (sSeq (sIf (bTruth (dVar 18)) (sSet 4 (dLst (aCons (dBlt fMax (aCons (dOp oIx (dVar 4) (dC (.int 0))) (aCons (dOp oIx (dVar 16) (dC (.int 0))) aNil))) (aCons (dBlt fMin (aCons (dOp oIx (dVar 4) (dC (.int 1))) (aCons (dOp oIx (dVar 16) (dC (.int 1))) aNil))) aNil)))) sNext)
    T_law_B3_11)
@[irreducible] def V_law_B3_10 : DS := T_law_B3_10
theorem V_law_B3_10_w {E : EK} {K : DE} {ρ : DL.Env} : V_law_B3_10 E K ρ ↔ (sIf (bTruth (dVar 18)) (sSet 4 (dLst (aCons (dBlt fMax (aCons (dOp oIx (dVar 4) (dC (.int 0))) (aCons (dOp oIx (dVar 16) (dC (.int 0))) aNil))) (aCons (dBlt fMin (aCons (dOp oIx (dVar 4) (dC (.int 1))) (aCons (dOp oIx (dVar 16) (dC (.int 1))) aNil))) aNil)))) sNext) E { K with nx := V_law_B3_11 E K } ρ := by
  delta V_law_B3_10 V_law_B3_11
  exact seq_w _ _
@[reducible] def T_law_B3_9 : DS :=
    (sSeq (sSet 18 (dAndV (dOp oIsNot (dVar 16) (dC .non)) (dAndV (dOp oLe (dOp oIx (dVar 16) (dC (.int 0))) (dOp oIx (dVar 4) (dC (.int 1)))) (dOp oLe (dOp oIx (dVar 4) (dC (.int 0))) (dOp oIx (dVar 16) (dC (.int 1)))))))
    T_law_B3_10)
@[irreducible] def V_law_B3_9 : DS := T_law_B3_9
theorem V_law_B3_9_w {E : EK} {K : DE} {ρ : DL.Env} : V_law_B3_9 E K ρ ↔ (sSet 18 (dAndV (dOp oIsNot (dVar 16) (dC .non)) (dAndV (dOp oLe (dOp oIx (dVar 16) (dC (.int 0))) (dOp oIx (dVar 4) (dC (.int 1)))) (dOp oLe (dOp oIx (dVar 4) (dC (.int 0))) (dOp oIx (dVar 16) (dC (.int 1))))))) E { K with nx := V_law_B3_10 E K } ρ := by
  delta V_law_B3_9 V_law_B3_10
  exact seq_w _ _
@[reducible] def T_law_B3_8 : DS :=
    (sSeq (sIf (bAnd (bTruth (dVar 7)) (bOr (bT (dOp oIs (dVar 16) (dC .non))) (bNot (bT (dChain oLe oLe (dOp oIx (dVar 16) (dC (.int 0))) (dVar 2) (dOp oIx (dVar 16) (dC (.int 1)))))))) (sRet (dC (.bl false))) sNext)
    T_law_B3_9)
@[irreducible] def V_law_B3_8 : DS := T_law_B3_8
theorem V_law_B3_8_w {E : EK} {K : DE} {ρ : DL.Env} : V_law_B3_8 E K ρ ↔ (sIf (bAnd (bTruth (dVar 7)) (bOr (bT (dOp oIs (dVar 16) (dC .non))) (bNot (bT (dChain oLe oLe (dOp oIx (dVar 16) (dC (.int 0))) (dVar 2) (dOp oIx (dVar 16) (dC (.int 1)))))))) (sRet (dC (.bl false))) sNext) E { K with nx := V_law_B3_9 E K } ρ := by
  delta V_law_B3_8 V_law_B3_9
  exact seq_w _ _
@[reducible] def T_law_B3_7 : DS :=
    (sSeq (sIf (bOr (bT (dOp oNe (dCall W_agreement (aCons (dBlt fList (aCons (dVar 14) aNil)) (aCons (dVar 12) aNil))) (dVar 16))) (bT (dOp oNe (dVar 14) (dVar 17)))) (sRet (dC (.bl false))) sNext)
    T_law_B3_8)
@[irreducible] def V_law_B3_7 : DS := T_law_B3_7
theorem V_law_B3_7_w {E : EK} {K : DE} {ρ : DL.Env} : V_law_B3_7 E K ρ ↔ (sIf (bOr (bT (dOp oNe (dCall W_agreement (aCons (dBlt fList (aCons (dVar 14) aNil)) (aCons (dVar 12) aNil))) (dVar 16))) (bT (dOp oNe (dVar 14) (dVar 17)))) (sRet (dC (.bl false))) sNext) E { K with nx := V_law_B3_8 E K } ρ := by
  delta V_law_B3_7 V_law_B3_8
  exact seq_w _ _
@[reducible] def T_law_B3_6 : DS :=
    (sSeq (sSet 17 (dBlt fList (aCons (dVar 14) aNil)))
    T_law_B3_7)
@[irreducible] def V_law_B3_6 : DS := T_law_B3_6
theorem V_law_B3_6_w {E : EK} {K : DE} {ρ : DL.Env} : V_law_B3_6 E K ρ ↔ (sSet 17 (dBlt fList (aCons (dVar 14) aNil))) E { K with nx := V_law_B3_7 E K } ρ := by
  delta V_law_B3_6 V_law_B3_7
  exact seq_w _ _
@[reducible] def T_law_B3_5 : DS :=
    (sSeq (sFrz 14 (sSet 16 (dCall W_u_law_agreement (aCons (dVar 14) (aCons (dVar 12) aNil)))))
    T_law_B3_6)
@[irreducible] def V_law_B3_5 : DS := T_law_B3_5
theorem V_law_B3_5_w {E : EK} {K : DE} {ρ : DL.Env} : V_law_B3_5 E K ρ ↔ (sFrz 14 (sSet 16 (dCall W_u_law_agreement (aCons (dVar 14) (aCons (dVar 12) aNil))))) E { K with nx := V_law_B3_6 E K } ρ := by
  delta V_law_B3_5 V_law_B3_6
  exact seq_w _ _
@[reducible] def T_law_B3_4 : DS :=
    (sSeq (sFgt [0, 6, 8, 9, 10, 15, 16, 17, 18] (sFor (iRng1 (aCons (dVar 11) aNil)) (gName 15) T_law_L2_0))
    T_law_B3_5)
@[irreducible] def V_law_B3_4 : DS := T_law_B3_4
theorem V_law_B3_4_w {E : EK} {K : DE} {ρ : DL.Env} : V_law_B3_4 E K ρ ↔ (sFgt [0, 6, 8, 9, 10, 15, 16, 17, 18] (sFor (iRng1 (aCons (dVar 11) aNil)) (gName 15) V_law_L2_0)) E { K with nx := V_law_B3_5 E K } ρ := by
  delta V_law_B3_4 V_law_L2_0 V_law_B3_5
  exact seq_w _ _
@[reducible] def T_law_B3_3 : DS :=
    (sSeq (sOwn 14 (dLst aNil))
    T_law_B3_4)
@[irreducible] def V_law_B3_3 : DS := T_law_B3_3
theorem V_law_B3_3_w {E : EK} {K : DE} {ρ : DL.Env} : V_law_B3_3 E K ρ ↔ (sOwn 14 (dLst aNil)) E { K with nx := V_law_B3_4 E K } ρ := by
  delta V_law_B3_3 V_law_B3_4
  exact seq_w _ _
@[reducible] def T_law_B3_2 : DS :=
    (sSeq (sSet 13 (dIf (bTruth (dVar 7)) (dCall W_u_law_draw (aCons (dVar 1) (aCons (dOp oAdd (dVar 12) (dC (.int 1))) aNil))) (dCall W_u_law_draw (aCons (dVar 1) (aCons (dOp oAdd (dVar 11) (dC (.int 1))) aNil)))))
    T_law_B3_3)
@[irreducible] def V_law_B3_2 : DS := T_law_B3_2
theorem V_law_B3_2_w {E : EK} {K : DE} {ρ : DL.Env} : V_law_B3_2 E K ρ ↔ (sSet 13 (dIf (bTruth (dVar 7)) (dCall W_u_law_draw (aCons (dVar 1) (aCons (dOp oAdd (dVar 12) (dC (.int 1))) aNil))) (dCall W_u_law_draw (aCons (dVar 1) (aCons (dOp oAdd (dVar 11) (dC (.int 1))) aNil))))) E { K with nx := V_law_B3_3 E K } ρ := by
  delta V_law_B3_2 V_law_B3_3
  exact seq_w _ _
@[reducible] def T_law_B3_1 : DS :=
    (sSeq (sSet 12 (dCall W_u_law_draw (aCons (dVar 1) (aCons (dIf (bTruth (dVar 7)) (dVar 11) (dOp oAdd (dVar 11) (dC (.int 3)))) aNil))))
    T_law_B3_2)
@[irreducible] def V_law_B3_1 : DS := T_law_B3_1
theorem V_law_B3_1_w {E : EK} {K : DE} {ρ : DL.Env} : V_law_B3_1 E K ρ ↔ (sSet 12 (dCall W_u_law_draw (aCons (dVar 1) (aCons (dIf (bTruth (dVar 7)) (dVar 11) (dOp oAdd (dVar 11) (dC (.int 3)))) aNil)))) E { K with nx := V_law_B3_2 E K } ρ := by
  delta V_law_B3_1 V_law_B3_2
  exact seq_w _ _
@[reducible] def T_law_B3_0 : DS :=
    (sSeq (sSet 11 (dOp oAdd (dC (.int 1)) (dCall W_u_law_draw (aCons (dVar 1) (aCons (dC (.int 7)) aNil)))))
    T_law_B3_1)
@[irreducible] def V_law_B3_0 : DS := T_law_B3_0
theorem V_law_B3_0_w {E : EK} {K : DE} {ρ : DL.Env} : V_law_B3_0 E K ρ ↔ (sSet 11 (dOp oAdd (dC (.int 1)) (dCall W_u_law_draw (aCons (dVar 1) (aCons (dC (.int 7)) aNil))))) E { K with nx := V_law_B3_1 E K } ρ := by
  delta V_law_B3_0 V_law_B3_1
  exact seq_w _ _
@[reducible] def T_law_L4_2 : DS :=
    (sFgt [0, 6, 8, 9, 10, 11, 12, 13, 14, 15, 16, 17, 18] sNext)
@[irreducible] def V_law_L4_2 : DS := T_law_L4_2
theorem V_law_L4_2_w {E : EK} {K : DE} {ρ : DL.Env} : V_law_L4_2 E K ρ ↔ (sFgt [0, 6, 8, 9, 10, 11, 12, 13, 14, 15, 16, 17, 18] sNext) E K ρ := by
  delta V_law_L4_2
  exact Iff.rfl
@[reducible] def T_law_L4_1 : DS :=
    (sSeq (sFgt [0, 6, 8, 9, 10, 11, 12, 13, 14, 15, 16, 17, 18] (sIf (bOr (bBor (bT (dOp oNe (dMeth "KeptClock" "known" W_KeptClock_known (dVar 5) aNil) (dTup (aCons (dOp oIx (dVar 4) (dC (.int 0))) (aCons (dOp oIx (dVar 4) (dC (.int 1))) aNil)))))) (bAnd (bTruth (dVar 7)) (bNot (bT (dChain oLe oLe (dOp oIx (dVar 4) (dC (.int 0))) (dVar 2) (dOp oIx (dVar 4) (dC (.int 1)))))))) (sRet (dC (.bl false))) sNext))
    T_law_L4_2)
@[irreducible] def V_law_L4_1 : DS := T_law_L4_1
theorem V_law_L4_1_w {E : EK} {K : DE} {ρ : DL.Env} : V_law_L4_1 E K ρ ↔ (sFgt [0, 6, 8, 9, 10, 11, 12, 13, 14, 15, 16, 17, 18] (sIf (bOr (bBor (bT (dOp oNe (dMeth "KeptClock" "known" W_KeptClock_known (dVar 5) aNil) (dTup (aCons (dOp oIx (dVar 4) (dC (.int 0))) (aCons (dOp oIx (dVar 4) (dC (.int 1))) aNil)))))) (bAnd (bTruth (dVar 7)) (bNot (bT (dChain oLe oLe (dOp oIx (dVar 4) (dC (.int 0))) (dVar 2) (dOp oIx (dVar 4) (dC (.int 1)))))))) (sRet (dC (.bl false))) sNext)) E { K with nx := V_law_L4_2 E K } ρ := by
  delta V_law_L4_1 V_law_L4_2
  exact seq_w _ _
@[reducible] def T_law_L4_0 : DS :=
    (sSeq (sIf (bT (dOp oEq (dCall W_u_law_draw (aCons (dVar 1) (aCons (dC (.int 2)) aNil))) (dC (.int 0)))) T_law_B1_0 T_law_B3_0)
    T_law_L4_1)
@[irreducible] def V_law_L4_0 : DS := T_law_L4_0
theorem V_law_L4_0_w {E : EK} {K : DE} {ρ : DL.Env} : V_law_L4_0 E K ρ ↔ (sIf (bT (dOp oEq (dCall W_u_law_draw (aCons (dVar 1) (aCons (dC (.int 2)) aNil))) (dC (.int 0)))) V_law_B1_0 V_law_B3_0) E { K with nx := V_law_L4_1 E K } ρ := by
  delta V_law_L4_0 V_law_B1_0 V_law_B3_0 V_law_L4_1
  exact seq_w _ _
@[reducible] def T_law_9 : DS :=
    (sRet (dC (.bl true)))
@[irreducible] def V_law_9 : DS := T_law_9
theorem V_law_9_w {E : EK} {K : DE} {ρ : DL.Env} : V_law_9 E K ρ ↔ (sRet (dC (.bl true))) E K ρ := by
  delta V_law_9
  exact Iff.rfl
@[reducible] def T_law_8 : DS :=
    (sSeq (sFgt [0, 6, 8, 9, 10, 11, 12, 13, 14, 15, 16, 17, 18] (sFor (iRng1 (aCons (dOp oAdd (dC (.int 1)) (dCall W_u_law_draw (aCons (dVar 1) (aCons (dC (.int 14)) aNil)))) aNil)) (gName 8) T_law_L4_0))
    T_law_9)
@[irreducible] def V_law_8 : DS := T_law_8
theorem V_law_8_w {E : EK} {K : DE} {ρ : DL.Env} : V_law_8 E K ρ ↔ (sFgt [0, 6, 8, 9, 10, 11, 12, 13, 14, 15, 16, 17, 18] (sFor (iRng1 (aCons (dOp oAdd (dC (.int 1)) (dCall W_u_law_draw (aCons (dVar 1) (aCons (dC (.int 14)) aNil)))) aNil)) (gName 8) V_law_L4_0)) E { K with nx := V_law_9 E K } ρ := by
  delta V_law_8 V_law_L4_0 V_law_9
  exact seq_w _ _
@[reducible] def T_law_7 : DS :=
    (sSeq (sSet 7 (dOp oEq (dCall W_u_law_draw (aCons (dVar 1) (aCons (dC (.int 2)) aNil))) (dC (.int 0))))
    T_law_8)
@[irreducible] def V_law_7 : DS := T_law_7
theorem V_law_7_w {E : EK} {K : DE} {ρ : DL.Env} : V_law_7 E K ρ ↔ (sSet 7 (dOp oEq (dCall W_u_law_draw (aCons (dVar 1) (aCons (dC (.int 2)) aNil))) (dC (.int 0)))) E { K with nx := V_law_8 E K } ρ := by
  delta V_law_7 V_law_8
  exact seq_w _ _
@[reducible] def T_law_6 : DS :=
    (sSeq (sFirst (xMeth "KeptClock" "count" 6 W_KeptClock_count (aCons (dC (.int 7)) aNil)) sDrop)
    T_law_7)
@[irreducible] def V_law_6 : DS := T_law_6
theorem V_law_6_w {E : EK} {K : DE} {ρ : DL.Env} : V_law_6 E K ρ ↔ (sFirst (xMeth "KeptClock" "count" 6 W_KeptClock_count (aCons (dC (.int 7)) aNil)) sDrop) E { K with nx := V_law_7 E K } ρ := by
  delta V_law_6 V_law_7
  exact seq_w _ _
@[reducible] def T_law_5 : DS :=
    (sSeq (sOwn 6 (dMake W_KeptClock___init__ (aCons (dC (.int 5)) (aCons (dUn oNeg (dC (.int 9))) (aCons (dC (.int 9)) aNil)))))
    T_law_6)
@[irreducible] def V_law_5 : DS := T_law_5
theorem V_law_5_w {E : EK} {K : DE} {ρ : DL.Env} : V_law_5 E K ρ ↔ (sOwn 6 (dMake W_KeptClock___init__ (aCons (dC (.int 5)) (aCons (dUn oNeg (dC (.int 9))) (aCons (dC (.int 9)) aNil))))) E { K with nx := V_law_6 E K } ρ := by
  delta V_law_5 V_law_6
  exact seq_w _ _
@[reducible] def T_law_4 : DS :=
    (sSeq (sOwn 5 (dMake W_KeptClock___init__ (aCons (dVar 3) (aCons (dOp oIx (dVar 4) (dC (.int 0))) (aCons (dOp oIx (dVar 4) (dC (.int 1))) aNil)))))
    T_law_5)
@[irreducible] def V_law_4 : DS := T_law_4
theorem V_law_4_w {E : EK} {K : DE} {ρ : DL.Env} : V_law_4 E K ρ ↔ (sOwn 5 (dMake W_KeptClock___init__ (aCons (dVar 3) (aCons (dOp oIx (dVar 4) (dC (.int 0))) (aCons (dOp oIx (dVar 4) (dC (.int 1))) aNil))))) E { K with nx := V_law_5 E K } ρ := by
  delta V_law_4 V_law_5
  exact seq_w _ _
@[reducible] def T_law_3 : DS :=
    (sSeq (sSet 4 (dLst (aCons (dOp oSub (dVar 2) (dCall W_u_law_draw (aCons (dVar 1) (aCons (dC (.int 30)) aNil)))) (aCons (dOp oAdd (dVar 2) (dCall W_u_law_draw (aCons (dVar 1) (aCons (dC (.int 30)) aNil)))) aNil))))
    T_law_4)
@[irreducible] def V_law_3 : DS := T_law_3
theorem V_law_3_w {E : EK} {K : DE} {ρ : DL.Env} : V_law_3 E K ρ ↔ (sSet 4 (dLst (aCons (dOp oSub (dVar 2) (dCall W_u_law_draw (aCons (dVar 1) (aCons (dC (.int 30)) aNil)))) (aCons (dOp oAdd (dVar 2) (dCall W_u_law_draw (aCons (dVar 1) (aCons (dC (.int 30)) aNil)))) aNil)))) E { K with nx := V_law_4 E K } ρ := by
  delta V_law_3 V_law_4
  exact seq_w _ _
@[reducible] def T_law_2 : DS :=
    (sSeq (sSet 3 (dCall W_u_law_pick (aCons (dVar 1) (aCons (dLst (aCons (dC (.int 0)) (aCons (dC (.int 1)) (aCons (dC (.int 1000000)) (aCons (dCall W_u_law_draw (aCons (dVar 1) (aCons (dC (.int 1000)) aNil))) (aCons (dCall W_u_law_draw (aCons (dVar 1) (aCons (dC (.int 100000)) aNil))) aNil)))))) aNil))))
    T_law_3)
@[irreducible] def V_law_2 : DS := T_law_2
theorem V_law_2_w {E : EK} {K : DE} {ρ : DL.Env} : V_law_2 E K ρ ↔ (sSet 3 (dCall W_u_law_pick (aCons (dVar 1) (aCons (dLst (aCons (dC (.int 0)) (aCons (dC (.int 1)) (aCons (dC (.int 1000000)) (aCons (dCall W_u_law_draw (aCons (dVar 1) (aCons (dC (.int 1000)) aNil))) (aCons (dCall W_u_law_draw (aCons (dVar 1) (aCons (dC (.int 100000)) aNil))) aNil)))))) aNil)))) E { K with nx := V_law_3 E K } ρ := by
  delta V_law_2 V_law_3
  exact seq_w _ _
@[reducible] def T_law_1 : DS :=
    (sSeq (sSet 2 (dOp oSub (dCall W_u_law_draw (aCons (dVar 1) (aCons (dC (.int 2001)) aNil))) (dC (.int 1000))))
    T_law_2)
@[irreducible] def V_law_1 : DS := T_law_1
theorem V_law_1_w {E : EK} {K : DE} {ρ : DL.Env} : V_law_1 E K ρ ↔ (sSet 2 (dOp oSub (dCall W_u_law_draw (aCons (dVar 1) (aCons (dC (.int 2001)) aNil))) (dC (.int 1000)))) E { K with nx := V_law_2 E K } ρ := by
  delta V_law_1 V_law_2
  exact seq_w _ _
@[reducible] def T_law_0 : DS :=
    (sSeq (sSet 1 (dCall W_u_law_start (aCons (dVar 0) aNil)))
    T_law_1)
@[irreducible] def V_law_0 : DS := T_law_0
theorem V_law_0_w {E : EK} {K : DE} {ρ : DL.Env} : V_law_0 E K ρ ↔ (sSet 1 (dCall W_u_law_start (aCons (dVar 0) aNil))) E { K with nx := V_law_1 E K } ρ := by
  delta V_law_0 V_law_1
  exact seq_w _ _
@[reducible] def T_law : DS := T_law_0
def W_law : DF := defT 1 19 T_law
theorem W_law_w {ds : List D} {Q : DK} {E : Err → Prop} : W_law ds Q E ↔ ds.length = 1 ∧ V_law_0 (fun e _ => E e) { nx := fun _ => Q .non, rt := Q } (envOf 19 ds) := by
  delta V_law_0
  exact Iff.rfl
end K30

/-! DVcM: rows of DCoreM for simp. -/
namespace DL
open PySem
@[simp] theorem w_mt {T : String} {f : List D → DK → Prop} {p : DT} {q : DA} {E : EK} {ρ : DL.Env} {Q : DK} : dMt T f p q E ρ Q ↔ p E ρ fun x => tyD T x ∧ q E ρ fun xs => f (x :: xs) Q := ⟨fun h => h, fun h => h⟩
@[simp] theorem tyD_s {T : String} {z : Str} : tyD T (.str z) ↔ T = "str" := ⟨fun h => h, fun h => h⟩
@[simp] theorem tyD_l {T : String} {z : List D} : tyD T (.lst z) ↔ T = "list" := ⟨fun h => h, fun h => h⟩
theorem strsOf_map (ys : List Str) : strsOf (ys.map D.str) = some ys := by
  induction ys with
  | nil => rfl
  | cons y ys ih =>
    show (strsOf (ys.map D.str)).map (y :: ·) = _
    rw [ih]
    rfl
theorem fIndex_ints {ns : List Int} {k : Int} {Q : DK} (j : Nat) (h : ns[j]? = some k) (h2 : ∀ m, m < j → ns[m]? ≠ some k) (q : Q (.int (j : Nat))) : fIndex [.lst (ns.map D.int), .int k] Q := by
  refine ⟨rfl, ?_, j, ⟨.int k, by rw [List.getElem?_map, h]; rfl, by simp⟩, fun m z hm hz => ?_, q⟩
  · rw [List.all_map]
    exact List.all_eq_true.mpr fun _ _ => rfl
  · rw [List.getElem?_map] at hz
    obtain ⟨y, hy, rfl⟩ := Option.map_eq_some_iff.mp hz
    have : y ≠ k := fun z => h2 m hm (z ▸ hy)
    simp [this]
@[simp] theorem w_s2 {g : Str → Str → D} {a b : Str} {Q : DK} : fS2 g [.str a, .str b] Q ↔ Q (g a b) := ⟨fun h => h, fun h => h⟩
@[simp] theorem w_s1 {C : Str → Prop} {g : Str → D} {a : Str} {Q : DK} : fS1 C g [.str a] Q ↔ C a ∧ Q (g a) := ⟨fun h => h, fun h => h⟩
@[simp] theorem w_split {a b : Str} {Q : DK} : fSplit [.str a, .str b] Q ↔ (b.length == 0) = false ∧ a.length + 2 ≤ lineMax ∧ Q (.lst ((Txt.split a b).map D.str)) := ⟨fun h => h, fun h => h⟩
@[simp] theorem w_divN {i j : Int} {Q : DK} : oDivN (.int i) (.int j) Q ↔ (j ≠ 0 ∧ j.natAbs.log2 < 9000) ∧ Q (.int (i.fdiv j)) := ⟨fun h => h, fun h => h⟩
@[simp] theorem up_draws {ns : List Int} {c : Int} {Q : DK} {E : Err → Prop} : up wDraws [.scr ns, .int c] Q E ↔ (ns.length ≤ 63 ∧ 0 ≤ c ∧ c ≤ 1000) ∧ Q .st :=
  ⟨fun ⟨_, _, h, a, _⟩ => ⟨h.1, a _ h.2⟩, fun h => ⟨Q, E, h, fun _ z => z, fun _ z => z⟩⟩
@[simp] theorem w_minD {p q : DA} {E : EK} {ρ : DL.Env} {Q : DK} : dMinD p q E ρ Q ↔ p E ρ fun xs => q E ρ fun zs => fMinD xs zs Q := ⟨fun h => h, fun h => h⟩
theorem fMinD_ints {ns : List Int} {d : D} {Q : DK} (h0 : ns = [] → Q d) (h1 : ns ≠ [] → ∀ m ∈ ns, (∀ y ∈ ns, m ≤ y) → Q (.int m)) : fMinD [.lst (ns.map D.int)] [d] Q := by
  simp only [fMinD, intsOf_map]
  exact ⟨h0, h1⟩
@[simp] theorem w_revX {t : DT} {E : EK} {ρ : DL.Env} {Q : DK} : dRev t E ρ Q ↔ t E ρ fun x => gRevX x Q := ⟨fun h => h, fun h => h⟩
@[simp] theorem w_revXL {l : List D} {Q : DK} : gRevX (.lst l) Q ↔ Q (.lst l.reverse) := ⟨fun h => h, fun h => h⟩
@[simp] theorem w_revXT {l : List D} {Q : DK} : gRevX (.tup l) Q ↔ Q (.tup l.reverse) := ⟨fun h => h, fun h => h⟩
@[simp] theorem w_dc {it : DI} {g : DG} {t : DB} {k e : DT} {vs : List Nat} {E : EK} {ρ : DL.Env} {Q : DK} : dDc it g t k e vs E ρ Q ↔ it E ρ fun xs => dcL g t k e (noOwn (wipeE ρ vs)) xs [] fun r => Q (.dk r) := ⟨fun h => h, fun h => h⟩
@[simp] theorem w_mulS {a : Str} {k : Int} {Q : DK} : oMulS (.str a) (.int k) Q ↔ (-1000 ≤ k ∧ k ≤ 10000 ∧ a.length ≤ 1000) ∧ Q (.str (repS a k)) := ⟨fun h => h, fun h => h⟩
@[simp] theorem w_fmt {p : DT} {E : EK} {ρ : DL.Env} {Q : DK} : dFmt p E ρ Q ↔ p E ρ fun x => gFmt x Q := ⟨fun h => h, fun h => h⟩
@[simp] theorem w_fmtS {y : Str} {Q : DK} : gFmt (.str y) Q ↔ y.length ≤ lineMax ∧ Q (.str y) := ⟨fun h => h, fun h => h⟩
@[simp] theorem w_fmtI {i : Int} {Q : DK} : gFmt (.int i) Q ↔ i.natAbs.log2 < 1920 ∧ Q (.str (toString i)) := ⟨fun h => h, fun h => h⟩
@[simp] theorem w_fmt2 {p : DT} {E : EK} {ρ : DL.Env} {Q : DK} : dFmt2 p E ρ Q ↔ p E ρ fun x => gFmt2 x Q := ⟨fun h => h, fun h => h⟩
@[simp] theorem w_fmt2I {i : Int} {Q : DK} : gFmt2 (.int i) Q ↔ (0 ≤ i ∧ i < 100) ∧ Q (.str (two i)) := ⟨fun h => h, fun h => h⟩
@[simp] theorem w_gStr {y : Str} {Q : Str → Prop} : gStr (.str y) Q ↔ Q y := ⟨fun h => h, fun h => h⟩
@[simp] theorem w_joinF {ts : List DT} {E : EK} {ρ : DL.Env} {Q : DK} : dJoin ts E ρ Q ↔ dJs ts Str.empty E ρ fun y => Q (.str y) := ⟨fun h => h, fun h => h⟩
@[simp] theorem w_jsN {acc : Str} {E : EK} {ρ : DL.Env} {Q : Str → Prop} : dJs [] acc E ρ Q ↔ Q acc := ⟨fun h => h, fun h => h⟩
@[simp] theorem w_jsC {t : DT} {ts : List DT} {acc : Str} {E : EK} {ρ : DL.Env} {Q : Str → Prop} : dJs (t :: ts) acc E ρ Q ↔ t E ρ fun x => gStr x fun y => (acc ++ y).length ≤ lineMax ∧ dJs ts (acc ++ y) E ρ Q := ⟨fun h => h, fun h => h⟩
theorem w_join {a : Str} {ys : List Str} {Q : DK} : fJoin [.str a, .lst (ys.map D.str)] Q ↔ (ys.map (·.length)).sum + ys.length * a.length ≤ 16777216 ∧ Q (.str (Txt.join a ys)) := by
  simp only [fJoin, strsOf_map]
@[simp] theorem w_forQ {i : Nat} {js : List Nat} {g : DG} {c : DB} {r : DT} {E : EK} {K : DE} {ρ : DL.Env} : sForQ i js g c r E K ρ ↔ gOL ρ[i]? fun xs => i ∉ js ∧ forQ g c r K (bor (fgt js ρ)) (K.nx (fgt js ρ)) xs := ⟨fun h => h, fun h => h⟩
/-- each one's test, one after the other -/
theorem forQ_list {α : Type} (en : α → D) {g : DG} {c : DB} {r : DT} {K : DE} {ρ : DL.Env} {N : Prop} : ∀ {xs : List α} (_ : ∀ x ∈ xs, ∀ nx : Prop, nx → g (en x) ρ fun ρ' => c noE ρ' fun k => if k = true then r noE ρ' (fun d => isFlat d = true ∧ K.rt d) else nx) (_ : N), forQ g c r K ρ N (xs.map en)
  | [], _, n => n
  | x :: xs, h, n => h x List.mem_cons_self _ (forQ_list en (fun y hy => h y (List.mem_cons_of_mem _ hy)) n)
@[simp] theorem w_kget2 {kvs : List (Str × Str)} {k z : DT} {E : EK} {ρ : DL.Env} {Q : DK} : dKGet2 kvs k z E ρ Q ↔ k E ρ fun x => z E ρ fun y => kgetD kvs x y Q := ⟨fun h => h, fun h => h⟩
theorem w_kgetS {kvs : List (Str × Str)} {k : Str} {z : D} {Q : DK} : kgetD kvs (.str k) z Q ↔ Q (((kvs.lookup k).map D.str).getD z) := by
  show Q _ ↔ Q _
  cases e : kvs.lookup k with
  | none => exact Iff.rfl
  | some v => exact Iff.rfl
@[simp] theorem w_izipT {a : DA} {E : EK} {ρ : DL.Env} {Q : List D → Prop} : iZipT a E ρ Q ↔ a E ρ fun xs => gZipT xs Q := ⟨fun h => h, fun h => h⟩
@[simp] theorem w_gzipT {l : List D} {z : Str} {Q : List D → Prop} : gZipT [.tup l, .str z] Q ↔ z.cps.all (· < 128) = true ∧ Q (zipD l (z.cps.toList.map fun c => .str ⟨#[c]⟩)) := ⟨fun h => h, fun h => h⟩
theorem w_lenStr {z : Str} {Q : DK} : fLen [.str z] Q ↔ z.length ≤ lineMax ∧ Q (.int z.length) := ⟨fun h => h, fun h => h⟩
theorem w_ixStr {z : Str} {i : Int} {Q : DK} : oIx (.str z) (.int i) Q ↔ z.length ≤ lineMax ∧ oGet ((atI z.cps.toList i).map fun c => .str ⟨#[c]⟩) Q := ⟨fun h => h, fun h => h⟩
theorem w_cutStr {z : Str} {lo hi : Option Int} {Q : DK} : oCut (.str z) lo hi Q ↔ z.length ≤ lineMax ∧ Q (.str ⟨(cutL z.cps.toList lo hi).toArray⟩) := ⟨fun h => h, fun h => h⟩
@[simp] theorem w_star {a : DT} {r : DA} {E : EK} {ρ : DL.Env} {Q : List D → Prop} : aStar a r E ρ Q ↔ a E ρ fun x => gStar x fun xs => r E ρ fun ys => Q (xs ++ ys) := ⟨fun h => h, fun h => h⟩
@[simp] theorem gStar_l {xs : List D} {Q : List D → Prop} : gStar (.lst xs) Q ↔ Q xs := ⟨fun h => h, fun h => h⟩
@[simp] theorem gStar_t {xs : List D} {Q : List D → Prop} : gStar (.tup xs) Q ↔ Q xs := ⟨fun h => h, fun h => h⟩
@[simp] theorem w_tryE {m : String} {os : List String} {i : Nat} {R : Err → DK → Prop} {b : DS} {E : EK} {K : DE} {ρ : DL.Env} : sTryE m os i R b E K ρ ↔ b (fun e ρ' => if e.cls = m then i < ρ'.length ∧ R e K.rt else e.cls ∈ os ∧ E e ρ') K ρ := ⟨fun h => h, fun h => h⟩
@[simp] theorem w_xFld {f : Str} {e : Err} {Q : DK} : xFld f e Q ↔ oGet (e.fs.lookup f) Q := ⟨fun h => h, fun h => h⟩
@[simp] theorem w_xC {d : D} {e : Err} {Q : DK} : xC d e Q ↔ Q d := ⟨fun h => h, fun h => h⟩
@[simp] theorem w_xNil {e : Err} {Q : List D → Prop} : xNil e Q ↔ Q [] := ⟨fun h => h, fun h => h⟩
@[simp] theorem w_xCons {a : Err → DK → Prop} {r : Err → (List D → Prop) → Prop} {e : Err} {Q : List D → Prop} : xCons a r e Q ↔ a e fun x => r e fun xs => Q (x :: xs) := ⟨fun h => h, fun h => h⟩
@[simp] theorem w_xTup {a : Err → (List D → Prop) → Prop} {e : Err} {Q : DK} : xTup a e Q ↔ a e fun xs => xs.length ≤ lineMax ∧ Q (.tup xs) := ⟨fun h => h, fun h => h⟩
@[simp] theorem w_code {os : List String} {hs : List (String × (Err → DK → Prop))} {z : Str} {t : DT} {E : EK} {ρ : DL.Env} {Q : DK} : dCode os hs z t E ρ Q ↔ t (fun e _ => pick os hs e Q) (noOwn ρ) fun _ => Q (.str z) := ⟨fun h => h, fun h => h⟩
@[simp] theorem w_pickN {os : List String} {e : Err} {Q : DK} : pick os [] e Q ↔ False := ⟨fun h => h, fun h => h⟩
@[simp] theorem w_pickC {os : List String} {m : String} {R : Err → DK → Prop} {r : List (String × (Err → DK → Prop))} {e : Err} {Q : DK} : pick os ((m, R) :: r) e Q ↔ if e.cls = m then R e Q else e.cls ∈ os ∧ pick os r e Q := ⟨fun h => h, fun h => h⟩
@[simp] theorem w_chain3 {f g h : D → D → DK → Prop} {a b c d : DT} {Q : DK} {E : EK} {ρ : DL.Env} : dChain3 f g h a b c d E ρ Q ↔ a E ρ fun x => b E ρ fun y => f x y fun z => gB z fun k => if k = true then c E ρ fun u => g y u fun z => gB z fun k => if k = true then d E ρ fun v => h u v Q else Q (.bl false) else Q (.bl false) := ⟨fun h => h, fun h => h⟩
@[simp] theorem w_parO {i j : Nat} {a b : DT} {E : EK} {K : DE} {ρ : DL.Env} : sParO i j a b E K ρ ↔ a E ρ fun x => b E ρ fun y => K.nx ((ρ.set i (.v x)).set j (.o y)) := ⟨fun h => h, fun h => h⟩
@[simp] theorem w_tupRg {t : EK → DL.Env → (Int → Int → Prop) → Prop} {E : EK} {ρ : DL.Env} {Q : DK} : dTupRg t E ρ Q ↔ t E ρ fun i j => rgOk i j ∧ Q (.tup (rng i (j - i).toNat)) := ⟨fun h => h, fun h => h⟩
@[simp] theorem w_lstRg {t : EK → DL.Env → (Int → Int → Prop) → Prop} {E : EK} {ρ : DL.Env} {Q : DK} : dLstRg t E ρ Q ↔ t E ρ fun i j => rgOk i j ∧ Q (.lst (rng i (j - i).toNat)) := ⟨fun h => h, fun h => h⟩
@[simp] theorem w_rgB1 {a : DT} {E : EK} {ρ : DL.Env} {Q : Int → Int → Prop} : rgB1 a E ρ Q ↔ a E ρ fun x => gI x fun n => Q 0 n := by
  constructor
  · intro h
    exact h
  · intro h
    exact h
@[simp] theorem w_rgB2 {a b : DT} {E : EK} {ρ : DL.Env} {Q : Int → Int → Prop} : rgB2 a b E ρ Q ↔ a E ρ fun x => b E ρ fun y => gI2 x y Q := ⟨fun h => h, fun h => h⟩
@[simp] theorem w_gI2 {i j : Int} {Q : Int → Int → Prop} : gI2 (.int i) (.int j) Q ↔ Q i j := ⟨fun h => h, fun h => h⟩
theorem rg_ok' {i j : Int} (h : -1000000 ≤ i ∧ i ≤ 1000000 ∧ -1000000 ≤ j ∧ j ≤ 1000000) : rgOk i j := ⟨by omega, by omega, by omega, by omega, by omega⟩
end DL

namespace DL
open PySem
@[simp] theorem w_parP {i j : Nat} {a b : DT} {E : EK} {K : DE} {ρ : DL.Env} : sParP i j b a E K ρ ↔ b E ρ fun y => a E ρ fun x => K.nx ((ρ.set i (.o y)).set j (.v x)) := ⟨fun h => h, fun h => h⟩
end DL

namespace DL
open PySem
@[simp] theorem w_borL {a : DT} {E : EK} {ρ : DL.Env} {Q : DK} : dBorL a E ρ Q ↔ a noE (bor ρ) fun d => flatL d = true ∧ Q d := ⟨fun h => h, fun h => h⟩
@[simp] theorem w_sortRg {i : Nat} {t : EK → DL.Env → (Int → Int → Prop) → Prop} {E : EK} {ρ : DL.Env} {Q : DK} : dSortRg i t E ρ Q ↔ t E ρ fun a b => a = 0 ∧ ∃ ps : List (Int × Int), ρ[i]? = some (.v (.lst (ps.map pairD))) ∧ b = ps.length ∧ ps.length ≤ 16777216 ∧ ∀ ys : List Nat, ys.Perm (List.range ps.length) → Q (.lst (ys.map fun j : Nat => D.int (j : Int))) := ⟨fun h => h, fun h => h⟩
end DL

namespace DL
open PySem
@[simp] theorem w_codeV {os : List String} {hs : List (String × (Err → DK → Prop))} {z : D} {t : DT} {E : EK} {ρ : DL.Env} {Q : DK} : dCodeV os hs z t E ρ Q ↔ t (fun e _ => pick os hs e Q) (noOwn ρ) fun _ => Q z := ⟨fun h => h, fun h => h⟩
@[simp] theorem w_forLam0 {i : Nat} {E : EK} {K : DE} {ρ : DL.Env} : sForLam i [] E K ρ ↔ K.nx ρ := ⟨fun h => h, fun h => h⟩
@[simp] theorem w_forLam {i : Nat} {b : DS} {r : List DS} {E : EK} {K : DE} {ρ : DL.Env} : sForLam i (b :: r) E K ρ ↔ i < ρ.length ∧ b E { nx := sForLam i r E K, ct := sForLam i r E K, bk := K.nx, rt := K.rt, ro := K.ro } (ρ.set i .no) := ⟨fun h => h, fun h => h⟩
@[simp] theorem w_lc2 {it it1 : DI} {g g1 : DG} {t t1 : DB} {e : DT} {vs vs1 : List Nat} {Q : DK} {E : EK} {ρ : DL.Env} : dLc2 it g t it1 g1 t1 e vs vs1 E ρ Q ↔ it E ρ fun xs => lc2L g t it1 g1 t1 e vs1 (noOwn (wipeE ρ vs)) xs [] fun r => Q (.lst r) := ⟨fun h => h, fun h => h⟩
theorem lc2_nil {it1 : DI} {g g1 : DG} {t t1 : DB} {e : DT} {vs1 : List Nat} {ρ : DL.Env} {acc : List D} {Q : List D → Prop} : lc2L g t it1 g1 t1 e vs1 ρ [] acc Q ↔ Q acc := ⟨fun h => h, fun h => h⟩
theorem lc2_cons {it1 : DI} {g g1 : DG} {t t1 : DB} {e : DT} {vs1 : List Nat} {ρ : DL.Env} {x : D} {r acc : List D} {Q : List D → Prop} : lc2L g t it1 g1 t1 e vs1 ρ (x :: r) acc Q ↔ g x ρ fun ρ' => t noE ρ' fun k => if k = true then it1 noE ρ' fun ys => lcL g1 t1 e (wipeE ρ' vs1) ys acc fun a => lc2L g t it1 g1 t1 e vs1 ρ r a Q else lc2L g t it1 g1 t1 e vs1 ρ r acc Q := ⟨fun h => h, fun h => h⟩
end DL

namespace DL
open PySem
@[simp] theorem w_intS {a : Str} {Q : DK} : fIntS [.str a] Q ↔ ∃ n, intText? a = some n ∧ a.length ≤ 640 ∧ Q (.int n) := ⟨fun h => h, fun h => h⟩
end DL

namespace DL
open PySem
@[simp] theorem gOT_o {kvs : List (List Key × D)} {Q : List (List Key × D) → Prop} : gOT (some (.o (.dt kvs))) Q ↔ Q kvs := ⟨fun h => h, fun h => h⟩
@[simp] theorem gDt_d {kvs : List (List Key × D)} {Q : List (List Key × D) → Prop} : gDt (.dt kvs) Q ↔ Q kvs := ⟨fun h => h, fun h => h⟩
@[simp] theorem gKs_2 {a b : Int} {Q : List Key → Prop} : gKs [.int a, .int b] Q ↔ Q [.inl a, .inl b] := ⟨fun h => h, fun h => h⟩
@[simp] theorem w_newT {E : EK} {ρ : DL.Env} {Q : DK} : dNewT E ρ Q ↔ Q (.dt []) := ⟨fun h => h, fun h => h⟩
@[simp] theorem w_putT {i : Nat} {a : DA} {b : DT} {E : EK} {K : DE} {ρ : DL.Env} : sPutT i a b E K ρ ↔ gOT ρ[i]? fun kvs => b E ρ fun v => a E ρ fun ds => ds.length ≤ lineMax ∧ gKs ds fun ks => kvs.length < 1000000 ∧ K.nx (ρ.set i (.o (.dt (putD kvs ks v)))) := ⟨fun h => h, fun h => h⟩
@[simp] theorem w_lenDt {kvs : List (List Key × D)} {Q : DK} : fLenT [.dt kvs] Q ↔ kvs.length < 1000000 ∧ Q (.int kvs.length) := ⟨fun h => h, fun h => h⟩
@[simp] theorem w_dcT {it : DI} {g : DG} {t : DB} {k : DA} {e : DT} {vs : List Nat} {E : EK} {ρ : DL.Env} {Q : DK} : dDcT it g t k e vs E ρ Q ↔ it E ρ fun xs => dcTL g t k e (noOwn (wipeE ρ vs)) xs [] fun r => Q (.dt r) := ⟨fun h => h, fun h => h⟩
@[simp] theorem w_updT {i : Nat} {t : DT} {E : EK} {K : DE} {ρ : DL.Env} : sUpdT i t E K ρ ↔ gOT ρ[i]? fun kvs => t E ρ fun d => gDt d fun more => (kvs ≠ [] ∨ ((∀ p ∈ more, near20 p.1 = true) ∧ (more.map (·.1)).Nodup)) ∧ kvs.length + more.length < 1000000 ∧ K.nx (ρ.set i (.o (.dt (mergeDT kvs more)))) := ⟨fun h => h, fun h => h⟩
@[simp] theorem w_isB {a b : Bool} {Q : DK} : oIsB (.bl a) (.bl b) Q ↔ Q (.bl (decide (a = b))) := ⟨fun h => h, fun h => h⟩
@[simp] theorem w_notB {a b : Bool} {Q : DK} : oNotB (.bl a) (.bl b) Q ↔ Q (.bl (!decide (a = b))) := ⟨fun h => h, fun h => h⟩
@[simp] theorem w_minT2 {i j : Int} {Q : DK} : fMinT [.tup [.int i, .int j]] Q ↔ Q (.int (if j < i then j else i)) := by
  show ([i, j] ≠ [] ∧ ∀ m, m ∈ [i, j] → (∀ y ∈ [i, j], m ≤ y) → Q (.int m)) ↔ _
  constructor
  · intro h
    exact h.2 _ (by split <;> simp) (by intro y hy; have : y = i ∨ y = j := by simpa using hy
                                        split <;> omega)
  · intro h
    refine ⟨by simp, fun m hm hl => ?_⟩
    have h1 := hl i (by simp)
    have h2 := hl j (by simp)
    have h3 : m = i ∨ m = j := by simpa using hm
    rw [show m = if j < i then j else i by split <;> omega]
    exact h
@[simp] theorem w_maxT2 {i j : Int} {Q : DK} : fMaxT [.tup [.int i, .int j]] Q ↔ Q (.int (if j > i then j else i)) := by
  show ([i, j] ≠ [] ∧ ∀ m, m ∈ [i, j] → (∀ y ∈ [i, j], y ≤ m) → Q (.int m)) ↔ _
  constructor
  · intro h
    exact h.2 _ (by split <;> simp) (by intro y hy; have : y = i ∨ y = j := by simpa using hy
                                        split <;> omega)
  · intro h
    refine ⟨by simp, fun m hm hl => ?_⟩
    have h1 := hl i (by simp)
    have h2 := hl j (by simp)
    have h3 : m = i ∨ m = j := by simpa using hm
    rw [show m = if j > i then j else i by split <;> omega]
    exact h
end DL

namespace DL
open PySem
@[simp] theorem gIO_o {c : String} {fs : List (Str × D)} {Q : List (Str × D) → Prop} : gIO c (some (.o (.ins c fs))) Q ↔ Q fs := ⟨fun h => h.2, fun h => ⟨rfl, h⟩⟩
@[simp] theorem w_xmeth {c : String} {m : Str} {i : Nat} {W : DF} {a : DA} {E : EK} {ρ : DL.Env} {Q : D → DL.Env → Prop} : xMeth c m i W a E ρ Q ↔ gIO c ρ[i]? fun fs => noFld m fs ∧ a E ρ fun xs => up W (.ins c fs :: xs) (fun r => gPair r fun d o => Q d (ρ.set i (.o o))) fun _ => False := ⟨fun h => h, fun h => h⟩
@[simp] theorem w_first {t : DX} {s : DT → DS} {E : EK} {K : DE} {ρ : DL.Env} : sFirst t s E K ρ ↔ t E ρ fun d ρ' => isFlat d = true ∧ s (dC d) E K ρ' := ⟨fun h => h, fun h => h⟩
@[simp] theorem w_fldA {c : String} {i : Nat} {f : Str} {op : D → D → DK → Prop} {a : DT} {E : EK} {K : DE} {ρ : DL.Env} : sFldA c i f op a E K ρ ↔ gIO c ρ[i]? fun fs => gSm (fs.lookup f) fun x => a E ρ fun y => op x y fun z => fs.length < 1000 ∧ K.nx (ρ.set i (.o (.ins c (putFD f z fs)))) := ⟨fun h => h, fun h => h⟩
@[simp] theorem w_ifNotX {W : DF} {z : DA} {u : DB} {t : DT} {E : EK} {K : DE} {ρ : DL.Env} : sIfNotX W z u t E K ρ ↔ sIf (bOr (bNot (bT (dCall W (aCons t z)))) u) (sRet (dC (.bl false))) sNext E K ρ := ⟨fun h => h, fun h => h⟩
end DL

/-! DWave: the arch and the wave, in plain numbers. -/
namespace DL
open PySem
/-! ### the arch, exactly -/
def N (u : Int) : Int := u * (314928000000 - u * u)
def A (u : Int) : Int := 1000000 * u * (314928000000 - u * u) / 68024448000000000
theorem A_eq (u : Int) : A u = 1000000 * N u / 68024448000000000 := by
  unfold A N
  rw [Int.mul_assoc]
theorem N_step (u : Int) : N (u + 1) - N u = 314928000000 - (3 * (u * u) + 3 * u + 1) := by
  unfold N
  grind
theorem sq_le {u b : Int} (h0 : 0 ≤ u) (h : u ≤ b) : u * u ≤ b * b := Int.mul_le_mul h h h0 (Int.le_trans h0 h)
theorem sq_nn {u : Int} : 0 ≤ u * u := by
  rcases Int.le_total 0 u with h | h
  · exact Int.mul_nonneg h h
  · exact Int.mul_nonneg_of_nonpos_of_nonpos h h
theorem N_up {u : Int} (h0 : 0 ≤ u) (h : u < 324000) : 0 ≤ N (u + 1) - N u ∧ N (u + 1) - N u ≤ 314928000000 := by
  rw [N_step]
  have h1 := sq_le h0 (show u ≤ 323999 by omega)
  have h2 : 0 ≤ u * u := sq_nn
  omega
theorem N_top {u : Int} (h0 : 0 ≤ u) (h : u ≤ 324000) : 0 ≤ N u ∧ N u ≤ 68024448000000000 := by
  have h1 := sq_le h0 h
  have h2 : 0 ≤ N u := Int.mul_nonneg h0 (by omega)
  have h3 : 0 ≤ (324000 - u) * (324000 - u) * (648000 + u) := Int.mul_nonneg (Int.mul_nonneg (by omega) (by omega)) (by omega)
  have h4 : (324000 - u) * (324000 - u) * (648000 + u) = 68024448000000000 - N u := by
    unfold N
    grind
  omega
/-! ### the wave -/
def M (x : Int) : Int := if x % 1296000 < 324000 then N (x % 1296000) else if x % 1296000 < 648000 then N (648000 - x % 1296000) else if x % 1296000 < 972000 then -N (x % 1296000 - 648000) else -N (1296000 - x % 1296000)
def Wv (x : Int) : Int := if x % 1296000 < 324000 then A (x % 1296000) else if x % 1296000 < 648000 then A (648000 - x % 1296000) else if x % 1296000 < 972000 then -A (x % 1296000 - 648000) else -A (1296000 - x % 1296000)
theorem N0 : N 0 = 0 := rfl
theorem A0 : A 0 = 0 := rfl
theorem M_step (x : Int) : M (x + 1) - M x ≤ 314928000000 ∧ M x - M (x + 1) ≤ 314928000000 := by
  have hr : 0 ≤ x % 1296000 ∧ x % 1296000 < 1296000 := by omega
  by_cases hw : x % 1296000 = 1295999
  · have e1 : (x + 1) % 1296000 = 0 := by omega
    have := N_up (u := 0) (by omega) (by omega)
    simp [M, e1, hw, N0] at this ⊢
    omega
  · have e1 : (x + 1) % 1296000 = x % 1296000 + 1 := by omega
    unfold M
    rw [e1]
    generalize x % 1296000 = r at *
    by_cases c1 : r < 324000
    · have := N_up (u := r) (by omega) (by omega)
      by_cases c2 : r + 1 < 324000
      · simp [c1, c2]; omega
      · have e : r = 323999 := by omega
        subst e
        simp at this ⊢
        omega
    · by_cases c2 : r < 648000
      · have := N_up (u := 648000 - (r + 1)) (by omega) (by omega)
        rw [show 648000 - (r + 1) + 1 = 648000 - r by omega] at this
        by_cases c3 : r + 1 < 648000
        · simp [c1, c2, c3, show ¬ r + 1 < 324000 by omega]; omega
        · have e : r = 647999 := by omega
          subst e
          simp [N0] at this ⊢
          omega
      · by_cases c3 : r < 972000
        · have := N_up (u := r - 648000) (by omega) (by omega)
          rw [show r - 648000 + 1 = r + 1 - 648000 by omega] at this
          by_cases c4 : r + 1 < 972000
          · simp [c1, c2, c3, c4, show ¬ r + 1 < 324000 by omega, show ¬ r + 1 < 648000 by omega]; omega
          · have e : r = 971999 := by omega
            subst e
            simp at this ⊢
            omega
        · have := N_up (u := 1296000 - (r + 1)) (by omega) (by omega)
          rw [show 1296000 - (r + 1) + 1 = 1296000 - r by omega] at this
          simp [c1, c2, c3, show ¬ r + 1 < 324000 by omega, show ¬ r + 1 < 648000 by omega, show ¬ r + 1 < 972000 by omega]
          omega
theorem M_lip (x : Int) : ∀ n : Nat, M (x + n) - M x ≤ 314928000000 * n ∧ M x - M (x + n) ≤ 314928000000 * n
  | 0 => by simp
  | n + 1 => by
    have h := M_lip x n
    have h2 := M_step (x + n)
    rw [show x + ((n + 1 : Nat) : Int) = x + n + 1 by omega]
    omega
theorem M_dist (x y : Int) : M y - M x ≤ 314928000000 * (if x - y < 0 then -(x - y) else x - y) ∧ M x - M y ≤ 314928000000 * (if x - y < 0 then -(x - y) else x - y) := by
  by_cases h : x - y < 0
  · have := M_lip x (y - x).toNat
    rw [show x + ((y - x).toNat : Int) = y by omega] at this
    rw [if_pos h]
    omega
  · have := M_lip y (x - y).toNat
    rw [show y + ((x - y).toNat : Int) = x by omega] at this
    rw [if_neg h]
    omega
/-- how the wave lies about the exact number -/
theorem Wv_M (x : Int) : (x % 1296000 < 648000 ∧ 0 ≤ M x ∧ Wv x = 1000000 * M x / 68024448000000000) ∨ (¬ x % 1296000 < 648000 ∧ 0 ≤ -M x ∧ Wv x = -(1000000 * (-M x) / 68024448000000000)) := by
  have hr : 0 ≤ x % 1296000 ∧ x % 1296000 < 1296000 := by omega
  unfold M Wv
  generalize x % 1296000 = r at *
  by_cases c1 : r < 324000
  · have := N_top (u := r) (by omega) (by omega)
    left
    simp [c1, A_eq, this]
    omega
  · by_cases c2 : r < 648000
    · have := N_top (u := 648000 - r) (by omega) (by omega)
      left
      simp [c1, c2, A_eq, this]
    · by_cases c3 : r < 972000
      · have := N_top (u := r - 648000) (by omega) (by omega)
        right
        simp [c1, c2, c3, A_eq, this]
      · have := N_top (u := 1296000 - r) (by omega) (by omega)
        right
        simp [c1, c2, c3, A_eq, this]
def ab (i : Int) : Int := if i < 0 then -i else i
theorem lip (x y : Int) : ab (Wv x - Wv y) ≤ 125 * ab (x - y) / 27 + 1 := by
  have h := M_dist x y
  have e : ab (x - y) = (if x - y < 0 then -(x - y) else x - y) := rfl
  rw [← e] at h
  have hd : 0 ≤ ab (x - y) := by unfold ab; split <;> omega
  generalize ab (x - y) = d at *
  have go : Wv x - Wv y ≤ 125 * d / 27 + 1 ∧ Wv y - Wv x ≤ 125 * d / 27 + 1 := by
    rcases Wv_M x with ⟨_, a1, a2⟩ | ⟨_, a1, a2⟩ <;> rcases Wv_M y with ⟨_, b1, b2⟩ | ⟨_, b1, b2⟩ <;> rw [a2, b2] <;> omega
  unfold ab
  split <;> omega
theorem A_top {u : Int} (h0 : 0 ≤ u) (h : u ≤ 324000) : 0 ≤ A u ∧ A u ≤ 1000000 := by
  have := N_top h0 h
  rw [A_eq]
  omega
theorem Wv_top (x : Int) : ab (Wv x) ≤ 1000000 := by
  have hr : 0 ≤ x % 1296000 ∧ x % 1296000 < 1296000 := by omega
  unfold Wv
  generalize x % 1296000 = r at *
  unfold ab
  by_cases c1 : r < 324000
  · have := A_top (u := r) (by omega) (by omega)
    simp [c1]; split <;> omega
  · by_cases c2 : r < 648000
    · have := A_top (u := 648000 - r) (by omega) (by omega)
      simp [c1, c2]; split <;> omega
    · by_cases c3 : r < 972000
      · have := A_top (u := r - 648000) (by omega) (by omega)
        simp [c1, c2, c3]; split <;> omega
      · have := A_top (u := 1296000 - r) (by omega) (by omega)
        simp [c1, c2, c3]; split <;> omega
theorem Wv_turn (x : Int) : Wv (x + 1296000) = Wv x := by
  unfold Wv
  rw [show (x + 1296000) % 1296000 = x % 1296000 by omega]
theorem Wv_half (x : Int) : Wv (x + 648000) = -Wv x := by
  unfold Wv
  by_cases h : x % 1296000 < 648000
  · rw [show (x + 648000) % 1296000 = x % 1296000 + 648000 by omega]
    have hr : 0 ≤ x % 1296000 := by omega
    generalize x % 1296000 = r at *
    by_cases c1 : r < 324000
    · simp [c1, show ¬ r + 648000 < 324000 by omega, show ¬ r + 648000 < 648000 by omega, show r + 648000 < 972000 by omega]
    · simp [c1, h, show ¬ r + 648000 < 324000 by omega, show ¬ r + 648000 < 648000 by omega, show ¬ r + 648000 < 972000 by omega, show 1296000 - (r + 648000) = 648000 - r by omega]
  · rw [show (x + 648000) % 1296000 = x % 1296000 - 648000 by omega]
    have hr : x % 1296000 < 1296000 := by omega
    generalize x % 1296000 = r at *
    by_cases c1 : r < 972000
    · simp [c1, show ¬ r < 324000 by omega, show ¬ r < 648000 by omega, show r - 648000 < 324000 by omega]
    · simp [c1, show ¬ r < 324000 by omega, show ¬ r < 648000 by omega, show ¬ r - 648000 < 324000 by omega, show r - 648000 < 648000 by omega, show 648000 - (r - 648000) = 1296000 - r by omega]
theorem Wv_neg (x : Int) : Wv (-x) = -Wv x := by
  by_cases h : x % 1296000 = 0
  · unfold Wv
    rw [h, show (-x) % 1296000 = 0 by omega]
    simp [A0]
  · unfold Wv
    rw [show (-x) % 1296000 = 1296000 - x % 1296000 by omega]
    have hr : 0 ≤ x % 1296000 ∧ x % 1296000 < 1296000 := by omega
    generalize x % 1296000 = r at *
    by_cases c1 : r < 324000
    · simp [c1, show ¬ 1296000 - r < 324000 by omega, show ¬ 1296000 - r < 648000 by omega, show ¬ 1296000 - r < 972000 by omega, show 1296000 - (1296000 - r) = r by omega]
    · by_cases c2 : r < 648000
      · by_cases c5 : r = 324000
        · subst c5
          simp
        · simp [c1, c2, show ¬ 1296000 - r < 324000 by omega, show ¬ 1296000 - r < 648000 by omega, show 1296000 - r < 972000 by omega, show 1296000 - r - 648000 = 648000 - r by omega]
      · by_cases c3 : r < 972000
        · by_cases c5 : r = 648000
          · subst c5
            simp [A0]
          · simp [c1, c2, c3, show ¬ 1296000 - r < 324000 by omega, show 1296000 - r < 648000 by omega, show 648000 - (1296000 - r) = r - 648000 by omega]
        · by_cases c5 : r = 972000
          · subst c5
            simp
          · simp [c1, c2, c3, show 1296000 - r < 324000 by omega]
/-! ### the defs -/
theorem mul_ok {i j : Int} (h1 : -1000000000000000000000 ≤ i) (h2 : i ≤ 1000000000000000000000) (h3 : -1000000000000000000000 ≤ j) (h4 : j ≤ 1000000000000000000000) : mulOk i j := by
  have go : ∀ i : Int, -1000000000000000000000 ≤ i → i ≤ 1000000000000000000000 → i.natAbs.log2 < 100 := fun i a b => by
    by_cases z : i.natAbs = 0
    · rw [z]; decide
    · exact (Nat.log2_lt z).mpr (by omega)
  have a := go i h1 h2
  have b := go j h3 h4
  unfold mulOk
  omega
theorem div_ok {j : Int} (h1 : 0 < j) (h2 : j ≤ 1000000000000000000000) : divOk j := ⟨h1, by
  have : j.natAbs.log2 < 100 := (Nat.log2_lt (by omega)).mpr (by omega)
  omega⟩
end DL

/-! DExpr: expressions of quantities and angles, their values, sizes. -/
namespace DL
open PySem
mutual
inductive AE where
  | turning (s n d : Int)
  | moved (a : AE) (q : QE)
  | minus (a b : AE)
inductive QE where
  | number (n : Int)
  | wave (a : AE)
  | sum (qs : List QE)
  | share (q : QE) (n d : Int)
  | product (p q : QE) (d : Int)
  | later (q : QE) (k : Int)
end
mutual
def encA : AE → D
  | .turning s n d => .tup [.str "turning", .int s, .int n, .int d]
  | .moved a q => .tup [.str "moved", encA a, encQ q]
  | .minus a b => .tup [.str "minus", encA a, encA b]
def encQ : QE → D
  | .number n => .tup [.str "number", .int n]
  | .wave a => .tup [.str "wave", encA a]
  | .sum qs => .tup (.str "sum" :: encS qs)
  | .share q n d => .tup [.str "share", encQ q, .int n, .int d]
  | .product p q d => .tup [.str "product", encQ p, encQ q, .int d]
  | .later q k => .tup [.str "later", encQ q, .int k]
def encS : List QE → List D
  | [] => []
  | q :: r => encQ q :: encS r
end
mutual
def ang : AE → Int → Int
  | .turning s n d, t => s + n * t / d
  | .moved a q, t => ang a t + val q t
  | .minus a b, t => ang a t - ang b t
def val : QE → Int → Int
  | .number n, _ => n
  | .wave a, t => Wv (ang a t)
  | .sum qs, t => (vals qs t).sum
  | .share q n d, t => val q t * n / d
  | .product p q d, t => val p t * val q t / d
  | .later q k, t => val q (t + k)
def vals : List QE → Int → List Int
  | [], _ => []
  | q :: r, t => val q t :: vals r t
end
mutual
/-- bits that a value has at most -/
def bA : AE → Nat
  | .turning _ _ _ => 200
  | .moved a q => bA a + bQ q + 1
  | .minus a b => bA a + bA b + 1
def bQ : QE → Nat
  | .number _ => 64
  | .wave a => bA a + 20
  | .sum qs => bS qs
  | .share q _ _ => bQ q + 64
  | .product p q _ => bQ p + bQ q
  | .later q _ => bQ q
def bS : List QE → Nat
  | [] => 1
  | q :: r => bQ q + bS r + 1
end
mutual
def dA : AE → Nat
  | .turning _ _ _ => 1
  | .moved a q => max (dA a) (dQ q) + 1
  | .minus a b => max (dA a) (dA b) + 1
def dQ : QE → Nat
  | .number _ => 1
  | .wave a => dA a + 1
  | .sum qs => dS qs + 1
  | .share q _ _ => dQ q + 1
  | .product p q _ => max (dQ p) (dQ q) + 1
  | .later q _ => dQ q + 1
def dS : List QE → Nat
  | [] => 0
  | q :: r => max (dQ q) (dS r)
end
def sm (i : Int) : Prop := -10000000000000 ≤ i ∧ i ≤ 10000000000000
mutual
def okA : AE → Prop
  | .turning s n d => sm s ∧ sm n ∧ 0 < d ∧ sm d
  | .moved a q => okA a ∧ okQ q
  | .minus a b => okA a ∧ okA b
def okQ : QE → Prop
  | .number n => sm n
  | .wave a => okA a
  | .sum qs => okS qs ∧ qs.length ≤ 1000
  | .share q n d => okQ q ∧ sm n ∧ 0 < d ∧ sm d
  | .product p q d => okQ p ∧ okQ q ∧ 0 < d ∧ sm d
  | .later q k => okQ q ∧ -10000000000000 ≤ k ∧ k ≤ 10000000000000
def okS : List QE → Prop
  | [] => True
  | q :: r => okQ q ∧ okS r
end
/-- a tick with room for n moves -/
def tOk (n : Nat) (t : Int) : Prop := -(1000000000000000000 - 10000000000000 * (n : Int)) ≤ t ∧ t ≤ 1000000000000000000 - 10000000000000 * (n : Int)
theorem encS_get : ∀ {qs : List QE} {i : Nat} {x : D}, (encS qs)[i]? = some x → ∃ q, qs[i]? = some q ∧ x = encQ q
  | [], i, x, h => by simp [encS] at h
  | q :: r, 0, x, h => by simp [encS] at h; exact ⟨q, rfl, h.symm⟩
  | q :: r, i + 1, x, h => by
    simp [encS] at h
    obtain ⟨q', h1, h2⟩ := encS_get h
    exact ⟨q', by simpa using h1, h2⟩
theorem encS_len : ∀ {qs : List QE}, (encS qs).length = qs.length
  | [] => rfl
  | q :: r => by simp [encS, encS_len (qs := r)]
theorem vals_len : ∀ {qs : List QE} {t : Int}, (vals qs t).length = qs.length
  | [], _ => rfl
  | q :: r, t => by simp [vals, vals_len (qs := r)]
theorem vals_get : ∀ {qs : List QE} {i : Nat} {q : QE} {t : Int}, qs[i]? = some q → (vals qs t)[i]? = some (val q t)
  | [], i, x, t, h => by simp at h
  | q :: r, 0, x, t, h => by simp at h; simp [vals, h]
  | q :: r, i + 1, x, t, h => by
    simp at h
    simpa [vals] using vals_get h
theorem okS_get : ∀ {qs : List QE} {i : Nat} {q : QE}, qs[i]? = some q → okS qs → okQ q
  | [], i, x, h, _ => by simp at h
  | q :: r, 0, x, h, k => by simp at h; rw [← h]; simp only [okS] at k; exact k.1
  | q :: r, i + 1, x, h, k => by
    simp at h
    simp only [okS] at k
    exact okS_get h k.2
theorem dS_get : ∀ {qs : List QE} {i : Nat} {q : QE}, qs[i]? = some q → dQ q ≤ dS qs
  | [], i, x, h => by simp at h
  | q :: r, 0, x, h => by simp at h; rw [← h]; simp only [dS]; omega
  | q :: r, i + 1, x, h => by
    simp at h
    have := dS_get h
    simp only [dS]
    omega
theorem bS_get : ∀ {qs : List QE} {i : Nat} {q : QE}, qs[i]? = some q → bQ q ≤ bS qs
  | [], i, x, h => by simp at h
  | q :: r, 0, x, h => by simp at h; rw [← h]; simp only [bS]; omega
  | q :: r, i + 1, x, h => by
    simp at h
    have := bS_get h
    simp only [bS]
    omega
theorem tOk_mono {n m : Nat} {t : Int} (h : tOk n t) (hm : m ≤ n) : tOk m t := by
  unfold tOk at *
  omega
/-! sizes -/
def lt2 (x b : Nat) : Prop := x < 2 ^ b
theorem lt2_add {a b c : Nat} {x y : Nat} (hx : lt2 x a) (hy : lt2 y b) (hc : a + b + 1 ≤ c) : lt2 (x + y) c := by
  unfold lt2 at *
  have h1 : 2 ^ a ≤ 2 ^ (a + b) := Nat.pow_le_pow_right (by omega) (by omega)
  have h2 : 2 ^ b ≤ 2 ^ (a + b) := Nat.pow_le_pow_right (by omega) (by omega)
  have h3 : 2 ^ (a + b + 1) ≤ 2 ^ c := Nat.pow_le_pow_right (by omega) hc
  have h4 : 2 ^ (a + b + 1) = 2 * 2 ^ (a + b) := by rw [Nat.pow_succ]; omega
  omega
theorem lt2_mul {a b : Nat} {x y : Nat} (hx : lt2 x a) (hy : lt2 y b) : lt2 (x * y) (a + b) := by
  unfold lt2 at *
  rw [Nat.pow_add]
  exact Nat.mul_lt_mul'' hx hy
theorem lt2_le {x y b : Nat} (h : x ≤ y) (hy : lt2 y b) : lt2 x b := Nat.lt_of_le_of_lt h hy
theorem lt2_mono {x a b : Nat} (h : lt2 x a) (hab : a ≤ b) : lt2 x b := Nat.lt_of_lt_of_le h (Nat.pow_le_pow_right (by omega) hab)
theorem ediv_abs (x d : Int) : (x / d).natAbs ≤ x.natAbs := Int.natAbs_ediv_le_natAbs x d
theorem sm_abs {i : Int} (h : sm i) : lt2 i.natAbs 64 := by
  unfold sm at h
  show i.natAbs < 2 ^ 64
  omega
theorem Wv_abs (x : Int) : lt2 (Wv x).natAbs 20 := by
  have := Wv_top x
  unfold ab at this
  show (Wv x).natAbs < 2 ^ 20
  split at this <;> omega
theorem t_abs {n : Nat} {t : Int} (h : tOk n t) : lt2 t.natAbs 64 := by
  unfold tOk at h
  show t.natAbs < 2 ^ 64
  omega
theorem lt2_divmul {x n d : Int} {a b : Nat} (hx : lt2 x.natAbs a) (hn : lt2 n.natAbs b) : lt2 (x * n / d).natAbs (a + b) := by
  refine lt2_le (ediv_abs _ _) ?_
  rw [Int.natAbs_mul]
  exact lt2_mul hx hn
theorem turn_abs {s n t d : Int} (h1 : lt2 s.natAbs 64) (h2 : lt2 n.natAbs 64) (h3 : lt2 t.natAbs 64) : lt2 (s + n * t / d).natAbs 200 :=
  lt2_mono (lt2_le (Int.natAbs_add_le _ _) (lt2_add (c := 193) h1 (lt2_divmul h2 h3) (by decide))) (by decide)
theorem abs_all : ∀ n : Nat, (∀ (a : AE) (t : Int), dA a ≤ n → okA a → tOk (dA a) t → lt2 (ang a t).natAbs (bA a)) ∧ (∀ (q : QE) (t : Int), dQ q ≤ n → okQ q → tOk (dQ q) t → lt2 (val q t).natAbs (bQ q)) := by
  intro n
  induction n with
  | zero =>
    refine ⟨fun a t h => ?_, fun q t h => ?_⟩
    · cases a <;> simp only [dA] at h <;> omega
    · cases q <;> simp only [dQ] at h <;> omega
  | succ n ih =>
    obtain ⟨ia, iq⟩ := ih
    have is : ∀ (qs : List QE) (t : Int), dS qs ≤ n → okS qs → tOk (dS qs) t → lt2 ((vals qs t).sum).natAbs (bS qs) := by
      intro qs
      induction qs with
      | nil =>
        intro t _ _ _
        simp only [vals, bS]
        show (0 : Nat) < 2 ^ 1
        decide
      | cons q r ir =>
        intro t hd h ht
        simp only [okS, vals, bS, dS, List.sum_cons] at *
        exact lt2_le (Int.natAbs_add_le _ _) (lt2_add (iq q t (by omega) h.1 (tOk_mono ht (by omega))) (ir t (by omega) h.2 (tOk_mono ht (by omega))) (Nat.le_refl _))
    refine ⟨fun a t hd h ht => ?_, fun q t hd h ht => ?_⟩
    · cases a with
      | turning s n d =>
        simp only [okA] at h
        simp only [ang, bA]
        exact turn_abs (sm_abs h.1) (sm_abs h.2.1) (t_abs ht)
      | moved a q =>
        simp only [okA, ang, bA, dA] at *
        exact lt2_le (Int.natAbs_add_le _ _) (lt2_add (ia a t (by omega) h.1 (tOk_mono ht (by omega))) (iq q t (by omega) h.2 (tOk_mono ht (by omega))) (Nat.le_refl _))
      | minus a b =>
        simp only [okA, ang, bA, dA] at *
        exact lt2_le (Int.natAbs_sub_le _ _) (lt2_add (ia a t (by omega) h.1 (tOk_mono ht (by omega))) (ia b t (by omega) h.2 (tOk_mono ht (by omega))) (Nat.le_refl _))
    · cases q with
      | number n =>
        simp only [okQ, val, bQ] at *
        exact sm_abs h
      | wave a =>
        simp only [okQ, val, bQ] at *
        exact lt2_mono (Wv_abs _) (by omega)
      | sum qs =>
        simp only [okQ, val, bQ, dQ] at *
        exact is qs t (by omega) h.1 (tOk_mono ht (by omega))
      | share q n d =>
        simp only [okQ, val, bQ, dQ] at *
        exact lt2_divmul (iq q t (by omega) h.1 (tOk_mono ht (by omega))) (sm_abs h.2.1)
      | product p q d =>
        simp only [okQ, val, bQ, dQ] at *
        exact lt2_divmul (iq p t (by omega) h.1 (tOk_mono ht (by omega))) (iq q t (by omega) h.2.1 (tOk_mono ht (by omega)))
      | later q k =>
        simp only [okQ, val, bQ, dQ] at *
        exact iq q (t + k) (by omega) h.1 (by unfold tOk at *; omega)
theorem ang_abs (a : AE) (t : Int) (h : okA a) (ht : tOk (dA a) t) : lt2 (ang a t).natAbs (bA a) := (abs_all (dA a)).1 a t (Nat.le_refl _) h ht
theorem val_abs (q : QE) (t : Int) (h : okQ q) (ht : tOk (dQ q) t) : lt2 (val q t).natAbs (bQ q) := (abs_all (dQ q)).2 q t (Nat.le_refl _) h ht
theorem log_pow {x b : Nat} (h : lt2 x b) : x.log2 ≤ b := by
  by_cases z : x = 0
  · rw [z]; exact Nat.zero_le _
  · exact Nat.le_of_lt ((Nat.log2_lt z).mpr h)
theorem mulOk_of {i j : Int} {a b : Nat} (hi : lt2 i.natAbs a) (hj : lt2 j.natAbs b) (h : a + b < 1000000) : mulOk i j := by
  have h1 := log_pow hi
  have h2 := log_pow hj
  unfold mulOk
  omega
theorem divOk_sm {d : Int} (h0 : 0 < d) (h : sm d) : divOk d := div_ok h0 (by unfold sm at h; omega)
theorem sp_vals {g : DG} {e : DT} {ρ : DL.Env} {qs : List QE} {t : Int} {Q : DK} (hl : qs.length ≤ 1000) (h : ∀ q ∈ qs, ∀ (A : DK), A (.int (val q t)) → g (encQ q) ρ fun ρ' => e noE ρ' A) (q : Q (.int (vals qs t).sum)) : lcL g bYes e ρ (encS qs) [] fun r => fSum [.lst r] Q := by
  refine lcL_inv (fun i acc => acc = ((vals qs t).take i).map .int) rfl ?_ (by rw [encS_len]; simp; omega) ?_
  · rintro i x acc A R hx rfl hA _
    obtain ⟨q, hq, rfl⟩ := encS_get hx
    simp
    refine h q (List.mem_of_getElem? hq) A (hA _ ?_)
    rw [List.take_add_one, vals_get hq]
    simp
  · rintro r rfl
    rw [encS_len, ← vals_len (t := t), List.take_length]
    exact fSum_ints q
theorem mem_dS {qs : List QE} {q : QE} (h : q ∈ qs) : dQ q ≤ dS qs ∧ bQ q ≤ bS qs ∧ (okS qs → okQ q) := by
  obtain ⟨i, hi, e⟩ := List.mem_iff_getElem.mp h
  have e' : qs[i]? = some q := by rw [List.getElem?_eq_getElem hi, e]
  exact ⟨dS_get e', bS_get e', okS_get e'⟩
theorem bS_le {c : Nat} : ∀ {qs : List QE}, (∀ q ∈ qs, bQ q ≤ c) → bS qs ≤ qs.length * (c + 1) + 1
  | [], _ => by simp [bS]
  | q :: r, h => by
    have h1 := h q (by simp)
    have h2 := bS_le (qs := r) fun q hq => h q (by simp [hq])
    simp only [bS, List.length_cons, Nat.add_mul]
    omega
theorem dS_le {c : Nat} : ∀ {qs : List QE}, (∀ q ∈ qs, dQ q ≤ c) → dS qs ≤ c
  | [], _ => by simp [dS]
  | q :: r, h => by
    have h1 := h q (by simp)
    have h2 := dS_le (qs := r) fun q hq => h q (by simp [hq])
    simp only [dS]
    omega
theorem okS_of : ∀ {qs : List QE}, (∀ q ∈ qs, okQ q) → okS qs
  | [], _ => by simp [okS]
  | q :: r, h => by
    simp only [okS]
    exact ⟨h q (by simp), okS_of fun q hq => h q (by simp [hq])⟩
theorem encS_app : ∀ {qs : List QE} {q : QE}, encS (qs ++ [q]) = encS qs ++ [encQ q]
  | [], q => by simp [encS]
  | p :: r, q => by simp [encS, encS_app (qs := r)]
end DL

/-! DReach: most and reach of expressions, in plain numbers. -/
namespace DL
open PySem
def upI (n d : Int) : Int := -(-n / d)
def absI (i : Int) : Int := if i < 0 then -i else i
mutual
def mst : QE → Int
  | .number n => absI n
  | .wave _ => 1000000
  | .sum qs => (msts qs).sum
  | .share q n d => upI (mst q * absI n) d
  | .product p q d => upI (mst p * mst q) d
  | .later q _ => mst q
def msts : List QE → List Int
  | [] => []
  | q :: r => mst q :: msts r
end
/-- the wave's own reach -/
def wrch (x : Int) : Int := if 0 < x then 125 * x / 27 + 1 else 0
mutual
def rchA : AE → Int → Int
  | .turning _ n d, k => upI (absI n * k) d
  | .moved a q, k => rchA a k + rchQ q k
  | .minus a b, k => rchA a k + rchA b k
def rchQ : QE → Int → Int
  | .number n, _ => if 2 * absI n < 0 then 2 * absI n else 0
  | .wave a, k => if 2 * 1000000 < wrch (rchA a k) then 2 * 1000000 else wrch (rchA a k)
  | .sum qs, k => if 2 * (msts qs).sum < (rchs qs k).sum then 2 * (msts qs).sum else (rchs qs k).sum
  | .share q n d, k => if 2 * upI (mst q * absI n) d < upI (rchQ q k * absI n) d then 2 * upI (mst q * absI n) d else upI (rchQ q k * absI n) d
  | .product p q d, k => if 2 * upI (mst p * mst q) d < upI (mst p * rchQ q k + mst q * rchQ p k) d then 2 * upI (mst p * mst q) d else upI (mst p * rchQ q k + mst q * rchQ p k) d
  | .later q _, k => if 2 * mst q < rchQ q k then 2 * mst q else rchQ q k
def rchs : List QE → Int → List Int
  | [], _ => []
  | q :: r, k => rchQ q k :: rchs r k
end
/-! the node made of an expression -/
def nodD (k : Str) (ps : List D) (ns : List D) (m : D) : D := .ins "Node" [("kind", .str k), ("parts", .lst ps), ("numbers", .lst ns), ("most", m)]
mutual
def nodA : AE → D
  | .turning s n d => nodD "turning" [] [.int s, .int n, .int d] .non
  | .moved a q => nodD "moved" [nodA a, nodQ q] [] .non
  | .minus a b => nodD "minus" [nodA a, nodA b] [] .non
def nodQ : QE → D
  | .number n => nodD "number" [] [.int n] (.int (absI n))
  | .wave a => nodD "wave" [nodA a] [] (.int 1000000)
  | .sum qs => nodD "sum" (nodS qs) [] (.int (msts qs).sum)
  | .share q n d => nodD "share" [nodQ q] [.int n, .int d] (.int (upI (mst q * absI n) d))
  | .product p q d => nodD "product" [nodQ p, nodQ q] [.int d] (.int (upI (mst p * mst q) d))
  | .later q k => nodD "later" [nodQ q] [.int k] (.int (mst q))
def nodS : List QE → List D
  | [] => []
  | q :: r => nodQ q :: nodS r
end
/-! ### facts -/
theorem upI_nn {n d : Int} (hn : 0 ≤ n) (hd : 0 < d) : 0 ≤ upI n d := by
  unfold upI
  have : -n / d ≤ 0 := Int.ediv_le_of_le_mul hd (by omega)
  omega
theorem upI_mono {n m d : Int} (h : n ≤ m) (hd : 0 < d) : upI n d ≤ upI m d := by
  unfold upI
  have := Int.ediv_le_ediv hd (show -m ≤ -n by omega)
  omega
theorem upI_le {n d : Int} (hn : 0 ≤ n) (hd : 0 < d) : upI n d ≤ n := by
  unfold upI
  have : -n ≤ -n / d := by
    rw [Int.le_ediv_iff_mul_le hd]
    have := Int.mul_le_mul_of_nonneg_left (show 1 ≤ d by omega) hn
    have e : -n * d = -(n * d) := Int.neg_mul _ _
    omega
  omega
theorem upI_zero {d : Int} : upI 0 d = 0 := by simp [upI]
/-- quotients differ by at most the quotient rounded up -/
theorem div_diff {x y m d : Int} (hd : 0 < d) (h1 : x - y ≤ m) : x / d - y / d ≤ upI m d := by
  unfold upI
  have e : x / d + -m / d ≤ (x + -m) / d := by
    rw [Int.le_ediv_iff_mul_le hd, Int.add_mul]
    have a := Int.ediv_mul_le x (show d ≠ 0 by omega)
    have b := Int.ediv_mul_le (-m) (show d ≠ 0 by omega)
    omega
  have := Int.ediv_le_ediv hd (show x + -m ≤ y by omega)
  omega
theorem div_size {x m d : Int} (hd : 0 < d) (h1 : -m ≤ x) (h2 : x ≤ m) : -upI m d ≤ x / d ∧ x / d ≤ upI m d := by
  have h3 := div_diff (x := x) (y := 0) (m := m) hd (by omega)
  have h4 := div_diff (x := 0) (y := x) (m := m) hd (by omega)
  simp at h3 h4
  omega
theorem absI_nn (i : Int) : 0 ≤ absI i := by unfold absI; split <;> omega
theorem absI_natAbs (i : Int) : (absI i).natAbs = i.natAbs := by unfold absI; split <;> omega
theorem mul_size {x y a b : Int} (h1 : -a ≤ x) (h2 : x ≤ a) (h3 : -b ≤ y) (h4 : y ≤ b) : -(a * b) ≤ x * y ∧ x * y ≤ a * b := by
  have p : (x * y).natAbs ≤ a.natAbs * b.natAbs := by
    rw [Int.natAbs_mul]
    exact Nat.mul_le_mul (by omega) (by omega)
  have q : ((a.natAbs * b.natAbs : Nat) : Int) = a * b := by
    rw [Int.natCast_mul, Int.natAbs_of_nonneg (by omega), Int.natAbs_of_nonneg (by omega)]
  omega
theorem wrch_nn {x : Int} : 0 ≤ wrch x := by unfold wrch; split <;> omega
theorem wrch_mono {x y : Int} (h : x ≤ y) : wrch x ≤ wrch y := by
  unfold wrch
  split <;> split <;> omega
theorem lt2_max {a b c : Nat} {x y : Nat} (hx : lt2 x a) (hy : lt2 y b) (ha : a + 1 ≤ c) (hb : b + 1 ≤ c) : lt2 (x + y) c := by
  unfold lt2 at *
  obtain ⟨c, rfl⟩ : ∃ e, c = e + 1 := ⟨c - 1, by omega⟩
  have h1 : 2 ^ a ≤ 2 ^ c := Nat.pow_le_pow_right (by omega) (by omega)
  have h2 : 2 ^ b ≤ 2 ^ c := Nat.pow_le_pow_right (by omega) (by omega)
  rw [Nat.pow_succ]
  omega
theorem bA_pos : ∀ a : AE, 200 ≤ bA a
  | .turning _ _ _ => by simp only [bA]; omega
  | .moved a q => by have := bA_pos a; simp only [bA]; omega
  | .minus a q => by have := bA_pos a; simp only [bA]; omega
mutual
theorem bQ_pos : ∀ q : QE, 1 ≤ bQ q
  | .number _ => by simp only [bQ]; omega
  | .wave a => by simp only [bQ]; omega
  | .sum qs => by simp only [bQ]; exact bS_pos qs
  | .share q _ _ => by simp only [bQ]; omega
  | .product p q _ => by have := bQ_pos p; simp only [bQ]; omega
  | .later q _ => by have := bQ_pos q; simp only [bQ]; omega
theorem bS_pos : ∀ q : List QE, 1 ≤ bS q
  | [] => by simp only [bS]; omega
  | q :: r => by have := bS_pos r; simp only [bS]; omega
end
mutual
theorem mst_nn : ∀ q : QE, okQ q → 0 ≤ mst q
  | .number n, _ => by simp only [mst]; exact absI_nn n
  | .wave a, _ => by simp only [mst]; omega
  | .sum qs, h => by simp only [mst]; simp only [okQ] at h; exact msts_nn qs h.1
  | .share q n d, h => by
    simp only [mst]; simp only [okQ] at h
    exact upI_nn (Int.mul_nonneg (mst_nn q h.1) (absI_nn n)) h.2.2.1
  | .product p q d, h => by
    simp only [mst]; simp only [okQ] at h
    exact upI_nn (Int.mul_nonneg (mst_nn p h.1) (mst_nn q h.2.1)) h.2.2.1
  | .later q _, h => by simp only [mst]; simp only [okQ] at h; exact mst_nn q h.1
theorem msts_nn : ∀ qs : List QE, okS qs → 0 ≤ (msts qs).sum
  | [], _ => by simp [msts]
  | q :: r, h => by
    simp only [okS] at h
    have h1 := mst_nn q h.1
    have h2 := msts_nn r h.2
    simp only [msts, List.sum_cons]
    omega
end
theorem up_lt2 {n d : Int} {b : Nat} (hn : 0 ≤ n) (hd : 0 < d) (h : lt2 n.natAbs b) : lt2 (upI n d).natAbs b := by
  have h1 := upI_le hn hd
  have h2 := upI_nn hn hd
  exact lt2_le (by omega) h
mutual
theorem mst_lt : ∀ q : QE, okQ q → lt2 (mst q).natAbs (bQ q)
  | .number n, h => by simp only [mst, bQ]; simp only [okQ] at h; rw [absI_natAbs]; exact sm_abs h
  | .wave a, _ => by simp only [mst, bQ]; exact lt2_mono (a := 20) (show (1000000 : Nat) < 2 ^ 20 by decide) (by omega)
  | .sum qs, h => by simp only [mst, bQ]; simp only [okQ] at h; exact msts_lt qs h.1
  | .share q n d, h => by
    simp only [mst, bQ]; simp only [okQ] at h
    refine up_lt2 (Int.mul_nonneg (mst_nn q h.1) (absI_nn n)) h.2.2.1 ?_
    rw [Int.natAbs_mul, absI_natAbs]
    exact lt2_mul (mst_lt q h.1) (sm_abs h.2.1)
  | .product p q d, h => by
    simp only [mst, bQ]; simp only [okQ] at h
    refine up_lt2 (Int.mul_nonneg (mst_nn p h.1) (mst_nn q h.2.1)) h.2.2.1 ?_
    rw [Int.natAbs_mul]
    exact lt2_mul (mst_lt p h.1) (mst_lt q h.2.1)
  | .later q _, h => by simp only [mst, bQ]; simp only [okQ] at h; exact mst_lt q h.1
theorem msts_lt : ∀ qs : List QE, okS qs → lt2 (msts qs).sum.natAbs (bS qs)
  | [], _ => by simp only [msts, bS]; show (0 : Nat) < 2 ^ 1; decide
  | q :: r, h => by
    simp only [okS] at h
    simp only [msts, List.sum_cons, bS]
    exact lt2_le (Int.natAbs_add_le _ _) (lt2_max (mst_lt q h.1) (msts_lt r h.2) (by have := bS_pos r; omega) (by have := bQ_pos q; omega))
end
theorem min2_le {x m : Int} : (if 2 * m < x then 2 * m else x) ≤ 2 * m := by split <;> omega
theorem rch_le (q : QE) (k : Int) : rchQ q k ≤ 2 * mst q := by
  cases q <;> simp only [rchQ, mst] <;> exact min2_le
mutual
theorem rchA_nn : ∀ (a : AE) (k : Int), okA a → 0 ≤ k → 0 ≤ rchA a k
  | .turning s n d, k, h, hk => by
    simp only [rchA]; simp only [okA] at h
    exact upI_nn (Int.mul_nonneg (absI_nn n) hk) h.2.2.1
  | .moved a q, k, h, hk => by
    simp only [rchA]; simp only [okA] at h
    have := rchA_nn a k h.1 hk
    have := rchQ_nn q k h.2 hk
    omega
  | .minus a b, k, h, hk => by
    simp only [rchA]; simp only [okA] at h
    have := rchA_nn a k h.1 hk
    have := rchA_nn b k h.2 hk
    omega
theorem rchQ_nn : ∀ (q : QE) (k : Int), okQ q → 0 ≤ k → 0 ≤ rchQ q k
  | .number n, k, _, _ => by
    simp only [rchQ]
    have := absI_nn n
    split <;> omega
  | .wave a, k, h, hk => by
    simp only [rchQ]
    have := wrch_nn (x := rchA a k)
    split <;> omega
  | .sum qs, k, h, hk => by
    simp only [rchQ]; simp only [okQ] at h
    have := msts_nn qs h.1
    have := rchs_nn qs k h.1 hk
    split <;> omega
  | .share q n d, k, h, hk => by
    simp only [rchQ]; simp only [okQ] at h
    have := upI_nn (d := d) (Int.mul_nonneg (mst_nn q h.1) (absI_nn n)) h.2.2.1
    have := upI_nn (d := d) (Int.mul_nonneg (rchQ_nn q k h.1 hk) (absI_nn n)) h.2.2.1
    split <;> omega
  | .product p q d, k, h, hk => by
    simp only [rchQ]; simp only [okQ] at h
    have := upI_nn (d := d) (Int.mul_nonneg (mst_nn p h.1) (mst_nn q h.2.1)) h.2.2.1
    have := upI_nn (d := d) (Int.add_nonneg (Int.mul_nonneg (mst_nn p h.1) (rchQ_nn q k h.2.1 hk)) (Int.mul_nonneg (mst_nn q h.2.1) (rchQ_nn p k h.1 hk))) h.2.2.1
    split <;> omega
  | .later q _, k, h, hk => by
    simp only [rchQ]; simp only [okQ] at h
    have := mst_nn q h.1
    have := rchQ_nn q k h.1 hk
    split <;> omega
theorem rchs_nn : ∀ (qs : List QE) (k : Int), okS qs → 0 ≤ k → 0 ≤ (rchs qs k).sum
  | [], _, _, _ => by simp [rchs]
  | q :: r, k, h, hk => by
    simp only [okS] at h
    have h1 := rchQ_nn q k h.1 hk
    have h2 := rchs_nn r k h.2 hk
    simp only [rchs, List.sum_cons]
    omega
end
theorem min_mono {a b x y : Int} (h : a ≤ b) (hxy : x = y) : (if x < a then x else a) ≤ (if y < b then y else b) := by subst hxy; split <;> split <;> omega
mutual
theorem rchA_mono : ∀ (a : AE) (k l : Int), okA a → 0 ≤ k → k ≤ l → rchA a k ≤ rchA a l
  | .turning s n d, k, l, h, hk, hl => by
    simp only [rchA]; simp only [okA] at h
    exact upI_mono (Int.mul_le_mul_of_nonneg_left hl (absI_nn n)) h.2.2.1
  | .moved a q, k, l, h, hk, hl => by
    simp only [rchA]; simp only [okA] at h
    have := rchA_mono a k l h.1 hk hl
    have := rchQ_mono q k l h.2 hk hl
    omega
  | .minus a b, k, l, h, hk, hl => by
    simp only [rchA]; simp only [okA] at h
    have := rchA_mono a k l h.1 hk hl
    have := rchA_mono b k l h.2 hk hl
    omega
theorem rchQ_mono : ∀ (q : QE) (k l : Int), okQ q → 0 ≤ k → k ≤ l → rchQ q k ≤ rchQ q l
  | .number n, k, l, _, _, _ => by simp only [rchQ]; omega
  | .wave a, k, l, h, hk, hl => by
    simp only [rchQ]; simp only [okQ] at h
    exact min_mono (wrch_mono (rchA_mono a k l h hk hl)) rfl
  | .sum qs, k, l, h, hk, hl => by
    simp only [rchQ]; simp only [okQ] at h
    exact min_mono (rchs_mono qs k l h.1 hk hl) rfl
  | .share q n d, k, l, h, hk, hl => by
    simp only [rchQ]; simp only [okQ] at h
    exact min_mono (upI_mono (Int.mul_le_mul_of_nonneg_right (rchQ_mono q k l h.1 hk hl) (absI_nn n)) h.2.2.1) rfl
  | .product p q d, k, l, h, hk, hl => by
    simp only [rchQ]; simp only [okQ] at h
    exact min_mono (upI_mono (Int.add_le_add (Int.mul_le_mul_of_nonneg_left (rchQ_mono q k l h.2.1 hk hl) (mst_nn p h.1)) (Int.mul_le_mul_of_nonneg_left (rchQ_mono p k l h.1 hk hl) (mst_nn q h.2.1))) h.2.2.1) rfl
  | .later q _, k, l, h, hk, hl => by
    simp only [rchQ]; simp only [okQ] at h
    exact min_mono (rchQ_mono q k l h.1 hk hl) rfl
theorem rchs_mono : ∀ (qs : List QE) (k l : Int), okS qs → 0 ≤ k → k ≤ l → (rchs qs k).sum ≤ (rchs qs l).sum
  | [], _, _, _, _, _ => by simp [rchs]
  | q :: r, k, l, h, hk, hl => by
    simp only [okS] at h
    have h1 := rchQ_mono q k l h.1 hk hl
    have h2 := rchs_mono r k l h.2 hk hl
    simp only [rchs, List.sum_cons]
    omega
end
theorem min_zero {m : Int} (h : 0 ≤ m) : (if 2 * m < 0 then 2 * m else 0) = 0 := by split <;> omega
mutual
theorem rchA_zero : ∀ (a : AE), okA a → rchA a 0 = 0
  | .turning s n d, h => by simp [rchA, upI_zero]
  | .moved a q, h => by
    simp only [okA] at h
    simp [rchA, rchA_zero a h.1, rchQ_zero q h.2]
  | .minus a b, h => by
    simp only [okA] at h
    simp [rchA, rchA_zero a h.1, rchA_zero b h.2]
theorem rchQ_zero : ∀ (q : QE), okQ q → rchQ q 0 = 0
  | .number n, _ => by simp only [rchQ]; exact min_zero (absI_nn n)
  | .wave a, h => by
    simp only [okQ] at h
    simp [rchQ, rchA_zero a h, wrch]
  | .sum qs, h => by
    simp only [okQ] at h
    rw [rchQ, rchs_zero qs h.1]
    exact min_zero (msts_nn qs h.1)
  | .share q n d, h => by
    simp only [okQ] at h
    rw [rchQ, rchQ_zero q h.1, Int.zero_mul, upI_zero]
    exact min_zero (upI_nn (d := d) (Int.mul_nonneg (mst_nn q h.1) (absI_nn n)) h.2.2.1)
  | .product p q d, h => by
    simp only [okQ] at h
    rw [rchQ, rchQ_zero q h.2.1, rchQ_zero p h.1, Int.mul_zero, Int.mul_zero, Int.add_zero, upI_zero]
    exact min_zero (upI_nn (d := d) (Int.mul_nonneg (mst_nn p h.1) (mst_nn q h.2.1)) h.2.2.1)
  | .later q _, h => by
    simp only [okQ] at h
    rw [rchQ, rchQ_zero q h.1]
    exact min_zero (mst_nn q h.1)
theorem rchs_zero : ∀ (qs : List QE), okS qs → (rchs qs 0).sum = 0
  | [], _ => by simp [rchs]
  | q :: r, h => by
    simp only [okS] at h
    simp [rchs, rchQ_zero q h.1, rchs_zero r h.2]
end
/-- a number of ticks -/
def kOk (k : Int) : Prop := 0 ≤ k ∧ k < 9000000000000000000
theorem k_lt2 {k : Int} (h : kOk k) : lt2 k.natAbs 64 := by
  unfold kOk at h
  show k.natAbs < 2 ^ 64
  omega
theorem two_lt2 {x m : Int} {b : Nat} (h0 : 0 ≤ x) (h : x ≤ 2 * m) (hm : lt2 m.natAbs b) : lt2 x.natAbs (b + 1) := by
  unfold lt2 at *
  rw [Nat.pow_succ]
  omega
theorem rchQ_lt (q : QE) (k : Int) (h : okQ q) (hk : 0 ≤ k) : lt2 (rchQ q k).natAbs (bQ q + 1) := two_lt2 (rchQ_nn q k h hk) (rch_le q k) (mst_lt q h)
theorem rchA_lt : ∀ (a : AE) (k : Int), okA a → kOk k → lt2 (rchA a k).natAbs (bA a)
  | .turning s n d, k, h, hk => by
    simp only [okA] at h
    simp only [rchA, bA]
    refine up_lt2 (Int.mul_nonneg (absI_nn n) hk.1) h.2.2.1 ?_
    rw [Int.natAbs_mul, absI_natAbs]
    exact lt2_mono (lt2_mul (sm_abs h.2.1) (k_lt2 hk)) (by omega)
  | .moved a q, k, h, hk => by
    simp only [okA] at h
    simp only [rchA, bA]
    exact lt2_le (Int.natAbs_add_le _ _) (lt2_max (rchA_lt a k h.1 hk) (rchQ_lt q k h.2 hk.1) (by have := bQ_pos q; omega) (by have := bA_pos a; omega))
  | .minus a b, k, h, hk => by
    simp only [okA] at h
    simp only [rchA, bA]
    exact lt2_le (Int.natAbs_add_le _ _) (lt2_max (rchA_lt a k h.1 hk) (rchA_lt b k h.2 hk) (by omega) (by have := bA_pos a; omega))
/-! ### the reaches are sound -/
mutual
theorem val_mst : ∀ (q : QE) (t : Int), okQ q → -mst q ≤ val q t ∧ val q t ≤ mst q
  | .number n, t, _ => by simp only [val, mst, absI]; split <;> omega
  | .wave a, t, _ => by
    simp only [val, mst]
    have := Wv_top (ang a t)
    unfold ab at this
    split at this <;> omega
  | .sum qs, t, h => by simp only [val, mst]; simp only [okQ] at h; exact vals_mst qs t h.1
  | .share q n d, t, h => by
    simp only [val, mst]; simp only [okQ] at h
    have h1 := val_mst q t h.1
    have h2 := mul_size (y := n) (b := absI n) h1.1 h1.2 (by unfold absI; split <;> omega) (by unfold absI; split <;> omega)
    exact div_size h.2.2.1 h2.1 h2.2
  | .product p q d, t, h => by
    simp only [val, mst]; simp only [okQ] at h
    have h1 := val_mst p t h.1
    have h3 := val_mst q t h.2.1
    have h2 := mul_size h1.1 h1.2 h3.1 h3.2
    exact div_size h.2.2.1 h2.1 h2.2
  | .later q k, t, h => by simp only [val, mst]; simp only [okQ] at h; exact val_mst q (t + k) h.1
theorem vals_mst : ∀ (qs : List QE) (t : Int), okS qs → -(msts qs).sum ≤ (vals qs t).sum ∧ (vals qs t).sum ≤ (msts qs).sum
  | [], _, _ => by simp [vals, msts]
  | q :: r, t, h => by
    simp only [okS] at h
    have h1 := val_mst q t h.1
    have h2 := vals_mst r t h.2
    simp only [vals, msts, List.sum_cons]
    omega
end
theorem min_of {x m r : Int} (h1 : x ≤ 2 * m) (h2 : x ≤ r) : x ≤ (if 2 * m < r then 2 * m else r) := by split <;> omega
theorem wave_far (x y r : Int) (h1 : x - y ≤ r) (h2 : y - x ≤ r) : Wv x - Wv y ≤ wrch r := by
  by_cases e : x = y
  · subst e
    have := wrch_nn (x := r)
    omega
  · have := lip x y
    have a : ab (x - y) ≤ r := by unfold ab; split <;> omega
    have b : 0 < ab (x - y) := by unfold ab; split <;> omega
    have c : 0 < r := by omega
    unfold wrch
    rw [if_pos c]
    have d : Wv x - Wv y ≤ ab (Wv x - Wv y) := by unfold ab; split <;> omega
    omega
theorem prod_far {x y u v a b c d : Int} (hx : -a ≤ x) (hx2 : x ≤ a) (hv : -b ≤ v) (hv2 : v ≤ b) (hy : y - v ≤ d) (hy2 : v - y ≤ d) (hu : x - u ≤ c) (hu2 : u - x ≤ c) : x * y - u * v ≤ a * d + b * c := by
  have h1 := (mul_size hx hx2 (show -d ≤ y - v by omega) hy).2
  have h2 := (mul_size hv hv2 (show -c ≤ x - u by omega) hu).2
  have e : x * y - u * v = x * (y - v) + v * (x - u) := by grind
  omega
mutual
theorem ang_far : ∀ (a : AE) (t s k : Int), okA a → 0 ≤ k → t - s ≤ k → s - t ≤ k → ang a t - ang a s ≤ rchA a k
  | .turning st n d, t, s, k, h, hk, h1, h2 => by
    simp only [okA] at h
    simp only [ang, rchA]
    have m := (mul_size (x := n) (a := absI n) (y := t - s) (b := k) (by unfold absI; split <;> omega) (by unfold absI; split <;> omega) (by omega) h1).2
    have := div_diff (x := n * t) (y := n * s) (m := absI n * k) h.2.2.1 (by rw [← Int.mul_sub]; exact m)
    omega
  | .moved a q, t, s, k, h, hk, h1, h2 => by
    simp only [okA] at h
    simp only [ang, rchA]
    have := ang_far a t s k h.1 hk h1 h2
    have := val_far q t s k h.2 hk h1 h2
    omega
  | .minus a b, t, s, k, h, hk, h1, h2 => by
    simp only [okA] at h
    simp only [ang, rchA]
    have := ang_far a t s k h.1 hk h1 h2
    have := ang_far b s t k h.2 hk h2 h1
    omega
theorem val_far : ∀ (q : QE) (t s k : Int), okQ q → 0 ≤ k → t - s ≤ k → s - t ≤ k → val q t - val q s ≤ rchQ q k
  | .number n, t, s, k, h, hk, h1, h2 => by
    simp only [val, rchQ]
    have := absI_nn n
    split <;> omega
  | .wave a, t, s, k, h, hk, h1, h2 => by
    have m1 := val_mst (.wave a) t h
    have m2 := val_mst (.wave a) s h
    simp only [okQ] at h
    simp only [val, rchQ, mst] at *
    exact min_of (by omega) (wave_far _ _ _ (ang_far a t s k h hk h1 h2) (ang_far a s t k h hk h2 h1))
  | .sum qs, t, s, k, h, hk, h1, h2 => by
    have m1 := val_mst (.sum qs) t h
    have m2 := val_mst (.sum qs) s h
    simp only [okQ] at h
    simp only [val, rchQ, mst] at *
    exact min_of (by omega) (vals_far qs t s k h.1 hk h1 h2)
  | .share q n d, t, s, k, h, hk, h1, h2 => by
    have m1 := val_mst (.share q n d) t h
    have m2 := val_mst (.share q n d) s h
    simp only [okQ] at h
    simp only [val, rchQ, mst] at *
    have a1 := val_far q t s k h.1 hk h1 h2
    have a2 := val_far q s t k h.1 hk h2 h1
    have m := (mul_size (y := n) (b := absI n) (x := val q t - val q s) (a := rchQ q k) (by omega) a1 (by unfold absI; split <;> omega) (by unfold absI; split <;> omega)).2
    exact min_of (by omega) (div_diff h.2.2.1 (by rw [← Int.sub_mul]; exact m))
  | .product p q d, t, s, k, h, hk, h1, h2 => by
    have m1 := val_mst (.product p q d) t h
    have m2 := val_mst (.product p q d) s h
    simp only [okQ] at h
    have b1 := val_mst p t h.1
    have b2 := val_mst q s h.2.1
    simp only [val, rchQ, mst] at *
    have a1 := val_far p t s k h.1 hk h1 h2
    have a2 := val_far p s t k h.1 hk h2 h1
    have a3 := val_far q t s k h.2.1 hk h1 h2
    have a4 := val_far q s t k h.2.1 hk h2 h1
    exact min_of (by omega) (div_diff h.2.2.1 (prod_far b1.1 b1.2 b2.1 b2.2 a3 a4 a1 a2))
  | .later q j, t, s, k, h, hk, h1, h2 => by
    have m1 := val_mst (.later q j) t h
    have m2 := val_mst (.later q j) s h
    simp only [okQ] at h
    simp only [val, rchQ, mst] at *
    exact min_of (by omega) (val_far q (t + j) (s + j) k h.1 hk (by omega) (by omega))
theorem vals_far : ∀ (qs : List QE) (t s k : Int), okS qs → 0 ≤ k → t - s ≤ k → s - t ≤ k → (vals qs t).sum - (vals qs s).sum ≤ (rchs qs k).sum
  | [], _, _, _, _, _, _, _ => by simp [vals, rchs]
  | q :: r, t, s, k, h, hk, h1, h2 => by
    simp only [okS] at h
    have := val_far q t s k h.1 hk h1 h2
    have := vals_far r t s k h.2 hk h1 h2
    simp only [vals, rchs, List.sum_cons]
    omega
end
theorem up_alt {n d : Int} (hd : 0 < d) : (n + d - 1) / d = upI n d := by
  unfold upI
  have h1 := Int.mul_ediv_add_emod n d
  have h2 := Int.emod_nonneg n (show d ≠ 0 by omega)
  have h3 := Int.emod_lt_of_pos n hd
  have e1 : n + d - 1 = (n % d + d - 1) + d * (n / d) := by omega
  have e2 : -n = -(n % d) + d * (-(n / d)) := by rw [Int.mul_neg]; omega
  rw [e1, e2, Int.add_mul_ediv_left _ _ (by omega), Int.add_mul_ediv_left _ _ (by omega)]
  by_cases z : n % d = 0
  · rw [z, show (0 + d - 1) / d = 0 from Int.ediv_eq_zero_of_lt (by omega) (by omega)]
    simp
  · rw [show (n % d + d - 1) / d = 1 by
      rw [show n % d + d - 1 = (n % d - 1) + d * 1 by omega, Int.add_mul_ediv_left _ _ (by omega), Int.ediv_eq_zero_of_lt (by omega) (by omega)]
      simp,
      show (-(n % d)) / d = -1 by
      rw [show -(n % d) = (d - n % d) + d * (-1) by omega, Int.add_mul_ediv_left _ _ (by omega), Int.ediv_eq_zero_of_lt (by omega) (by omega)]
      simp]
    omega
/-- what an expression's data looks like -/
theorem tyA (a : AE) : tyName (encA a) = "tuple" := by cases a <;> simp [encA, tyName]
theorem tyQ (a : QE) : tyName (encQ a) = "tuple" := by cases a <;> simp [encQ, tyName]
@[simp] theorem isA (a : AE) : isTy "tuple" (encA a) = true := by simp [isTy, tyA]
@[simp] theorem isQ (a : QE) : isTy "tuple" (encQ a) = true := by simp [isTy, tyQ]
@[simp] theorem neA (a : AE) : tyName (encA a) ≠ "" := by simp [tyA]
@[simp] theorem neQ (a : QE) : tyName (encQ a) ≠ "" := by simp [tyQ]
@[simp] theorem isI (i : Int) : isTy "tuple" (.int i) = false := by simp [isTy, tyName]
@[simp] theorem neI (i : Int) : tyName (.int i) ≠ "" := by simp [tyName]
theorem msts_map (qs : List QE) : msts qs = qs.map mst := by induction qs with
  | nil => simp [msts]
  | cons q r ih => simp [msts, ih]
theorem rchs_map (qs : List QE) (k : Int) : rchs qs k = qs.map fun q => rchQ q k := by induction qs with
  | nil => simp [rchs]
  | cons q r ih => simp [rchs, ih]
theorem nodS_map (qs : List QE) : nodS qs = qs.map nodQ := by induction qs with
  | nil => simp [nodS]
  | cons q r ih => simp [nodS, ih]
theorem encS_map (qs : List QE) : encS qs = qs.map encQ := by induction qs with
  | nil => simp [encS]
  | cons q r ih => simp [encS, ih]
theorem mostQ (q : QE) : ∃ k ps ns, nodQ q = .ins "Node" [("kind", k), ("parts", ps), ("numbers", ns), ("most", .int (mst q))] := by
  cases q <;> simp [nodQ, nodD, mst]
theorem kO (k : Int) (h : kOk k) : 0 ≤ k := h.1
theorem absN {i : Int} {b : Nat} (h : lt2 i.natAbs b) : lt2 (absI i).natAbs b := by rw [absI_natAbs]; exact h
end DL

set_option maxHeartbeats 4000000
namespace K30
open PySem DL
theorem sp_pick {xs : List D} (h0 : 0 < xs.length) (h1 : xs.length < 1000000) : W_u_law_pick [.st, .lst xs] (fun r => r ∈ xs) (fun _ => False) := by
  simp [W_u_law_pick_w]
  exact ⟨h0, log_nat (by omega), fun r h0 h1 => get_any h0 h1 fun _ h => h⟩
theorem pick_r (lo hi : Int) {xs : List D} {Q : DK} {E : Err → Prop} (hl : 0 < xs.length ∧ xs.length < 1000000) (h : ∀ d ∈ xs, ∃ s, d = .int s ∧ lo ≤ s ∧ s ≤ hi) (k : ∀ s, lo ≤ s → s ≤ hi → Q (.int s)) : up W_u_law_pick [.st, .lst xs] Q E :=
  up_use0 (sp_pick hl.1 hl.2) fun d hd => by
    obtain ⟨s, rfl, h1, h2⟩ := h d hd
    exact k s h1 h2
theorem pick_m {xs : List D} {Q : DK} {E : Err → Prop} (hl : 0 < xs.length ∧ xs.length < 1000000) (k : ∀ d ∈ xs, Q d) : up W_u_law_pick [.st, .lst xs] Q E :=
  up_use0 (sp_pick hl.1 hl.2) k
theorem sp_is {a b : Bool} : W_u_law_is [.bl a, .bl b] (fun r => r = .bl (a == b)) (fun _ => False) := by
  simp [W_u_law_is_w, isTy, tyName]
/-! agreement -/
theorem sp_up {n d : Int} (hd : divOk d) : W_ratio_up [.int n, .int d] (fun r => r = .int (upI n d)) (fun _ => False) := by
  simp [W_ratio_up_w, upI]
  exact hd
theorem fSorted_ints {ns : List Int} {Q : DK} (q : ∀ ns' : List Int, ns'.Perm ns → ns'.Pairwise (· ≤ ·) → Q (.lst (ns'.map D.int))) : fSorted [.lst (ns.map D.int)] Q := by
  simp only [fSorted, intsOf_map]
  exact q
/-- a source has a number -/
def inS (p : Int × Int) (x : Int) : Bool := decide (p.1 ≤ x) && decide (x ≤ p.2)
/-- in how many sources a number is -/
def cnt (S : List (Int × Int)) (x : Int) : Nat := (S.filter fun p => inS p x).length
def eno (S : List (Int × Int)) (f : Int) : Int := if (S.length : Int) - f > 1 then (S.length : Int) - f else 1
def Gd (S : List (Int × Int)) (f x : Int) : Prop := eno S f ≤ (cnt S x : Int)
/-- the pair of the least and the greatest good number, or None -/
def AG (S : List (Int × Int)) (f : Int) : DK := fun r => (r = .non ∧ ∀ x, ¬ Gd S f x) ∨ ∃ a b : Int, r = .tup [.int a, .int b] ∧ Gd S f a ∧ Gd S f b ∧ ∀ x, Gd S f x → a ≤ x ∧ x ≤ b
theorem AG_uniq {S : List (Int × Int)} {f : Int} {r s : D} (hr : AG S f r) (hs : AG S f s) : r = s := by
  rcases hr with ⟨rfl, h⟩ | ⟨a, b, rfl, ga, gb, h⟩ <;> rcases hs with ⟨rfl, k⟩ | ⟨c, d, rfl, gc, gd, k⟩
  · rfl
  · exact absurd gc (h _)
  · exact absurd ga (k _)
  · have := h c gc
    have := h d gd
    have := k a ga
    have := k b gb
    rw [show a = c by omega, show b = d by omega]
theorem eno_pos {S : List (Int × Int)} {f : Int} : 1 ≤ eno S f := by
  unfold eno
  split <;> omega
theorem Gd.mem {S : List (Int × Int)} {f x : Int} (h : Gd S f x) : ∃ p ∈ S, p.1 ≤ x ∧ x ≤ p.2 := by
  have e := eno_pos (S := S) (f := f)
  unfold Gd at h
  have : 0 < cnt S x := by omega
  unfold cnt at this
  rw [List.length_pos_iff_exists_mem] at this
  obtain ⟨p, hp⟩ := this
  obtain ⟨h1, h2⟩ := List.mem_filter.mp hp
  unfold inS at h2
  simp at h2
  exact ⟨p, h1, h2⟩
theorem cnt_mono {S : List (Int × Int)} {x y : Int} (h : ∀ p ∈ S, inS p x = true → inS p y = true) : cnt S x ≤ cnt S y := by
  unfold cnt
  induction S with
  | nil => simp
  | cons p S ih =>
    have ih := ih fun q hq => h q (by simp [hq])
    have h0 := h p (by simp)
    rw [List.filter_cons, List.filter_cons]
    cases e1 : inS p x with
    | false =>
      simp only [Bool.false_eq_true, if_false]
      split
      · simp only [List.length_cons]
        omega
      · exact ih
    | true =>
      rw [h0 e1]
      simpa using ih
/-- one below a good number that is no low -/
theorem Gd.below {S : List (Int × Int)} {f x : Int} (h : Gd S f x) (n : x ∉ S.map (·.1)) : Gd S f (x - 1) := by
  unfold Gd at h ⊢
  have := cnt_mono (S := S) (x := x) (y := x - 1) fun p hp hi => by
    unfold inS at hi ⊢
    simp at hi ⊢
    have : p.1 ≠ x := fun e => n (List.mem_map.mpr ⟨p, hp, e⟩)
    omega
  omega
theorem Gd.above {S : List (Int × Int)} {f x : Int} (h : Gd S f x) (n : x ∉ S.map (·.2)) : Gd S f (x + 1) := by
  unfold Gd at h ⊢
  have := cnt_mono (S := S) (x := x) (y := x + 1) fun p hp hi => by
    unfold inS at hi ⊢
    simp at hi ⊢
    have : p.2 ≠ x := fun e => n (List.mem_map.mpr ⟨p, hp, e⟩)
    omega
  omega
/-- below each good number stands a good low, above it a good high -/
theorem Gd.low {S : List (Int × Int)} {f : Int} : ∀ (n : Nat) {x : Int} {m : Int}, (∀ p ∈ S, m ≤ p.1) → x < m + n → Gd S f x → ∃ y ∈ S.map (·.1), y ≤ x ∧ Gd S f y
  | 0, x, m, hm, hx, h => by
    obtain ⟨p, hp, h1, h2⟩ := h.mem
    have := hm p hp
    omega
  | n + 1, x, m, hm, hx, h => by
    by_cases c : x ∈ S.map (·.1)
    · exact ⟨x, c, by omega, h⟩
    · obtain ⟨y, hy, l, g⟩ := Gd.low n hm (by omega) (h.below c)
      exact ⟨y, hy, by omega, g⟩
theorem Gd.high {S : List (Int × Int)} {f : Int} : ∀ (n : Nat) {x : Int} {m : Int}, (∀ p ∈ S, p.2 ≤ m) → m - n < x → Gd S f x → ∃ y ∈ S.map (·.2), x ≤ y ∧ Gd S f y
  | 0, x, m, hm, hx, h => by
    obtain ⟨p, hp, h1, h2⟩ := h.mem
    have := hm p hp
    omega
  | n + 1, x, m, hm, hx, h => by
    by_cases c : x ∈ S.map (·.2)
    · exact ⟨x, c, by omega, h⟩
    · obtain ⟨y, hy, l, g⟩ := Gd.high n hm (by omega) (h.above c)
      exact ⟨y, hy, by omega, g⟩
theorem lo_bound (S : List (Int × Int)) : ∃ m : Int, ∀ p ∈ S, m ≤ p.1 ∧ p.2 ≤ -m := by
  induction S with
  | nil => exact ⟨0, by simp⟩
  | cons p S ih =>
    obtain ⟨m, hm⟩ := ih
    have l1 : ∃ k : Int, k ≤ m ∧ k ≤ p.1 ∧ p.2 ≤ -k := by
      by_cases a : m ≤ p.1
      · by_cases b : p.2 ≤ -m
        · exact ⟨m, by omega, a, b⟩
        · exact ⟨-p.2, by omega, by omega, by omega⟩
      · by_cases b : p.2 ≤ -p.1
        · exact ⟨p.1, by omega, by omega, b⟩
        · by_cases c : -p.2 ≤ p.1
          · exact ⟨-p.2, by omega, c, by omega⟩
          · exact ⟨p.1, by omega, by omega, by omega⟩
    obtain ⟨k, k1, k2, k3⟩ := l1
    refine ⟨k, fun q hq => ?_⟩
    rcases List.mem_cons.mp hq with rfl | hq
    · exact ⟨k2, k3⟩
    · have := hm q hq
      omega
/-- what the program finds -/
theorem AG_of {S : List (Int × Int)} {f : Int} {good : List Int} (hg : ∀ x, x ∈ good ↔ (x ∈ S.map (·.1) ∨ x ∈ S.map (·.2)) ∧ Gd S f x) : (good = [] → ∀ x, ¬ Gd S f x) ∧ ∀ a b, a ∈ good → b ∈ good → (∀ y ∈ good, a ≤ y) → (∀ y ∈ good, y ≤ b) → AG S f (.tup [.int a, .int b]) := by
  obtain ⟨m, hm⟩ := lo_bound S
  have lo : ∀ x, Gd S f x → ∃ y ∈ good, y ≤ x := fun x h => by
    obtain ⟨y, h1, h2, h3⟩ := Gd.low (x - m + 1).toNat (m := m) (fun p hp => (hm p hp).1) (by omega) h
    exact ⟨y, (hg y).mpr ⟨.inl h1, h3⟩, h2⟩
  have hi : ∀ x, Gd S f x → ∃ y ∈ good, x ≤ y := fun x h => by
    obtain ⟨y, h1, h2, h3⟩ := Gd.high (-m - x + 1).toNat (m := -m) (fun p hp => (hm p hp).2) (by omega) h
    exact ⟨y, (hg y).mpr ⟨.inr h1, h3⟩, h2⟩
  refine ⟨fun e x h => ?_, fun a b ha hb la lb => .inr ⟨a, b, rfl, ((hg a).mp ha).2, ((hg b).mp hb).2, fun x h => ?_⟩⟩
  · obtain ⟨y, hy, _⟩ := lo x h
    rw [e] at hy
    cases hy
  · obtain ⟨y, hy, l⟩ := lo x h
    obtain ⟨z, hz, k⟩ := hi x h
    have := la y hy
    have := lb z hz
    omega
def srcD (S : List (Int × Int)) : D := .lst (S.map pairD)
theorem sp_count {S : List (Int × Int)} {x : Int} (h : S.length ≤ 100) : W_count_of [srcD S, .int x] (fun r => r = .int (cnt S x)) fun _ => False := by
  have hh : lineMax = 16777216 := rfl
  simp [W_count_of_w, srcD]
  refine lcD_ft pairD (fun p => inS p x) (fun _ => D.int 1) S (fun p hp A R hA hR => ?_) (by omega) ?_
  · simp [pairD]
    by_cases c1 : p.1 ≤ x <;> by_cases c2 : x ≤ p.2 <;> simp [c1, c2, inS] at hA hR ⊢ <;> first | exact hA | exact hR
  · simp [cnt]
theorem sp_agreement {S : List (Int × Int)} {f : Int} (h : S.length ≤ 100) : W_agreement [srcD S, .int f] (AG S f) fun _ => False := by
  have hh : lineMax = 16777216 := rfl
  simp [W_agreement_w, V_agreement_0_w, srcD]
  rw [show (if 1 < (S.length : Int) - f then (S.length : Int) - f else 1) = eno S f from rfl]
  simp only [V_agreement_1_w]
  simp
  refine lcD_list pairD (fun p => D.int p.1) S [] (fun p hp A R a => ?_) (by simp; omega) ?_
  · simp [pairD]
    exact a
  rw [List.nil_append, show (S.map fun p => D.int p.1) = (S.map (·.1)).map D.int by rw [List.map_map]; rfl]
  refine .inl (fSorted_ints fun lows p1 _ => ?_)
  simp only [V_agreement_2_w]
  simp
  refine lcD_list pairD (fun p => D.int p.2) S [] (fun p hp A R a => ?_) (by simp; omega) ?_
  · simp [pairD]
    exact a
  rw [List.nil_append, show (S.map fun p => D.int p.2) = (S.map (·.2)).map D.int by rw [List.map_map]; rfl]
  refine .inl (fSorted_ints fun highs p2 _ => ?_)
  have l1 := p1.length_eq
  have l2 := p2.length_eq
  rw [List.length_map] at l1 l2
  simp only [V_agreement_3_w]
  simp
  refine ⟨by omega, ?_⟩
  rw [← List.map_append]
  refine lcD_ft D.int (fun x => decide (eno S f ≤ (cnt S x : Int))) D.int (lows ++ highs) (fun x hx A R hA hR => ?_) (by simp; omega) ?_
  · simp
    refine up_use0 (sp_count h) ?_
    rintro _ rfl
    simp
    refine ite2' (fun c => hA (by simpa using c)) (fun c => hR (by simpa using c))
  have hg : ∀ x, x ∈ (lows ++ highs).filter (fun x => decide (eno S f ≤ (cnt S x : Int))) ↔ (x ∈ S.map (·.1) ∨ x ∈ S.map (·.2)) ∧ Gd S f x := fun x => by
    rw [List.mem_filter, List.mem_append, p1.mem_iff, p2.mem_iff, decide_eq_true_eq]
    rfl
  generalize (lows ++ highs).filter (fun x => decide (eno S f ≤ (cnt S x : Int))) = good at *
  obtain ⟨a1, a2⟩ := AG_of hg
  simp only [V_agreement_4_w]
  simp
  refine ite2' (fun c => .inl ⟨rfl, a1 c⟩) (fun c => ?_)
  refine fMin_ints c fun a ha la => ?_
  exact fMax_ints c fun b hb lb => a2 a b ha hb la lb
/-- what the law finds -/
theorem sp_lagreement {S : List (Int × Int)} {f : Int} (h : S.length ≤ 100) (h0 : S ≠ []) {t : Int} (ht : -1000000000 ≤ t ∧ t ≤ 1000000000) (hb : ∀ p ∈ S, t - 100 ≤ p.1 ∧ p.1 ≤ t + 100 ∧ t - 100 ≤ p.2 ∧ p.2 ≤ t + 100) : W_u_law_agreement [srcD S, .int f] (AG S f) fun _ => False := by
  have hh : lineMax = 16777216 := rfl
  simp [W_u_law_agreement_w, V_u_law_agreement_0_w, srcD]
  rw [show (if 1 < (S.length : Int) - f then (S.length : Int) - f else 1) = eno S f from rfl]
  simp only [V_u_law_agreement_1_w]
  simp
  simp only [V_u_law_agreement_2_w]
  simp
  refine lcD_list pairD (fun p => D.int p.1) S [] (fun p hp A R a => ?_) (by simp; omega) ?_
  · simp [pairD]
    exact a
  rw [List.nil_append, show (S.map fun p => D.int p.1) = (S.map (·.1)).map D.int by rw [List.map_map]; rfl]
  refine fMin_ints (by simpa using h0) fun m hm lm => ?_
  refine lcD_list pairD (fun p => D.int p.2) S [] (fun p hp A R a => ?_) (by simp; omega) ?_
  · simp [pairD]
    exact a
  rw [List.nil_append, show (S.map fun p => D.int p.2) = (S.map (·.2)).map D.int by rw [List.map_map]; rfl]
  refine fMax_ints (by simpa using h0) fun M hM lM => ?_
  simp
  obtain ⟨pm, hpm, em⟩ := List.mem_map.mp hm
  obtain ⟨pM, hpM, eM⟩ := List.mem_map.mp hM
  have b1 := hb pm hpm
  have b2 := hb pM hpM
  refine ⟨by omega, ?_⟩
  have inr : ∀ x, Gd S f x → m ≤ x ∧ x ≤ M := fun x hx => by
    obtain ⟨p, hp, q1, q2⟩ := hx.mem
    have := lm _ (List.mem_map.mpr ⟨p, hp, rfl⟩)
    have := lM _ (List.mem_map.mpr ⟨p, hp, rfl⟩)
    omega
  refine forL_rng (fun i ρ => ∃ (s1 s4 s5 : Sl) (good : List Int), ρ = [.v (.lst (S.map pairD)), s1, .v (.int (eno S f)), .o (.lst (good.map D.int)), s4, s5] ∧ (∀ x, x ∈ good ↔ (m ≤ x ∧ x < m + i) ∧ Gd S f x) ∧ good.Pairwise (· < ·) ∧ good.length ≤ i) ⟨_, _, _, [], rfl, fun x => ⟨fun z => (by cases z), fun z => (by obtain ⟨⟨a, b⟩, _⟩ := z; omega)⟩, .nil, by simp⟩ ?_ ?_
  · rintro i ρ nx hi ⟨s1, s4, s5, good, rfl, hg, pw, lg⟩ hn
    simp
    simp only [V_u_law_agreement_L1_0_w]
    simp
    refine lcD_ft pairD (fun p => inS p (m + i)) (fun _ => D.int 1) S (fun p hp A R hA hR => ?_) (by omega) ?_
    · simp [pairD]
      by_cases c1 : p.1 ≤ m + i <;> by_cases c2 : m + i ≤ p.2 <;> simp [c1, c2, inS] at hA hR ⊢ <;> first | exact hA | exact hR
    · rw [List.length_map]
      refine ite2' (fun c => ?_) (fun c => ?_)
      · have gd : Gd S f (m + i) := c
        refine ⟨by omega, ?_⟩
        simp only [V_u_law_agreement_L1_1_w]
        simp
        refine hn _ ⟨.no, .no, .no, good ++ [m + i], by simp, fun x => ?_, List.pairwise_append.mpr ⟨pw, by simp, fun a ha b hb => ?_⟩, by simp; omega⟩
        · rw [List.mem_append, hg, List.mem_singleton]
          constructor
          · rintro (z | rfl)
            · exact ⟨⟨z.1.1, by omega⟩, z.2⟩
            · exact ⟨⟨by omega, by omega⟩, gd⟩
          · rintro ⟨⟨z1, z2⟩, z3⟩
            by_cases e : x = m + i
            · exact .inr e
            · exact .inl ⟨⟨z1, by omega⟩, z3⟩
        · rw [List.mem_singleton.mp hb]
          exact ((hg a).mp ha).1.2
      · have gd : ¬ Gd S f (m + i) := c
        simp only [V_u_law_agreement_L1_1_w]
        simp
        refine hn _ ⟨_, _, _, good, rfl, fun x => ?_, pw, by omega⟩
        rw [hg]
        constructor
        · rintro ⟨⟨z1, z2⟩, z3⟩
          exact ⟨⟨z1, by omega⟩, z3⟩
        · rintro ⟨⟨z1, z2⟩, z3⟩
          have : x ≠ m + i := fun e => gd (e ▸ z3)
          exact ⟨⟨z1, by omega⟩, z3⟩
  · rintro ρ ⟨s1, s4, s5, good, rfl, hg, pw, lg⟩
    have hall : ∀ x, Gd S f x → x ∈ good := fun x hx => (hg x).mpr ⟨by have := inr x hx; omega, hx⟩
    simp
    simp only [V_u_law_agreement_3_w]
    simp
    cases good with
    | nil =>
      simp
      exact .inl ⟨rfl, fun x hx => by have := hall x hx; cases this⟩
    | cons a r =>
      have ga := (hg a).mp (by simp)
      have la : ∀ x, Gd S f x → a ≤ x := fun x hx => by
        rcases List.mem_cons.mp (hall x hx) with rfl | z
        · omega
        · have := (List.pairwise_cons.mp pw).1 x z
          omega
      rcases List.eq_nil_or_concat r with rfl | ⟨q, l, e0⟩
      · simp
        refine .inr ⟨a, a, rfl, ga.2, ga.2, fun x hx => ?_⟩
        have := hall x hx
        have : x = a := by simpa using this
        omega
      · rw [List.concat_eq_append] at e0
        subst e0
        have gl := (hg l).mp (by simp)
        have e1 : atI (D.int a :: (q ++ [l]).map D.int) (-1) = some (.int l) := by
          rw [List.map_append, ← List.cons_append]
          exact atI_last
        have lastG : ∀ x, Gd S f x → x ≤ l := fun x hx => by
          have pw2 := (List.pairwise_cons.mp pw).2
          have pw1 := (List.pairwise_cons.mp pw).1
          rcases List.mem_cons.mp (hall x hx) with rfl | z
          · have := pw1 l (by simp)
            omega
          · rcases List.mem_append.mp z with z | z
            · have := (List.pairwise_append.mp pw2).2.2 x z l (by simp)
              omega
            · have := List.mem_singleton.mp z
              omega
        simp at e1 ⊢
        rw [e1]
        exact .inr ⟨a, l, rfl, ga.2, gl.2, fun x hx => ⟨la x hx, lastG x hx⟩⟩
/-! ### the clock -/
def kD (rate lo hi : Int) : D := .ins "KeptClock" [(Str.ofString "_rate", .int rate), (Str.ofString "_low", .int lo), (Str.ofString "_high", .int hi)]
theorem sp_make {r lo hi : Int} : W_KeptClock___init__ [.int r, .int lo, .int hi] (fun z => z = kD r lo hi) fun _ => False := by
  simp [W_KeptClock___init___w, V_KeptClock___init___0_w]
  simp only [V_KeptClock___init___1_w]
  simp
  simp only [V_KeptClock___init___2_w]
  simp [kD]
theorem sp_known {r lo hi : Int} : W_KeptClock_known [kD r lo hi] (fun z => z = .tup [.int lo, .int hi]) fun _ => False := by
  simp [W_KeptClock_known_w, kD]
def kC (rate lo hi d : Int) : D := kD rate (lo + (d - (d * rate + 999999) / 1000000)) (hi + (d + (d * rate + 999999) / 1000000))
theorem sp_kcount {r lo hi d : Int} (h : mulOk d r) : W_KeptClock_count [kD r lo hi, .int d] (fun z => z = dPair .non (kC r lo hi d)) fun _ => False := by
  simp [W_KeptClock_count_w, V_KeptClock_count_0_w, kD]
  refine ⟨h, ?_⟩
  refine up_use0 (sp_up (div_ok (by omega) (by omega))) ?_
  rintro _ rfl
  rw [show upI (d * r) 1000000 = (d * r + 999999) / 1000000 by unfold upI; omega]
  simp only [V_KeptClock_count_1_w]
  simp
  simp only [V_KeptClock_count_2_w]
  simp [kC, kD]
/-- what hear does with an agreement -/
def HR (r lo hi : Int) (due : D) (z : D) : Prop := (due = .non ∧ z = dPair (.bl false) (kD r lo hi)) ∨ ∃ a b : Int, due = .tup [.int a, .int b] ∧ ((a ≤ hi ∧ lo ≤ b ∧ z = dPair (.bl true) (kD r (if a > lo then a else lo) (if b < hi then b else hi))) ∨ (¬ (a ≤ hi ∧ lo ≤ b) ∧ z = dPair (.bl false) (kD r lo hi)))
theorem sp_hear {r lo hi f : Int} {S : List (Int × Int)} (h : S.length ≤ 100) : W_KeptClock_hear [kD r lo hi, srcD S, .int f] (fun z => ∃ due, AG S f due ∧ HR r lo hi due z) fun _ => False := by
  generalize hP : (fun z => ∃ due, AG S f due ∧ HR r lo hi due z) = P
  have fin : ∀ due z, AG S f due → HR r lo hi due z → P z := fun due z a b => by rw [← hP]; exact ⟨due, a, b⟩
  clear hP
  simp [W_KeptClock_hear_w, V_KeptClock_hear_0_w, kD]
  refine up_use0 (sp_agreement h) ?_
  intro due ag
  have ag0 := ag
  simp only [V_KeptClock_hear_1_w]
  rcases ag with ⟨rfl, _⟩ | ⟨a, b, rfl, _⟩
  · simp
    exact fin _ _ ag0 (.inl ⟨rfl, rfl⟩)
  · simp
    refine ite2' (fun c => fin _ _ ag0 (.inr ⟨a, b, rfl, .inr ⟨by omega, rfl⟩⟩)) (fun c => ?_)
    refine ite2' (fun c2 => fin _ _ ag0 (.inr ⟨a, b, rfl, .inr ⟨by omega, rfl⟩⟩)) (fun c2 => ?_)
    simp only [V_KeptClock_hear_2_w]
    simp
    simp only [V_KeptClock_hear_3_w]
    simp
    simp only [V_KeptClock_hear_4_w]
    simp
    exact fin _ _ ag0 (.inr ⟨a, b, rfl, .inl ⟨by omega, by omega, rfl⟩⟩)
/-! ### the law's sources -/
def Near (t : Int) (p : Int × Int) : Prop := t - 100 ≤ p.1 ∧ p.1 ≤ t + 100 ∧ t - 100 ≤ p.2 ∧ p.2 ≤ t + 100
theorem sp_source {t : Int} {b : Bool} : W_u_law_source [.st, .int t, .bl b] (fun r => ∃ p, r = pairD p ∧ (b = true → inS p t = true) ∧ Near t p) fun _ => False := by
  generalize hP : (fun r => ∃ p, r = pairD p ∧ (b = true → inS p t = true) ∧ Near t p) = P
  have fin : ∀ x y : Int, (b = true → inS (x, y) t = true) → Near t (x, y) → P (.tup [.int x, .int y]) := fun x y h1 h2 => by rw [← hP]; exact ⟨(x, y), rfl, h1, h2⟩
  clear hP
  simp [W_u_law_source_w, V_u_law_source_0_w]
  cases b with
  | true =>
    simp
    intro u u0 u1 v v0 v1
    refine fin _ _ (fun _ => by unfold inS; simp; omega) ?_
    show _ ∧ _ ∧ _ ∧ _
    simp only
    omega
  | false =>
    simp
    simp only [V_u_law_source_1_w]
    simp
    intro u u0 u1
    simp only [V_u_law_source_2_w]
    simp
    intro v v0 v1
    refine fin _ _ (fun z => by cases z) ?_
    show _ ∧ _ ∧ _ ∧ _
    simp only
    omega
theorem cnt_ins {S : List (Int × Int)} {p : Int × Int} {x : Int} {k : Nat} : cnt (S.take k ++ [p] ++ S.drop k) x = cnt S x + (if inS p x = true then 1 else 0) := by
  unfold cnt
  rw [List.filter_append, List.filter_append, List.length_append, List.length_append]
  have e : (S.filter fun p => inS p x).length = ((S.take k).filter fun p => inS p x).length + ((S.drop k).filter fun p => inS p x).length := by
    conv => lhs; rw [← List.take_append_drop k S]
    rw [List.filter_append, List.length_append]
  rw [e, List.filter_cons]
  split <;> simp <;> omega
/-! ### the law -/
theorem lg_int {i : Int} (h0 : 0 ≤ i) (h1 : i ≤ 1000000000) : i.natAbs.log2 < 9000 := log_nat (by omega)
def mineD (lo hi : Int) : D := .lst [.int lo, .int hi]
@[simp] theorem mine_0 {lo hi : Int} {Q : DK} : oIx (mineD lo hi) (.int 0) Q ↔ Q (.int lo) := by simp [mineD]
@[simp] theorem mine_1 {lo hi : Int} {Q : DK} : oIx (mineD lo hi) (.int 1) Q ↔ Q (.int hi) := by simp [mineD]
theorem law_L41 {nx bk : DL.Env → Prop} {time rate lo hi : Int} {honest : Bool} {s0 s6 s8 s9 s10 s11 s12 s13 s14 s15 s16 s17 s18 : Sl} (hh : honest = true → lo ≤ time ∧ time ≤ hi)
    (hn : ∀ s0 s6 s8 s9 s10 s11 s12 s13 s14 s15 s16 s17 s18 : Sl, nx [s0, .v .st, .v (.int time), .v (.int rate), .v (mineD lo hi), .o (kD rate lo hi), s6, .v (.bl honest), s8, s9, s10, s11, s12, s13, s14, s15, s16, s17, s18]) :
    V_law_L4_1 (fun _ _ => False) { nx := nx, rt := fun d => d = .bl true, bk := bk, ct := nx } [s0, .v .st, .v (.int time), .v (.int rate), .v (mineD lo hi), .o (kD rate lo hi), s6, .v (.bl honest), s8, s9, s10, s11, s12, s13, s14, s15, s16, s17, s18] := by
  have ek : ∀ Q, gIns "KeptClock" (kD rate lo hi) Q ↔ Q [(Str.ofString "_rate", .int rate), (Str.ofString "_low", .int lo), (Str.ofString "_high", .int hi)] := fun Q => by simp [kD]
  simp only [V_law_L4_1_w]
  simp
  rw [ek]
  refine ⟨by simp, ?_⟩
  refine up_use0 sp_known ?_
  rintro _ rfl
  simp
  have fin : ∀ s0 s6 s8 s9 s10 s11 s12 s13 s14 s15 s16 s17 s18 : Sl, V_law_L4_2 (fun _ _ => False) { nx := nx, rt := fun d => d = .bl true, bk := bk, ct := nx } [s0, .v .st, .v (.int time), .v (.int rate), .v (mineD lo hi), .o (kD rate lo hi), s6, .v (.bl honest), s8, s9, s10, s11, s12, s13, s14, s15, s16, s17, s18] := by
    intro _ _ _ _ _ _ _ _ _ _ _ _ _
    simp only [V_law_L4_2_w]
    simp
    exact hn _ _ _ _ _ _ _ _ _ _ _ _ _
  refine ite2' (fun c => ⟨(hh c).1, (hh c).2, fin _ _ _ _ _ _ _ _ _ _ _ _ _⟩) (fun _ => fin _ _ _ _ _ _ _ _ _ _ _ _ _)
/-- a step by the count -/
theorem law_B1 {E : EK} {K : DE} {time rate lo hi : Int} {honest : Bool} {s0 s6 s8 s9 s10 s11 s12 s13 s14 s15 s16 s17 s18 : Sl} (hr : 0 ≤ rate ∧ rate ≤ 1000000) (hh : honest = true → lo ≤ time ∧ time ≤ hi)
    (hn : ∀ (t2 lo2 hi2 : Int) (s0 s6 s8 s9 s10 s11 s12 s13 s14 s15 s16 s17 s18 : Sl), (honest = true → lo2 ≤ t2 ∧ t2 ≤ hi2) → time ≤ t2 → t2 ≤ time + 5000000 → K.nx [s0, .v .st, .v (.int t2), .v (.int rate), .v (mineD lo2 hi2), .o (kD rate lo2 hi2), s6, .v (.bl honest), s8, s9, s10, s11, s12, s13, s14, s15, s16, s17, s18]) :
    V_law_B1_0 E K [s0, .v .st, .v (.int time), .v (.int rate), .v (mineD lo hi), .o (kD rate lo hi), s6, .v (.bl honest), s8, s9, s10, s11, s12, s13, s14, s15, s16, s17, s18] := by
  have go : ∀ d : Int, 0 ≤ d → d ≤ 2000002 → V_law_B1_1 E K [s0, .v .st, .v (.int time), .v (.int rate), .v (mineD lo hi), .o (kD rate lo hi), s6, .v (.bl honest), s8, .v (.int d), s10, s11, s12, s13, s14, s15, s16, s17, s18] := by
    intro d d0 d1
    have m0 : 0 ≤ d * rate := Int.mul_nonneg d0 hr.1
    have m1 : d * rate ≤ d * 1000000 := Int.mul_le_mul_of_nonneg_left hr.2 d0
    have ek : kD rate lo hi = .ins "KeptClock" [(Str.ofString "_rate", .int rate), (Str.ofString "_low", .int lo), (Str.ofString "_high", .int hi)] := rfl
    simp only [V_law_B1_1_w]
    simp
    refine ⟨mul_ok (by omega) (by omega) (by omega) (by omega), div_ok (by omega) (by omega), ?_⟩
    simp only [V_law_B1_2_w]
    simp [ek]
    rw [← ek]
    refine up_use0 (sp_kcount (mul_ok (by omega) (by omega) (by omega) (by omega))) ?_
    rintro _ rfl
    have ekc : kC rate lo hi d = kD rate (lo + (d - (d * rate + 999999) / 1000000)) (hi + (d + (d * rate + 999999) / 1000000)) := rfl
    generalize hq : (d * rate + 999999) / 1000000 = q at *
    have q0 : 0 ≤ q := by omega
    have q1 : q ≤ d := by omega
    rw [ekc]
    refine ⟨rfl, ?_⟩
    simp only [V_law_B1_3_w]
    simp
    refine ⟨mul_ok (by omega) (by omega) (by omega) (by omega), by omega, lg_int (by omega) (by omega), fun u u0 u1 => ?_⟩
    simp only [V_law_B1_4_w]
    simp
    have e1 : lo + (d - q) = lo + d - q := by omega
    have e2 : hi + (d + q) = hi + d + q := by omega
    rw [e1, e2]
    refine hn _ _ _ _ _ _ _ _ _ _ _ _ _ _ _ _ (fun c => ?_) (by omega) (by omega)
    have := hh c
    omega
  simp only [V_law_B1_0_w]
  simp
  refine ite2' (fun _ r r0 r1 => ⟨mul_ok (by omega) (by omega) (by omega) (by omega), fun v v0 v1 => go _ (by omega) (by omega)⟩) (fun _ => ?_)
  refine pick_r 1 3000 (by simp) (by simp) fun b b0 b1 => ?_
  simp
  exact ⟨by omega, lg_int (by omega) (by omega), fun d d0 d1 => go _ (by omega) (by omega)⟩
/-- a step by sources -/
theorem law_B3 {nx bk ct : DL.Env → Prop} {time rate lo hi : Int} {honest : Bool} {s0 s6 s8 s9 s10 s11 s12 s13 s14 s15 s16 s17 s18 : Sl} (ht : -1000000000 ≤ time ∧ time ≤ 1000000000) (hh : honest = true → lo ≤ time ∧ time ≤ hi)
    (hn : ∀ (lo2 hi2 : Int) (s0 s6 s8 s9 s10 s11 s12 s13 s14 s15 s16 s17 s18 : Sl), (honest = true → lo2 ≤ time ∧ time ≤ hi2) → nx [s0, .v .st, .v (.int time), .v (.int rate), .v (mineD lo2 hi2), .o (kD rate lo2 hi2), s6, .v (.bl honest), s8, s9, s10, s11, s12, s13, s14, s15, s16, s17, s18]) :
    V_law_B3_0 (fun _ _ => False) { nx := nx, rt := fun d => d = .bl true, bk := bk, ct := ct } [s0, .v .st, .v (.int time), .v (.int rate), .v (mineD lo hi), .o (kD rate lo hi), s6, .v (.bl honest), s8, s9, s10, s11, s12, s13, s14, s15, s16, s17, s18] := by
  have hL : lineMax = 16777216 := rfl
  simp only [V_law_B3_0_w]
  simp
  intro n n0 n1
  obtain ⟨k, rfl⟩ := Int.eq_ofNat_of_zero_le n0
  rw [show (1 : Int) + (k : Int) = ((k + 1 : Nat) : Int) by omega]
  generalize hm : k + 1 = m
  have m0 : 0 < m := by omega
  have m1 : m ≤ 7 := by omega
  have go : ∀ (f : Int) (w : Nat), 0 ≤ f → f ≤ 20 → (honest = true → f < m ∧ (w : Int) ≤ f) → (w ≤ m) → V_law_B3_3 (fun _ _ => False) { nx := nx, rt := fun d => d = .bl true, bk := bk, ct := ct } [s0, .v .st, .v (.int time), .v (.int rate), .v (mineD lo hi), .o (kD rate lo hi), s6, .v (.bl honest), s8, s9, s10, .v (.int m), .v (.int f), .v (.int w), s14, s15, s16, s17, s18] := by
    intro f w f0 f1 hw wm
    simp only [V_law_B3_3_w]
    simp
    simp only [V_law_B3_4_w]
    simp
    refine ⟨by omega, ?_⟩
    refine forL_rng (fun i ρ => ∃ (S : List (Int × Int)) (s0 s6 s8 s9 s10 s11 s15 s16 s17 s18 : Sl), ρ = [s0, .v .st, .v (.int time), .v (.int rate), .v (mineD lo hi), .o (kD rate lo hi), s6, .v (.bl honest), s8, s9, s10, s11, .v (.int f), .v (.int w), .o (srcD S), s15, s16, s17, s18] ∧ S.length = i ∧ (∀ p ∈ S, Near time p) ∧ i - w ≤ cnt S time) ⟨[], _, _, _, _, _, _, _, _, _, _, rfl, rfl, by simp, by simp⟩ ?_ ?_
    · rintro i ρ nx2 hi2 ⟨S, s0, s6, s8, s9, s10, s11, s15, s16, s17, s18, rfl, l, near, c⟩ hn2
      simp
      simp only [V_law_L2_0_w]
      simp [srcD]
      refine ⟨lg_int (by omega) (by omega), fun r r0 r1 => ?_⟩
      refine up_use0 sp_source ?_
      rintro _ ⟨p, rfl, hp, np⟩
      refine ⟨⟨by omega, by omega, by omega⟩, ?_⟩
      simp only [V_law_L2_1_w]
      simp
      refine hn2 _ ⟨S.take r.toNat ++ [p] ++ S.drop r.toNat, .no, .no, .no, .no, .no, .no, .no, .no, .no, .no, by simp [srcD], by simp; omega, fun q hq => ?_, ?_⟩
      · rw [List.mem_append, List.mem_append] at hq
        rcases hq with (z | z) | z
        · exact near q (List.mem_of_mem_take z)
        · rw [List.mem_singleton.mp z]
          exact np
        · exact near q (List.mem_of_mem_drop z)
      · rw [cnt_ins]
        by_cases d : w ≤ i
        · rw [if_pos (hp (by simpa using d))]
          omega
        · omega
    · rintro ρ ⟨S, s0, s6, s8, s9, s10, s11, s15, s16, s17, s18, rfl, l, near, c⟩
      simp
      have S0 : S ≠ [] := fun z => by rw [z] at l; simp at l; omega
      simp only [V_law_B3_5_w]
      simp
      refine up_use0 (sp_lagreement (t := time) (by omega) S0 (by omega) near) ?_
      intro due ag
      have okd : okD 60 due = true := by rcases ag with ⟨rfl, _⟩ | ⟨a, b, rfl, _⟩ <;> simp
      have eqd : eqD due due = true := eqD_self 60 _ okd
      have oks : okD 60 (srcD S) = true := by
        simp only [srcD, ok_lst]
        exact oks_map fun p _ => by simp [pairD]
      have eqs : eqD (srcD S) (srcD S) = true := eqD_self 60 _ oks
      have eL : ∀ Q, fList [srcD S] Q ↔ Q (srcD S) := fun Q => ⟨fun h => h, fun h => h⟩
      simp only [V_law_B3_6_w]
      simp [eL]
      simp only [V_law_B3_7_w]
      simp [eL]
      refine up_use0 (sp_agreement (by omega)) ?_
      intro due2 ag2
      rw [AG_uniq ag2 ag]
      refine ⟨okd, okd, eqd, oks, eqs, ?_⟩
      have gt : honest = true → Gd S f time := fun hc => by
        have := hw hc
        unfold Gd eno
        rw [l]
        split <;> omega
      have h11 : ∀ (met : Bool) (lo2 hi2 : Int), (∀ z, HR rate lo hi due z → z = dPair (.bl met) (kD rate lo2 hi2)) → (honest = true → lo2 ≤ time ∧ time ≤ hi2) → V_law_B3_11 (fun _ _ => False) { nx := nx, rt := fun d => d = .bl true, bk := bk, ct := ct }
          [s0, .v .st, .v (.int time), .v (.int rate), .v (mineD lo2 hi2), .o (kD rate lo hi), s6, .v (.bl honest), s8, s9, s10, s11, .v (.int f), .v (.int w), .v (srcD S), s15, .v due, .v (srcD S), .v (.bl met)] := by
        intro met lo2 hi2 hz hh2
        have ek : kD rate lo hi = .ins "KeptClock" [(Str.ofString "_rate", .int rate), (Str.ofString "_low", .int lo), (Str.ofString "_high", .int hi)] := rfl
        simp only [V_law_B3_11_w]
        simp [ek, eL]
        rw [← ek]
        refine up_use0 (sp_hear (by omega)) ?_
        rintro z ⟨due3, ag3, hr⟩
        rw [AG_uniq ag3 ag] at hr
        rw [hz z hr]
        refine ⟨rfl, ?_⟩
        refine up_use0 sp_is ?_
        rintro _ rfl
        simp
        exact ⟨oks, eqs, hn _ _ _ _ _ _ _ _ _ _ _ _ _ _ _ hh2⟩
      simp only [V_law_B3_8_w]
      rcases ag with ⟨rfl, no⟩ | ⟨a, b, rfl, ga, gb, ab⟩
      · have hf : honest = false := by
          cases honest with
          | false => rfl
          | true => exact absurd (gt rfl) (no _)
        subst hf
        simp
        simp only [V_law_B3_9_w]
        simp
        simp only [V_law_B3_10_w]
        simp
        refine h11 false lo hi (fun z hz => ?_) hh
        rcases hz with ⟨_, rfl⟩ | ⟨a, b, e, _⟩
        · rfl
        · cases e
      · have h9 : V_law_B3_9 (fun _ _ => False) { nx := nx, rt := fun d => d = .bl true, bk := bk, ct := ct } [s0, .v .st, .v (.int time), .v (.int rate), .v (mineD lo hi), .o (kD rate lo hi), s6, .v (.bl honest), s8, s9, s10, s11, .v (.int f), .v (.int w), .v (srcD S), s15, .v (.tup [.int a, .int b]), .v (srcD S), s18] := by
          simp only [V_law_B3_9_w]
          simp
          have rest : ∀ met : Bool, (met = true ↔ a ≤ hi ∧ lo ≤ b) → V_law_B3_10 (fun _ _ => False) { nx := nx, rt := fun d => d = .bl true, bk := bk, ct := ct } [s0, .v .st, .v (.int time), .v (.int rate), .v (mineD lo hi), .o (kD rate lo hi), s6, .v (.bl honest), s8, s9, s10, s11, .v (.int f), .v (.int w), .v (srcD S), s15, .v (.tup [.int a, .int b]), .v (srcD S), .v (.bl met)] := by
            intro met hmet
            simp only [V_law_B3_10_w]
            simp
            refine ite2' (fun c => ?_) (fun c => ?_)
            · have ok := hmet.mp c
              refine h11 met (if a > lo then a else lo) (if b < hi then b else hi) (fun z hz => ?_) (fun hc => ?_)
              · rcases hz with ⟨e, _⟩ | ⟨a2, b2, e, q⟩
                · cases e
                · cases e
                  rcases q with ⟨_, _, e⟩ | ⟨no, _⟩
                  · rw [e, c]
                  · exact absurd ok no
              · have := hh hc
                have := ab time (gt hc)
                split <;> split <;> omega
            · have cf : met = false := by simpa using c
              refine h11 met lo hi (fun z hz => ?_) hh
              rcases hz with ⟨e, _⟩ | ⟨a2, b2, e, q⟩
              · cases e
              · cases e
                rcases q with ⟨q1, q2, _⟩ | ⟨_, e⟩
                · exact absurd (hmet.mpr ⟨q1, q2⟩) c
                · rw [e, cf]
          refine ite2' (fun c => rest _ ?_) (fun c => rest _ ?_)
          · simp [c]
          · simp [c]
        simp
        exact ite2' (fun c => ⟨(ab time (gt c)).1, (ab time (gt c)).2, h9⟩) (fun _ => h9)
  have go2 : ∀ f : Int, 0 ≤ f → f < 20 → (honest = true → f < m) → V_law_B3_2 (fun _ _ => False) { nx := nx, rt := fun d => d = .bl true, bk := bk, ct := ct } [s0, .v .st, .v (.int time), .v (.int rate), .v (mineD lo hi), .o (kD rate lo hi), s6, .v (.bl honest), s8, s9, s10, .v (.int m), .v (.int f), s13, s14, s15, s16, s17, s18] := by
    intro f f0 f1 hf
    simp only [V_law_B3_2_w]
    simp
    refine ite2' (fun c => ?_) (fun c => ?_)
    · refine ⟨by omega, lg_int (by omega) (by omega), fun w w0 w1 => ?_⟩
      obtain ⟨w, rfl⟩ := Int.eq_ofNat_of_zero_le w0
      have := hf c
      exact go f w f0 (by omega) (fun _ => ⟨hf c, by omega⟩) (by omega)
    · refine ⟨lg_int (by omega) (by omega), fun w w0 w1 => ?_⟩
      obtain ⟨w, rfl⟩ := Int.eq_ofNat_of_zero_le w0
      exact go f w f0 (by omega) (fun z => absurd z c) (by omega)
  simp only [V_law_B3_1_w]
  simp
  refine ite2' (fun c => ⟨m0, log_nat (by omega), fun f f0 f1 => go2 f f0 (by omega) fun _ => f1⟩) (fun c => ⟨by omega, lg_int (by omega) (by omega), fun f f0 f1 => go2 f f0 (by omega) fun z => absurd z c⟩)
theorem law_L4 {nx bk : DL.Env → Prop} {time rate lo hi : Int} {honest : Bool} {s0 s6 s8 s9 s10 s11 s12 s13 s14 s15 s16 s17 s18 : Sl} (hr : 0 ≤ rate ∧ rate ≤ 1000000) (ht : -900000000 ≤ time ∧ time ≤ 900000000) (hh : honest = true → lo ≤ time ∧ time ≤ hi)
    (hn : ∀ (t2 lo2 hi2 : Int) (s0 s6 s8 s9 s10 s11 s12 s13 s14 s15 s16 s17 s18 : Sl), (honest = true → lo2 ≤ t2 ∧ t2 ≤ hi2) → time ≤ t2 → t2 ≤ time + 5000000 → nx [s0, .v .st, .v (.int t2), .v (.int rate), .v (mineD lo2 hi2), .o (kD rate lo2 hi2), s6, .v (.bl honest), s8, s9, s10, s11, s12, s13, s14, s15, s16, s17, s18]) :
    V_law_L4_0 (fun _ _ => False) { nx := nx, rt := fun d => d = .bl true, bk := bk, ct := nx } [s0, .v .st, .v (.int time), .v (.int rate), .v (mineD lo hi), .o (kD rate lo hi), s6, .v (.bl honest), s8, s9, s10, s11, s12, s13, s14, s15, s16, s17, s18] := by
  simp only [V_law_L4_0_w]
  simp
  intro r r0 r1
  refine ite2' (fun _ => ?_) (fun _ => ?_)
  · refine law_B1 hr hh fun t2 lo2 hi2 _ _ _ _ _ _ _ _ _ _ _ _ _ h a b => ?_
    exact law_L41 h fun _ _ _ _ _ _ _ _ _ _ _ _ _ => hn _ _ _ _ _ _ _ _ _ _ _ _ _ _ _ _ h a b
  · refine law_B3 (by omega) hh fun lo2 hi2 _ _ _ _ _ _ _ _ _ _ _ _ _ h => ?_
    exact law_L41 h fun _ _ _ _ _ _ _ _ _ _ _ _ _ => hn _ _ _ _ _ _ _ _ _ _ _ _ _ _ _ _ h (by omega) (by omega)
theorem vc_law : ∀ ns : List Int, ns.length ≤ 63 → W_law [.scr ns] (fun d => d = .bl true) fun _ => False := by
  intro ns hns
  simp [W_law_w, V_law_0_w, hns]
  simp only [V_law_1_w]
  simp
  intro t t0 t1
  simp only [V_law_2_w]
  simp
  intro ra ra0 ra1 rb rb0 rb1
  refine pick_r 0 1000000 (by simp) (fun d hd => ?_) fun rate r0 r1 => ?_
  · simp at hd
    rcases hd with rfl | rfl | rfl | rfl | rfl <;> exact ⟨_, rfl, by omega, by omega⟩
  simp only [V_law_3_w]
  simp
  intro a a0 a1 b b0 b1
  simp only [V_law_4_w]
  simp
  refine up_use0 sp_make ?_
  rintro _ rfl
  simp only [V_law_5_w]
  simp
  refine up_use0 sp_make ?_
  rintro _ rfl
  have ek : ∀ x y z : Int, kD x y z = .ins "KeptClock" [(Str.ofString "_rate", .int x), (Str.ofString "_low", .int y), (Str.ofString "_high", .int z)] := fun _ _ _ => rfl
  simp only [V_law_6_w]
  simp [ek 5 (-9) 9]
  rw [← ek]
  refine up_use0 (sp_kcount (mul_ok (by omega) (by omega) (by omega) (by omega))) ?_
  rintro _ rfl
  refine ⟨rfl, ?_⟩
  simp only [V_law_7_w]
  simp
  intro h h0 h1
  simp only [V_law_8_w]
  simp
  intro n n0 n1
  refine ⟨by omega, by omega, ?_⟩
  generalize hN : (1 + n).toNat = N
  have hN2 : N ≤ 14 := by omega
  refine forL_rng (fun i ρ => ∃ (t2 lo hi : Int) (s0 s6 s8 s9 s10 s11 s12 s13 s14 s15 s16 s17 s18 : Sl), ρ = [s0, .v .st, .v (.int t2), .v (.int rate), .v (mineD lo hi), .o (kD rate lo hi), s6, .v (.bl (decide (h = 0))), s8, s9, s10, s11, s12, s13, s14, s15, s16, s17, s18] ∧ (decide (h = 0) = true → lo ≤ t2 ∧ t2 ≤ hi) ∧ -1000 ≤ t2 ∧ t2 ≤ 1100 + 5000000 * i) ⟨t - 1000, t - 1000 - a, t - 1000 + b, _, _, _, _, _, _, _, _, _, _, _, _, _, rfl, fun _ => ⟨by omega, by omega⟩, by omega, by omega⟩ ?_ ?_
  · rintro i ρ nx hi ⟨t2, lo, hi, s0, s6, s8, s9, s10, s11, s12, s13, s14, s15, s16, s17, s18, rfl, hh, b0, b1⟩ hn
    simp
    exact law_L4 ⟨r0, r1⟩ (by omega) hh fun t3 lo2 hi2 _ _ _ _ _ _ _ _ _ _ _ _ _ h2 c0 c1 => hn _ ⟨t3, lo2, hi2, _, _, _, _, _, _, _, _, _, _, _, _, _, rfl, h2, by omega, by omega⟩
  · rintro ρ ⟨t2, lo, hi, s0, s6, s8, s9, s10, s11, s12, s13, s14, s15, s16, s17, s18, rfl, hh, b0, b1⟩
    simp
    simp only [V_law_9_w]
    simp
end K30

/-! DMut: own lists and dicts changed. -/
namespace DL
open PySem L2 PyProof.Rows
variable [TN]
theorem gOL_out {o : Option Sl} {Q : List D → Prop} (h : gOL o Q) : ∃ xs, o = some (.o (.lst xs)) ∧ Q xs := by
  unfold gOL at h
  split at h
  · exact ⟨_, rfl, h⟩
  · exact h.elim
theorem gOD_out {o : Option Sl} {Q : List (DL.Key × D) → Prop} (h : gOD o Q) : ∃ xs, o = some (.o (.dk xs)) ∧ Q xs := by
  unfold gOD at h
  split at h
  · exact ⟨_, rfl, h⟩
  · exact h.elim
theorem gOL_in {o : Option Sl} {Q : List D → Prop} {xs : List D} (e : o = some (.o (.lst xs))) (h : Q xs) : gOL o Q := by rw [e]; exact h
theorem gOD_in {o : Option Sl} {Q : List (DL.Key × D) → Prop} {xs : List (DL.Key × D)} (e : o = some (.o (.dk xs))) (h : Q xs) : gOD o Q := by rw [e]; exact h
theorem gI_out {d : D} {Q : Int → Prop} (h : gI d Q) : ∃ k, d = .int k ∧ Q k := by
  cases d <;> first | exact ⟨_, rfl, h⟩ | exact h.elim
theorem gK_out {d : D} {Q : DL.Key → Prop} (h : gK d Q) : ∃ k, d = dKey k ∧ Q k := by
  cases d <;> first | exact ⟨.inl _, rfl, h⟩ | exact ⟨.inr _, rfl, h⟩ | exact h.elim
theorem gK_in {k : DL.Key} {Q : DL.Key → Prop} (h : Q k) : gK (dKey k) Q := by cases k <;> exact h
theorem gSm_out {α : Type} {o : Option α} {Q : α → Prop} (h : gSm o Q) : ∃ k, o = some k ∧ Q k := by
  cases o with
  | none => exact h.elim
  | some k => exact ⟨k, rfl, h⟩
theorem gSm_in {α : Type} {o : Option α} {Q : α → Prop} {k : α} (e : o = some k) (h : Q k) : gSm o Q := by rw [e]; exact h
section
variable {K : Fg} {cl : Cl} {W : WX} {F0 H0 F H F' H' : Hp} {σ : L2.St} {ρ : DL.Env}
theorem Reps.set {F : Hp} {v : V} {d : D} (h : Rep K cl F v d) : ∀ (n : Nat) {vs : List V} {ds : List D}, Reps K cl F vs ds → Reps K cl F (vs.set n v) (ds.set n d)
  | _, _, _, .nil => .nil
  | 0, _, _, .cons _ r => .cons h r
  | n + 1, _, _, .cons x r => .cons x (Reps.set h n r)
theorem Reps.erase {F : Hp} : ∀ (n : Nat) {vs : List V} {ds : List D}, Reps K cl F vs ds → Reps K cl F (vs.eraseIdx n) (ds.eraseIdx n)
  | _, _, _, .nil => .nil
  | 0, _, _, .cons _ r => r
  | n + 1, _, _, .cons x r => .cons x (Reps.erase n r)
theorem Reps.rev {F : Hp} {vs : List V} {ds : List D} (r : Reps K cl F vs ds) : Reps K cl F vs.reverse ds.reverse := by
  induction ds generalizing vs with
  | nil => cases r; exact .nil
  | cons d ds ih =>
    cases r with
    | cons h r =>
      rw [List.reverse_cons, List.reverse_cons]
      exact (ih r).append (.cons h .nil)
theorem Reps.dropLast {F : Hp} {vs : List V} {ds : List D} (r : Reps K cl F vs ds) : Reps K cl F vs.dropLast ds.dropLast := by
  rw [List.dropLast_eq_take, List.dropLast_eq_take, r.length]
  exact r.take _
/-- xs[i], read for += -/
def rGetL (K : Fg) : V → V → Hp → VK → Prop := fun x y H Q => ∃ p xs i v, x = .ref p ∧ y = .int i ∧ H p = some (.lst xs) ∧ L2.atI xs i = some v ∧ Q v H
/-- an own list's method over the heap -/
structure RfM (K : Fg) (cl : Cl) (r : V → List V → Hp → VK → Prop) (f : List D → List D → (List D → Prop) → Prop) : Prop where
  mono : ∀ xs ys (P P' : List D → Prop), (∀ d, P d → P' d) → f xs ys P → f xs ys P'
  ok : ∀ F H a vs us xs ys (Q : VK), Same F H → H a = some (.lst vs) → F a = none → Reps K cl F vs xs → Reps K cl F us ys → f xs ys (fun zs => ∀ ws, Reps K cl F ws zs → Q .non (upd H a (.lst ws))) → r (.ref a) us H Q
theorem rfs_lop {i : Nat} {r : V → List V → Hp → VK → Prop} {f : List D → List D → (List D → Prop) → Prop} {ta : TA} {t : DA} (m : RfM K cl r f) (ha : RfA K cl W ta t) : RfS K cl W (tDrop (tBM K "list" r (tVar i) ta)) (sLop f i t) where
  mono2 := fun E E' A B ρ hE l q => by
    obtain ⟨xs, e, q⟩ := gOL_out q
    exact gOL_in e (ha.mono2 E E' ρ _ _ hE (fun ys q => m.mono xs ys _ _ (fun zs q => l.nx _ q) q) q)
  ok := fun F0 H0 F H σ ρ E B A hh le ld q => by
    obtain ⟨xs, e, q⟩ := gOL_out q
    obtain ⟨a, ea, n0, nf, vs, ho, rr⟩ := hh.ownAt e
    refine ⟨.ref a, ea, .inl ⟨rfl, vs, SqL.of ho⟩, ?_⟩
    refine ha.ok F0 H0 F H σ ρ E _ hh le (ha.mono E ρ _ _ (fun ys q us F1 H1 g1 r1 => ?_) q)
    have e1 := g1.k.get ho
    refine m.ok F1 H1 a vs us xs ys _ g1.s e1 (g1.keepNone ho nf) (rr.mono g1.f) r1 (m.mono xs ys _ _ (fun zs q ws rw => ?_) q)
    exact ld.nx _ _ _ _ ((hh.grow g1).mut (d' := .lst zs) ea e ⟨ws, upd_same, rw⟩) q
theorem rfs_lop0 {i : Nat} {r : V → List V → Hp → VK → Prop} {f : List D → List D → (List D → Prop) → Prop} (m : RfM K cl r f) : RfS K cl W (tDrop (tBM0 K "list" r (tVar i))) (sLop f i aNil) where
  mono2 := (rfs_lop (W := W) (i := i) m rfa_nil).mono2
  ok := fun F0 H0 F H σ ρ E B A hh le ld q => (rfs_lop (W := W) (i := i) m rfa_nil).ok F0 H0 F H σ ρ E B A hh le ld q
theorem rfm_ext : RfM K cl rExtend lExt where
  mono := fun xs ys P P' h q => by
    match ys, q with
    | [.lst zs], q => exact ⟨q.1, h _ q.2⟩
  ok := fun F H a vs us xs ys Q s e f r1 r2 q => by
    match ys, q, r2 with
    | [.lst zs], q, .cons (.lst (a := b) (vs := ws) eb rb) .nil =>
      refine ⟨a, b, vs, ws, rfl, rfl, e, s _ _ eb, ?_, q.2 _ (r1.append rb)⟩
      rw [r1.length, rb.length, ← line_eq]
      exact q.1
theorem rfm_ins : RfM K cl (fun x vs H Q => ∃ (l : Addr) (xs : List V) (i : Int) (y : V), x = .ref l ∧ vs = [.int i, y] ∧ H l = some (.lst xs) ∧ xs.length < sizeLine ∧ 0 ≤ i ∧ i < 2 ^ 63 ∧ Q .non (upd H l (.lst (xs.take i.toNat ++ [y] ++ xs.drop i.toNat)))) lIns where
  mono := fun xs ys P P' h q => by
    match ys, q with
    | [.int k, y], q => exact ⟨q.1, h _ q.2⟩
  ok := fun F H a vs us xs ys Q s e f r1 r2 q => by
    match ys, q, r2 with
    | [.int k, y], q, .cons (.int _) (.cons ry .nil) =>
      refine ⟨a, vs, k, _, rfl, rfl, e, ?_, q.1.2.1, q.1.2.2, q.2 _ (((r1.take _).append (.cons ry .nil)).append (r1.drop _))⟩
      rw [r1.length, ← line_eq]
      exact q.1.1
theorem rfm_rev : RfM K cl rReverse lRev where
  mono := fun xs ys P P' h q => ⟨q.1, h _ q.2⟩
  ok := fun F H a vs us xs ys Q s e f r1 r2 q => by
    obtain ⟨rfl, q⟩ := q
    cases r2
    exact ⟨a, vs, rfl, rfl, e, q _ r1.rev⟩
theorem rfm_clr : RfM K cl rClear lClr where
  mono := fun xs ys P P' h q => ⟨q.1, h _ q.2⟩
  ok := fun F H a vs us xs ys Q s e f r1 r2 q => by
    obtain ⟨rfl, q⟩ := q
    cases r2
    exact ⟨a, vs, rfl, rfl, e, q _ .nil⟩
/-- pop by both readings -/
def rPopU : V → List V → Hp → VK → Prop := fun x vs H Q => rPop x vs H Q ∨ rPopAt x vs H Q
theorem lPop_mono {xs ys : List D} {P P' : D → List D → Prop} (h : ∀ d zs, P d zs → P' d zs) (q : lPop xs ys P) : lPop xs ys P' := by
  match ys, q with
  | [], q =>
    obtain ⟨y, e, q⟩ := gSm_out q
    exact gSm_in e (h _ _ q)
  | [.int k], q =>
    obtain ⟨hk, q⟩ := q
    obtain ⟨j, e, q⟩ := gSm_out q
    obtain ⟨y, e2, q⟩ := gSm_out q
    exact ⟨hk, gSm_in e (gSm_in e2 (h _ _ q))⟩
theorem pop_ok {F H : Hp} {a : Addr} {vs us : List V} {xs ys : List D} {Q : VK} (e : H a = some (.lst vs)) (r1 : Reps K cl F vs xs) (r2 : Reps K cl F us ys)
    (q : lPop xs ys fun y zs => ∀ v ws, Rep K cl F v y → Reps K cl F ws zs → Q v (upd H a (.lst ws))) : rPopU (.ref a) us H Q := by
  match ys, q, r2 with
  | [], q, .nil =>
    obtain ⟨y, e1, q⟩ := gSm_out q
    obtain ⟨v, e2, rv⟩ := r1.get e1
    exact .inl ⟨a, vs, v, rfl, rfl, e, by rw [r1.length]; exact e2, q v _ rv r1.dropLast⟩
  | [.int k], q, .cons (.int _) .nil =>
    obtain ⟨hk, q⟩ := q
    obtain ⟨j, e1, q⟩ := gSm_out q
    obtain ⟨y, e2, q⟩ := gSm_out q
    obtain ⟨v, e3, rv⟩ := r1.get e2
    have e1' : L2.ixN vs.length k = some j := by rw [r1.length]; exact e1
    exact .inr ⟨a, vs, k, j, v, rfl, rfl, e, hk.1, hk.2, (ixN_seq e1').1, e3, q v _ rv (r1.erase j)⟩
theorem mt_popU {X : Cx} : MtR X "list.pop" rPopU := MtR.or mt_pop mt_popAt
theorem rfs_pop {i : Nat} {ta : TA} {t : DA} (ha : RfA K cl W ta t) : RfS K cl W (tDrop (tBM K "list" rPopU (tVar i) ta)) (sPop i t) where
  mono2 := fun E E' A B ρ hE l q => by
    obtain ⟨xs, e, q⟩ := gOL_out q
    exact gOL_in e (ha.mono2 E E' ρ _ _ hE (fun ys q => lPop_mono (fun _ zs q => l.nx _ q) q) q)
  ok := fun F0 H0 F H σ ρ E B A hh le ld q => by
    obtain ⟨xs, e, q⟩ := gOL_out q
    obtain ⟨a, ea, n0, nf, vs, ho, rr⟩ := hh.ownAt e
    refine ⟨.ref a, ea, .inl ⟨rfl, vs, SqL.of ho⟩, ?_⟩
    refine ha.ok F0 H0 F H σ ρ E _ hh le (ha.mono E ρ _ _ (fun ys q us F1 H1 g1 r1 => ?_) q)
    have e1 := g1.k.get ho
    refine pop_ok e1 (rr.mono g1.f) r1 (lPop_mono (fun y zs q v ws rv rw => ?_) q)
    exact ld.nx _ _ _ _ ((hh.grow g1).mut (d' := .lst zs) ea e ⟨ws, upd_same, rw⟩) q
theorem rfs_pop0 {i : Nat} : RfS K cl W (tDrop (tBM0 K "list" rPopU (tVar i))) (sPop i aNil) where
  mono2 := (rfs_pop (K := K) (cl := cl) (W := W) (i := i) rfa_nil).mono2
  ok := fun F0 H0 F H σ ρ E B A hh le ld q => (rfs_pop (K := K) (cl := cl) (W := W) (i := i) rfa_nil).ok F0 H0 F H σ ρ E B A hh le ld q
theorem rfs_popTo {i j : Nat} {ta : TA} {t : DA} (ha : RfA K cl W ta t) : RfS K cl W (tAsg (tBM K "list" rPopU (tVar i) ta) (L2.gName j)) (sPopTo i j t) where
  mono2 := fun E E' A B ρ hE l q => by
    obtain ⟨xs, e, q⟩ := gOL_out q
    exact gOL_in e (ha.mono2 E E' ρ _ _ hE (fun ys q => lPop_mono (fun _ zs q => l.nx _ q) q) q)
  ok := fun F0 H0 F H σ ρ E B A hh le ld q => by
    obtain ⟨xs, e, q⟩ := gOL_out q
    obtain ⟨a, ea, n0, nf, vs, ho, rr⟩ := hh.ownAt e
    refine ⟨.ref a, ea, .inl ⟨rfl, vs, SqL.of ho⟩, ?_⟩
    refine ha.ok F0 H0 F H σ ρ E _ hh le (ha.mono E ρ _ _ (fun ys q us F1 H1 g1 r1 => ?_) q)
    have e1 := g1.k.get ho
    refine pop_ok e1 (rr.mono g1.f) r1 (lPop_mono (fun y zs q v ws rv rw => ?_) q)
    exact ld.nx _ _ _ _ (((hh.grow g1).mut (d' := .lst zs) ea e ⟨ws, upd_same, rw⟩).set rv) q
theorem rfs_popTo0 {i j : Nat} : RfS K cl W (tAsg (tBM0 K "list" rPopU (tVar i)) (L2.gName j)) (sPopTo i j aNil) where
  mono2 := (rfs_popTo (K := K) (cl := cl) (W := W) (i := i) (j := j) rfa_nil).mono2
  ok := fun F0 H0 F H σ ρ E B A hh le ld q => (rfs_popTo (K := K) (cl := cl) (W := W) (i := i) (j := j) rfa_nil).ok F0 H0 F H σ ρ E B A hh le ld q
theorem rfs_popApp {i : Nat} {ta : TA} {t : DA} (ha : RfA K cl W ta t) : RfS K cl W (tDrop (tBM K "list" rAppend (tVar i) (tCons (tBM K "list" rPopU (tVar i) ta) tNil))) (sPopApp i t) where
  mono2 := fun E E' A B ρ hE l q => by
    obtain ⟨xs, e, q⟩ := gOL_out q
    exact gOL_in e (ha.mono2 E E' ρ _ _ hE (fun ys q => lPop_mono (fun _ zs q => ⟨q.1, l.nx _ q.2⟩) q) q)
  ok := fun F0 H0 F H σ ρ E B A hh le ld q => by
    obtain ⟨xs, e, q⟩ := gOL_out q
    obtain ⟨a, ea, n0, nf, vs, ho, rr⟩ := hh.ownAt e
    refine ⟨.ref a, ea, .inl ⟨rfl, vs, SqL.of ho⟩, .ref a, ea, .inl ⟨rfl, vs, SqL.of ho⟩, ?_⟩
    refine ha.ok F0 H0 F H σ ρ E _ hh le (ha.mono E ρ _ _ (fun ys q us F1 H1 g1 r1 => ?_) q)
    have e1 := g1.k.get ho
    refine pop_ok e1 (rr.mono g1.f) r1 (lPop_mono (fun y zs q v ws rv rw => ?_) q)
    refine ⟨a, ws, v, rfl, rfl, upd_same, by rw [rw.length, ← line_eq]; exact q.1, ?_⟩
    have h1 := ((hh.grow g1).mut (d' := .lst (zs ++ [y])) (o := .lst (ws ++ [v])) ea e ⟨ws ++ [v], upd_same, rw.append (.cons rv .nil)⟩)
    rw [upd_upd]
    exact ld.nx _ _ _ _ h1 q.2
theorem rfs_setIx {i : Nat} {ta tb : TE} {p q : DT} (ha : RfE K cl W ta p) (hb : RfE K cl W tb q) : RfS K cl W (tAsg tb (gSub (tVar i) ta rSetL)) (sSetIx i p q) where
  mono2 := fun E E' A B ρ hE l q => by
    obtain ⟨xs, e, q⟩ := gOL_out q
    refine gOL_in e (hb.mono2 E E' ρ _ _ hE (fun y q => ha.mono2 E E' ρ _ _ hE (fun k q => ?_) q) q)
    obtain ⟨k, rfl, q⟩ := gI_out q
    obtain ⟨j, ej, q⟩ := gSm_out q
    exact gSm_in ej (l.nx _ q)
  ok := fun F0 H0 F H σ ρ E B A hh le ld q => by
    obtain ⟨xs, e, q⟩ := gOL_out q
    obtain ⟨a, ea, n0, nf, vs, ho, rr⟩ := hh.ownAt e
    refine hb.ok F0 H0 F H σ ρ E _ hh le (hb.mono E ρ _ _ (fun y q v F1 H1 g1 r1 => ?_) q)
    refine ⟨.ref a, ea, ?_⟩
    refine ha.ok F0 H0 F1 H1 σ ρ E _ (hh.grow g1) le (ha.mono E ρ _ _ (fun k q u F2 H2 g2 r2 => ?_) q)
    obtain ⟨k, rfl, q⟩ := gI_out q
    obtain ⟨j, ej, q⟩ := gSm_out q
    cases r2
    have g := g1.trans g2
    have ej' : L2.ixN vs.length k = some j := by rw [rr.length]; exact ej
    refine ⟨a, vs, k, j, rfl, rfl, g.k.get ho, ej', ?_⟩
    exact ld.nx _ _ _ _ ((hh.grow g).mut (d' := .lst (xs.set j y)) ea e ⟨vs.set j v, upd_same, Reps.set (r1.mono g2.f) j (rr.mono g.f)⟩) q
theorem rfs_augIx {i : Nat} {ta tb : TE} {p q : DT} (ha : RfE K cl W ta p) (hb : RfE K cl W tb q) {r : TIp} {f : D → D → DK → Prop} (o : RfIp K cl r f) : RfS K cl W (tAugS (tVar i) ta tb (rGetL K) r rSetL) (sAugIx f i p q) where
  mono2 := fun E E' A B ρ hE l q => by
    obtain ⟨xs, e, q⟩ := gOL_out q
    refine gOL_in e (ha.mono2 E E' ρ _ _ hE (fun k q => ?_) q)
    obtain ⟨k, rfl, q⟩ := gI_out q
    obtain ⟨j, ej, q⟩ := gSm_out q
    obtain ⟨x, ex, q⟩ := gSm_out q
    exact gSm_in ej (gSm_in ex (hb.mono2 E E' ρ _ _ hE (fun y q => o.mono x y _ _ (fun z q => l.nx _ q) q) q))
  ok := fun F0 H0 F H σ ρ E B A hh le ld q => by
    obtain ⟨xs, e, q⟩ := gOL_out q
    obtain ⟨a, ea, n0, nf, vs, ho, rr⟩ := hh.ownAt e
    refine ⟨.ref a, ea, ?_⟩
    refine ha.ok F0 H0 F H σ ρ E _ hh le (ha.mono E ρ _ _ (fun k q u F2 H2 g2 r2 => ?_) q)
    obtain ⟨k, rfl, q⟩ := gI_out q
    obtain ⟨j, ej, q⟩ := gSm_out q
    obtain ⟨x, ex, q⟩ := gSm_out q
    cases r2
    have ej' : L2.ixN vs.length k = some j := by rw [rr.length]; exact ej
    obtain ⟨v, ev, rv⟩ := rr.get ex
    refine ⟨a, vs, k, v, rfl, rfl, g2.k.get ho, by unfold L2.atI; rw [ej']; exact ev, ?_⟩
    refine hb.ok F0 H0 F2 H2 σ ρ E _ (hh.grow g2) le (hb.mono E ρ _ _ (fun y q w F3 H3 g3 r3 => ?_) q)
    refine o.ok F3 H3 v w x y _ g3.s ((rv.mono g2.f).mono g3.f) r3 (o.mono x y _ _ (fun z q v' F' H' g' r' => ?_) q)
    have g := (g2.trans g3).trans g'
    refine ⟨a, vs, k, j, rfl, rfl, g.k.get ho, ej', ?_⟩
    exact ld.nx _ _ _ _ ((hh.grow g).mut (d' := .lst (xs.set j z)) ea e ⟨vs.set j v', upd_same, Reps.set r' j (rr.mono g.f)⟩) q
/-! own dicts -/
theorem KReps.any {F : Hp} (k : DL.Key) : ∀ {ws : List (L2.Key × V)} {kvs : List (DL.Key × D)}, KReps K cl F ws kvs → (ws.any fun kv => decide (kv.1 = k)) = (kvs.any fun kv => decide (kv.1 = k))
  | _, _, .nil => rfl
  | _, _, .cons _ r => by rw [List.any_cons, List.any_cons, KReps.any k r]
theorem KReps.map {F : Hp} {v : V} {d : D} (k : DL.Key) (h : Rep K cl F v d) : ∀ {ws : List (L2.Key × V)} {kvs : List (DL.Key × D)}, KReps K cl F ws kvs → KReps K cl F (ws.map fun kv => if kv.1 = k then (kv.1, v) else kv) (kvs.map fun kv => if kv.1 = k then (kv.1, d) else kv)
  | _, _, .nil => .nil
  | _, _, .cons (k := j) h2 r => by
    rw [List.map_cons, List.map_cons]
    by_cases e : j = k
    · simp only [e, if_true]
      exact .cons h (KReps.map k h r)
    · simp only [e, if_false]
      exact .cons h2 (KReps.map k h r)
theorem KReps.app {F : Hp} : ∀ {ws us : List (L2.Key × V)} {kvs js : List (DL.Key × D)}, KReps K cl F ws kvs → KReps K cl F us js → KReps K cl F (ws ++ us) (kvs ++ js)
  | _, _, _, _, .nil, r => r
  | _, _, _, _, .cons h r, r2 => .cons h (r.app r2)
theorem KReps.put {F : Hp} {v : V} {d : D} (k : DL.Key) (h : Rep K cl F v d) {ws : List (L2.Key × V)} {kvs : List (DL.Key × D)} (r : KReps K cl F ws kvs) : KReps K cl F (putK ws k v) (putD kvs k d) := by
  unfold putK putD
  rw [r.any k]
  split
  · exact r.map k h
  · exact r.app (.cons h .nil)
theorem rep_key {F : Hp} {v : V} {k : DL.Key} (h : Rep K cl F v (dKey k)) : v = kV k := by
  cases k with
  | inl i => cases h; rfl
  | inr x => cases h; rfl
theorem rfn_newK : RfN K cl W tDNewK dNewK where
  mono2 := fun E E' ρ P P' hE h q => h _ q
  ok := fun F0 H0 F H σ ρ E Q hh le q p hp => q p F _ (Gr.h hh.g.s (nx_upd hp)) hp (hh.g.s.free hp) ⟨[], upd_same, .nil⟩
theorem small_line {n : Nat} (h : n < 1000000) : n < sizeLine := by rw [sizeLine_eq]; omega
theorem rfs_putK {i : Nat} {ta tb : TE} {p q : DT} (ha : RfE K cl W ta p) (hb : RfE K cl W tb q) : RfS K cl W (sDPut (tVar i) ta tb) (sPutK i p q) where
  mono2 := fun E E' A B ρ hE l q => by
    obtain ⟨xs, e, q⟩ := gOD_out q
    refine gOD_in e (hb.mono2 E E' ρ _ _ hE (fun y q => ha.mono2 E E' ρ _ _ hE (fun k q => ?_) q) q)
    obtain ⟨k, rfl, qk⟩ := gK_out q
    have q := qk
    exact gK_in ⟨q.1, l.nx _ q.2⟩
  ok := fun F0 H0 F H σ ρ E B A hh le ld q => by
    obtain ⟨xs, e, q⟩ := gOD_out q
    obtain ⟨a, ea, n0, nf, vs, ho, rr⟩ := hh.ownAt e
    refine hb.ok F0 H0 F H σ ρ E _ hh le (hb.mono E ρ _ _ (fun y q v F1 H1 g1 r1 => ?_) q)
    refine ⟨.ref a, ea, ?_⟩
    refine ha.ok F0 H0 F1 H1 σ ρ E _ (hh.grow g1) le (ha.mono E ρ _ _ (fun k q u F2 H2 g2 r2 => ?_) q)
    obtain ⟨k, rfl, qk⟩ := gK_out q
    have q := qk
    have g := g1.trans g2
    refine ⟨a, upd H2 a (.dK (putK vs k v)), rfl, ?_⟩
    rw [rep_key r2]
    refine ⟨DPut.k (g.k.get ho) (by rw [rr.length]; exact small_line q.1), ?_⟩
    exact ld.nx _ _ _ _ ((hh.grow g).mut (d' := .dk (putD xs k y)) ea e ⟨putK vs k v, upd_same, (rr.mono g.f).put k (r1.mono g2.f)⟩) q.2
theorem oGet_out {o : Option D} {Q : DK} (h : oGet o Q) : ∃ d, o = some d ∧ Q d := by
  cases o with
  | none => exact h.elim
  | some d => exact ⟨d, rfl, h⟩
theorem oGet_in {o : Option D} {Q : DK} {d : D} (e : o = some d) (h : Q d) : oGet o Q := by rw [e]; exact h
theorem rfe_ixK {i : Nat} {ta : TE} {p : DT} (ha : RfE K cl W ta p) : RfE K cl W (tDGet (tVar i) ta) (dIxK i p) where
  mono2 := fun E E' ρ P P' hE h q => by
    obtain ⟨xs, e, q⟩ := gOD_out q
    refine gOD_in e (ha.mono2 E E' ρ _ _ hE (fun k q => ?_) q)
    obtain ⟨k, rfl, qk⟩ := gK_out q
    have q := qk
    obtain ⟨d, ed, q⟩ := oGet_out q
    exact gK_in (oGet_in ed (h _ q))
  ok := fun F0 H0 F H σ ρ E Q hh le q => by
    obtain ⟨xs, e, q⟩ := gOD_out q
    obtain ⟨a, ea, n0, nf, vs, ho, rr⟩ := hh.ownAt e
    refine ⟨.ref a, ea, ?_⟩
    refine ha.ok F0 H0 F H σ ρ E _ hh le (ha.mono E ρ _ _ (fun k q u F2 H2 g2 r2 => ?_) q)
    obtain ⟨k, rfl, qk⟩ := gK_out q
    have q := qk
    obtain ⟨d, ed, q⟩ := oGet_out q
    rcases rr.look k with ⟨z, _⟩ | ⟨v, d', z1, z2, z3⟩
    · rw [z] at ed; cases ed
    · rw [ed] at z1
      cases z1
      refine ⟨a, v, rfl, ?_, q v F2 H2 g2 (z3.mono g2.f)⟩
      rw [rep_key r2, ← z2]
      exact DGet.k (g2.k.get ho)
theorem gDk_out {d : D} {Q : List (DL.Key × D) → Prop} (h : gDk d Q) : ∃ kvs, d = .dk kvs ∧ Q kvs := by
  cases d <;> first | exact ⟨_, rfl, h⟩ | exact h.elim
theorem rfe_getK1 {ta tb : TE} {p q : DT} (ha : RfE K cl W ta p) (hb : RfE K cl W tb q) : RfE K cl W (tDGet1 ta tb) (dGetK1 p q) where
  mono2 := fun E E' ρ P P' hE h q => ha.mono2 E E' ρ _ _ hE (fun x q => by
    obtain ⟨kvs, rfl, q⟩ := gDk_out q
    refine hb.mono2 E E' ρ _ _ hE (fun k q => ?_) q
    obtain ⟨k, rfl, qk⟩ := gK_out q
    have q := qk
    exact gK_in (h _ q)) q
  ok := fun F0 H0 F H σ ρ E Q hh le q => by
    refine ha.ok F0 H0 F H σ ρ E _ hh le (ha.mono E ρ _ _ (fun x q v F1 H1 g1 r1 => ?_) q)
    obtain ⟨kvs, rfl, q⟩ := gDk_out q
    cases r1 with
    | dk e1 rr =>
      refine ⟨_, rfl, .inl ⟨_, .inl (g1.s _ _ e1)⟩, ?_⟩
      refine hb.ok F0 H0 F1 H1 σ ρ E _ (hh.grow g1) le (hb.mono E ρ _ _ (fun k q u F2 H2 g2 r2 => ?_) q)
      obtain ⟨k, rfl, qk⟩ := gK_out q
      have q := qk
      rw [rep_key r2]
      refine ⟨_, DGet.k (g2.k.get (g1.s _ _ e1)), ?_⟩
      rcases rr.look k with ⟨z1, z2⟩ | ⟨v, d', z1, z2, z3⟩
      · rw [z1] at q
        rw [z2]
        exact q .non F2 H2 (g1.trans g2) .non
      · rw [z1] at q
        rw [z2]
        exact q v F2 H2 (g1.trans g2) (z3.mono g2.f)
theorem rfe_getK2 {ta tb tc : TE} {p q r : DT} (ha : RfE K cl W ta p) (hb : RfE K cl W tb q) (hc : RfE K cl W tc r) : RfE K cl W (tDGet2 ta tb tc) (dGetK2 p q r) where
  mono2 := fun E E' ρ P P' hE h q => ha.mono2 E E' ρ _ _ hE (fun x q => by
    obtain ⟨kvs, rfl, q⟩ := gDk_out q
    refine hb.mono2 E E' ρ _ _ hE (fun k q => hc.mono2 E E' ρ _ _ hE (fun z q => ?_) q) q
    obtain ⟨k, rfl, qk⟩ := gK_out q
    have q := qk
    exact gK_in (h _ q)) q
  ok := fun F0 H0 F H σ ρ E Q hh le q => by
    refine ha.ok F0 H0 F H σ ρ E _ hh le (ha.mono E ρ _ _ (fun x q v F1 H1 g1 r1 => ?_) q)
    obtain ⟨kvs, rfl, q⟩ := gDk_out q
    cases r1 with
    | dk e1 rr =>
      refine ⟨_, rfl, .inl ⟨_, .inl (g1.s _ _ e1)⟩, ?_⟩
      refine hb.ok F0 H0 F1 H1 σ ρ E _ (hh.grow g1) le (hb.mono E ρ _ _ (fun k q u F2 H2 g2 r2 => ?_) q)
      refine hc.ok F0 H0 F2 H2 σ ρ E _ ((hh.grow g1).grow g2) le (hc.mono E ρ _ _ (fun z q y F3 H3 g3 r3 => ?_) q)
      obtain ⟨k, rfl, qk⟩ := gK_out q
      have q := qk
      rw [rep_key r2]
      have g := (g1.trans g2).trans g3
      refine ⟨_, DGet.k (g3.k.get (g2.k.get (g1.s _ _ e1))), ?_⟩
      rcases rr.look k with ⟨z1, z2⟩ | ⟨v, d', z1, z2, z3⟩
      · rw [z1] at q
        rw [z2]
        exact q y F3 H3 g r3
      · rw [z1] at q
        rw [z2]
        exact q v F3 H3 g ((z3.mono g2.f).mono g3.f)
end
/-! ### the rules over syntax -/
section
variable {X : Cx} {K : Fg} {cl : Cl} {W : WX} {pos : Pos}
theorem get_L : PGet X (rGetL X.K) := by
  intro pins s σ H x y v u Q I rx ry h
  obtain ⟨p, xs, i, z, rfl, rfl, hq, he, q⟩ := h
  cases rx
  obtain ⟨t, rfl⟩ := ry
  obtain ⟨its, r, pl, hz⟩ := I.list (SqL.of hq)
  obtain ⟨j, h1, h2, h3, h4, h5⟩ := atI_get he
  obtain ⟨w, ew, rw'⟩ := r.get h2
  have hl := r.length
  have hn := line63
  have fin : EP X pins σ Q w s := ⟨z, H, I, rw', q⟩
  by_cases h0 : 0 ≤ i
  · have hj : i.toNat = j := by
      rw [seqIndex_of h0 h5] at h1
      exact Option.some.inj h1
    exact wpAny_getItem_list pl.isList h0 (by omega) (by rw [hj]; simpa using ew) fin
  · have hj : (i + (its.toArray.size : Int)).toNat = j := by
      rw [seqIndex_neg (by omega) h4] at h1
      rw [List.size_toArray, ← hl]
      exact Option.some.inj h1
    exact wpAny_getItem_list_neg pl.isList (by omega) (by rw [List.size_toArray] <;> omega) (by omega) (by rw [hj]; simpa using ew) fin
/-- the premises of a call of an own name's method -/
theorem vs_lop1 {i : Nat} {x : Str} {m : Str} {id : String} {r : V → List V → Hp → VK → Prop} {f : List D → List D → (List D → Prop) → Prop} {e : Expr} {es : List Expr} {te : TA} {t : DA} {p1 apos cpos : Pos} (slot : Slot "list" m id) (hty : typeOf (.builtin id) = pure (.type "method_descriptor")) (hm : MtR X id r) (o : RfM K cl r f) (he : VA X K cl W (e :: es) te t) (hN : X.N[i]? = some x := by rfl)
    (hv : Vis X.env.scope x := by first | exact Or.inl rfl | exact Or.inr (Or.inl rfl) | exact Or.inr (Or.inr rfl)) (hd : (x == ("__debug__" : Str)) = false := by decide)
    (hcd : (x == ("__classdict__" : Str)) = false := by decide) (hs1 : starEach (e :: es) X.env = (false, eval e X.env) :: starEach es X.env := by rfl)
    (hbase : attributeBase (.Name x p1) m X.env (eval (.Name x p1) X.env) = eval (.Name x p1) X.env := by rfl)
    (hfew : ((backTo cpos (starEach (e :: es) X.env)).all (fun x => !x.1) && (backToKw cpos (keywordEach [] X.env)).all (fun x => x.1.isSome)
      && decide ((e :: es).length + ([] : List Keyword).length + (if ([] : List Keyword).isEmpty then 0 else 1) < 30)) = true := by rfl)
    (hline : (apos.endLine == cpos.line) = true := by rfl) (hplain : (backTo cpos (starEach es X.env)).any (·.1) = false := by rfl)
    (hs : swapsWith (.Call (.Attribute (.Name x p1) m apos) (e :: es) [] cpos) none pos.line X.env = pure false := by rfl) :
    VS X K cl W (.Expr (.Call (.Attribute (.Name x p1) m apos) (e :: es) [] cpos) pos) (tDrop (tBM K "list" r (tVar i) te)) (sLop f i t) := by
  obtain rfl := he.hK
  exact ⟨ps_expr (pe_bm PySem.F.plainAttrs_list slot hty hm (pe_var hN hv hd hcd) he.pe hbase hfew hline hs1 hplain) hs, rfs_lop o he.rf, rfl⟩
theorem vs_lop0 {i : Nat} {x : Str} {p1 apos cpos : Pos} {m : Str} {id : String} {r : V → List V → Hp → VK → Prop} {f : List D → List D → (List D → Prop) → Prop} (slot : Slot "list" m id) (hty : typeOf (.builtin id) = pure (.type "method_descriptor")) (hm : MtR X id r) (o : RfM K cl r f) (hK : X.K = K := by rfl) (hN : X.N[i]? = some x := by rfl) (hv : Vis X.env.scope x := by first | exact Or.inl rfl | exact Or.inr (Or.inl rfl) | exact Or.inr (Or.inr rfl)) (hd : (x == ("__debug__" : Str)) = false := by decide)
    (hcd : (x == ("__classdict__" : Str)) = false := by decide)
    (hbase : attributeBase (.Name x p1) m X.env (eval (.Name x p1) X.env) = eval (.Name x p1) X.env := by rfl) (hline : (apos.endLine == cpos.line) = true := by rfl)
    (hs : swapsWith (.Call (.Attribute (.Name x p1) m apos) [] [] cpos) none pos.line X.env = pure false := by rfl) :
    VS X K cl W (.Expr (.Call (.Attribute (.Name x p1) m apos) [] [] cpos) pos) (tDrop (tBM0 K "list" r (tVar i))) (sLop f i aNil) := by
  obtain rfl := hK
  exact ⟨ps_expr (pe_bm0 PySem.F.plainAttrs_list slot hty hm (pe_var hN hv hd hcd) hbase hline) hs, rfs_lop0 o, rfl⟩
theorem vs_pop1 {i : Nat} {x : Str} {p1 apos cpos : Pos} {e : Expr} {es : List Expr} {te : TA} {t : DA} (he : VA X K cl W (e :: es) te t) (hN : X.N[i]? = some x := by rfl) (hv : Vis X.env.scope x := by first | exact Or.inl rfl | exact Or.inr (Or.inl rfl) | exact Or.inr (Or.inr rfl)) (hd : (x == ("__debug__" : Str)) = false := by decide)
    (hcd : (x == ("__classdict__" : Str)) = false := by decide) (hs1 : starEach (e :: es) X.env = (false, eval e X.env) :: starEach es X.env := by rfl)
    (hbase : attributeBase (.Name x p1) "pop" X.env (eval (.Name x p1) X.env) = eval (.Name x p1) X.env := by rfl)
    (hfew : ((backTo cpos (starEach (e :: es) X.env)).all (fun x => !x.1) && (backToKw cpos (keywordEach [] X.env)).all (fun x => x.1.isSome)
      && decide ((e :: es).length + ([] : List Keyword).length + (if ([] : List Keyword).isEmpty then 0 else 1) < 30)) = true := by rfl)
    (hline : (apos.endLine == cpos.line) = true := by rfl) (hplain : (backTo cpos (starEach es X.env)).any (·.1) = false := by rfl)
    (hs : swapsWith (.Call (.Attribute (.Name x p1) "pop" apos) (e :: es) [] cpos) none pos.line X.env = pure false := by rfl) : VS X K cl W (.Expr (.Call (.Attribute (.Name x p1) "pop" apos) (e :: es) [] cpos) pos) (tDrop (tBM K "list" rPopU (tVar i) te)) (sPop i t) := by
  obtain rfl := he.hK
  exact ⟨ps_expr (pe_bm PySem.F.plainAttrs_list PySem.F.slot_list_pop PySem.F.type_list_pop mt_popU (pe_var hN hv hd hcd) he.pe hbase hfew hline hs1 hplain) hs, rfs_pop he.rf, rfl⟩
theorem vs_pop0 {i : Nat} {x : Str} {p1 apos cpos : Pos} (hK : X.K = K := by rfl) (hN : X.N[i]? = some x := by rfl) (hv : Vis X.env.scope x := by first | exact Or.inl rfl | exact Or.inr (Or.inl rfl) | exact Or.inr (Or.inr rfl)) (hd : (x == ("__debug__" : Str)) = false := by decide)
    (hcd : (x == ("__classdict__" : Str)) = false := by decide) (hbase : attributeBase (.Name x p1) "pop" X.env (eval (.Name x p1) X.env) = eval (.Name x p1) X.env := by rfl)
    (hline : (apos.endLine == cpos.line) = true := by rfl)
    (hs : swapsWith (.Call (.Attribute (.Name x p1) "pop" apos) [] [] cpos) none pos.line X.env = pure false := by rfl) : VS X K cl W (.Expr (.Call (.Attribute (.Name x p1) "pop" apos) [] [] cpos) pos) (tDrop (tBM0 K "list" rPopU (tVar i))) (sPop i aNil) := by
  obtain rfl := hK
  exact ⟨ps_expr (pe_bm0 PySem.F.plainAttrs_list PySem.F.slot_list_pop PySem.F.type_list_pop mt_popU (pe_var hN hv hd hcd) hbase hline) hs, rfs_pop0, rfl⟩
theorem vs_popTo1 {i : Nat} {x : Str} {p1 apos cpos : Pos} {j : Nat} {y : Str} {p2 : Pos} {e : Expr} {es : List Expr} {te : TA} {t : DA} (hND : X.N.Nodup) (he : VA X K cl W (e :: es) te t) (hN : X.N[i]? = some x := by rfl) (hv : Vis X.env.scope x := by first | exact Or.inl rfl | exact Or.inr (Or.inl rfl) | exact Or.inr (Or.inr rfl)) (hd : (x == ("__debug__" : Str)) = false := by decide)
    (hcd : (x == ("__classdict__" : Str)) = false := by decide) (hs1 : starEach (e :: es) X.env = (false, eval e X.env) :: starEach es X.env := by rfl)
    (hbase : attributeBase (.Name x p1) "pop" X.env (eval (.Name x p1) X.env) = eval (.Name x p1) X.env := by rfl)
    (hfew : ((backTo cpos (starEach (e :: es) X.env)).all (fun x => !x.1) && (backToKw cpos (keywordEach [] X.env)).all (fun x => x.1.isSome)
      && decide ((e :: es).length + ([] : List Keyword).length + (if ([] : List Keyword).isEmpty then 0 else 1) < 30)) = true := by rfl)
    (hline : (apos.endLine == cpos.line) = true := by rfl) (hplain : (backTo cpos (starEach es X.env)).any (·.1) = false := by rfl) (hj : X.N[j]? = some y := by rfl) (hx : Loc X.env.scope y := by first | exact Or.inl rfl | exact Or.inr rfl) (hf : X.fn y = true ∨ X.env.scope.names.lookup y = some .local := by first | exact .inl rfl | exact .inr rfl | assumption)
    (hs : swapsWith (.Call (.Attribute (.Name x p1) "pop" apos) (e :: es) [] cpos) (some (.Name y p2)) pos.line X.env = pure false := by rfl) : VS X K cl W (.Assign [.Name y p2] (.Call (.Attribute (.Name x p1) "pop" apos) (e :: es) [] cpos) pos) (tAsg (tBM K "list" rPopU (tVar i) te) (L2.gName j)) (sPopTo i j t) := by
  obtain rfl := he.hK
  exact ⟨ps_set hND hj hx (pe_bm PySem.F.plainAttrs_list PySem.F.slot_list_pop PySem.F.type_list_pop mt_popU (pe_var hN hv hd hcd) he.pe hbase hfew hline hs1 hplain) hs hf, rfs_popTo he.rf, rfl⟩
theorem vs_popTo0 {i : Nat} {x : Str} {p1 apos cpos : Pos} {j : Nat} {y : Str} {p2 : Pos} (hND : X.N.Nodup) (hK : X.K = K := by rfl) (hN : X.N[i]? = some x := by rfl) (hv : Vis X.env.scope x := by first | exact Or.inl rfl | exact Or.inr (Or.inl rfl) | exact Or.inr (Or.inr rfl)) (hd : (x == ("__debug__" : Str)) = false := by decide)
    (hcd : (x == ("__classdict__" : Str)) = false := by decide) (hbase : attributeBase (.Name x p1) "pop" X.env (eval (.Name x p1) X.env) = eval (.Name x p1) X.env := by rfl)
    (hline : (apos.endLine == cpos.line) = true := by rfl) (hj : X.N[j]? = some y := by rfl) (hx : Loc X.env.scope y := by first | exact Or.inl rfl | exact Or.inr rfl) (hf : X.fn y = true ∨ X.env.scope.names.lookup y = some .local := by first | exact .inl rfl | exact .inr rfl | assumption)
    (hs : swapsWith (.Call (.Attribute (.Name x p1) "pop" apos) [] [] cpos) (some (.Name y p2)) pos.line X.env = pure false := by rfl) : VS X K cl W (.Assign [.Name y p2] (.Call (.Attribute (.Name x p1) "pop" apos) [] [] cpos) pos) (tAsg (tBM0 K "list" rPopU (tVar i)) (L2.gName j)) (sPopTo i j aNil) := by
  obtain rfl := hK
  exact ⟨ps_set hND hj hx (pe_bm0 PySem.F.plainAttrs_list PySem.F.slot_list_pop PySem.F.type_list_pop mt_popU (pe_var hN hv hd hcd) hbase hline) hs hf, rfs_popTo0, rfl⟩
theorem vs_popApp {i : Nat} {x : Str} {p1 apos cpos : Pos} {q1 qa qc : Pos} {e : Expr} {es : List Expr} {te : TA} {t : DA} (he : VA X K cl W (e :: es) te t) (hN : X.N[i]? = some x := by rfl) (hv : Vis X.env.scope x := by first | exact Or.inl rfl | exact Or.inr (Or.inl rfl) | exact Or.inr (Or.inr rfl)) (hd : (x == ("__debug__" : Str)) = false := by decide)
    (hcd : (x == ("__classdict__" : Str)) = false := by decide) (hs1 : starEach (e :: es) X.env = (false, eval e X.env) :: starEach es X.env := by rfl)
    (hbase : attributeBase (.Name x p1) "pop" X.env (eval (.Name x p1) X.env) = eval (.Name x p1) X.env := by rfl)
    (hfew : ((backTo cpos (starEach (e :: es) X.env)).all (fun x => !x.1) && (backToKw cpos (keywordEach [] X.env)).all (fun x => x.1.isSome)
      && decide ((e :: es).length + ([] : List Keyword).length + (if ([] : List Keyword).isEmpty then 0 else 1) < 30)) = true := by rfl)
    (hline : (apos.endLine == cpos.line) = true := by rfl) (hplain : (backTo cpos (starEach es X.env)).any (·.1) = false := by rfl)
    (hsA : starEach [(Expr.Call (.Attribute (.Name x p1) "pop" apos) (e :: es) [] cpos)] X.env = (false, eval (Expr.Call (.Attribute (.Name x p1) "pop" apos) (e :: es) [] cpos) X.env) :: starEach [] X.env := by rfl)
    (hbaseA : attributeBase (.Name x q1) "append" X.env (eval (.Name x q1) X.env) = eval (.Name x q1) X.env := by rfl)
    (hfewA : ((backTo qc (starEach [(Expr.Call (.Attribute (.Name x p1) "pop" apos) (e :: es) [] cpos)] X.env)).all (fun x => !x.1) && (backToKw qc (keywordEach [] X.env)).all (fun x => x.1.isSome)
      && decide ([(Expr.Call (.Attribute (.Name x p1) "pop" apos) (e :: es) [] cpos)].length + ([] : List Keyword).length + (if ([] : List Keyword).isEmpty then 0 else 1) < 30)) = true := by rfl)
    (hlineA : (qa.endLine == qc.line) = true := by rfl) (hplainA : (backTo qc (starEach [] X.env)).any (·.1) = false := by rfl)
    (hs : swapsWith (.Call (.Attribute (.Name x q1) "append" qa) [(Expr.Call (.Attribute (.Name x p1) "pop" apos) (e :: es) [] cpos)] [] qc) none pos.line X.env = pure false := by rfl) :
    VS X K cl W (.Expr (.Call (.Attribute (.Name x q1) "append" qa) [(Expr.Call (.Attribute (.Name x p1) "pop" apos) (e :: es) [] cpos)] [] qc) pos) (tDrop (tBM K "list" rAppend (tVar i) (tCons (tBM K "list" rPopU (tVar i) te) tNil))) (sPopApp i t) := by
  obtain rfl := he.hK
  exact ⟨ps_expr (pe_bm PySem.F.plainAttrs_list PySem.F.slot_list_append PySem.F.type_list_append mt_append (pe_var hN hv hd hcd) (pa_cons (pe_bm PySem.F.plainAttrs_list PySem.F.slot_list_pop PySem.F.type_list_pop mt_popU (pe_var hN hv hd hcd) he.pe hbase hfew hline hs1 hplain) pa_nil hsA) hbaseA hfewA hlineA hsA hplainA) hs, rfs_popApp he.rf, rfl⟩
theorem vs_setIx {i : Nat} {x : Str} {p1 p2 : Pos} {a b : Expr} {ta tb : TE} {p q : DT} (ha : VE X K cl W a ta p) (hb : VE X K cl W b tb q) (hN : X.N[i]? = some x := by rfl) (hv : Vis X.env.scope x := by first | exact Or.inl rfl | exact Or.inr (Or.inl rfl) | exact Or.inr (Or.inr rfl)) (hd : (x == ("__debug__" : Str)) = false := by decide)
    (hcd : (x == ("__classdict__" : Str)) = false := by decide)
    (hs : swapsWithSole [.Subscript (.Name x p1) a p2] b pos.line X.env = pure false := by rfl) (hw : swappedStores [.Subscript (.Name x p1) a p2] b X.env = pure none := by rfl)
    (h1 : (assignEach [.Subscript (.Name x p1) a p2] X.env).map (·.2) = [assign (.Subscript (.Name x p1) a p2) X.env] := by rfl)
    (h2 : ∀ v, assign (.Subscript (.Name x p1) a p2) X.env v = (do
      let ov ← holding [v] (eval (.Name x p1) X.env)
      let iv ← holding [v, ov] (eval a X.env)
      standAt p2
      holding [v, ov, iv] (setItem ov iv v)
      release [v, ov, iv] []) := by intro _; rfl) :
    VS X K cl W (.Assign [.Subscript (.Name x p1) a p2] b pos) (tAsg tb (gSub (tVar i) ta rSetL)) (sSetIx i p q) := by
  obtain rfl := ha.hK
  exact ⟨ps_asg hb.pe (pg_sub (pe_var hN hv hd hcd) ha.pe set_list h2) hs hw h1, rfs_setIx ha.rf hb.rf, rfl⟩
theorem vs_augIxAdd {i : Nat} {x : Str} {p1 p2 : Pos} {a b : Expr} {ta tb : TE} {p q : DT} (ha : VE X K cl W a ta p) (hb : VE X K cl W b tb q) (hN : X.N[i]? = some x := by rfl) (hv : Vis X.env.scope x := by first | exact Or.inl rfl | exact Or.inr (Or.inl rfl) | exact Or.inr (Or.inr rfl)) (hd : (x == ("__debug__" : Str)) = false := by decide)
    (hcd : (x == ("__classdict__" : Str)) = false := by decide)
    (h2 : ∀ ov iv new, augStore a ov iv new = (do holding [new, ov, iv] (setItem ov iv new); release [new, ov, iv] []; pure .next) := by intros; rfl) :
    VS X K cl W (.AugAssign (.Subscript (.Name x p1) a p2) .Add b pos) (tAugS (tVar i) ta tb (rGetL K) (ipI fun i j => i + j) rSetL) (sAugIx oAddI i p q) := by
  obtain rfl := ha.hK
  exact ⟨ps_augS (pe_var hN hv hd hcd) ha.pe get_L hb.pe ip_add set_list h2, rfs_augIx ha.rf hb.rf (rf_ipI (fun _ _ _ => rfl) fun x y Q q => by cases x <;> cases y <;> first | exact ⟨_, _, rfl, rfl⟩ | exact q.elim), rfl⟩
theorem vs_augIxSub {i : Nat} {x : Str} {p1 p2 : Pos} {a b : Expr} {ta tb : TE} {p q : DT} (ha : VE X K cl W a ta p) (hb : VE X K cl W b tb q) (hN : X.N[i]? = some x := by rfl) (hv : Vis X.env.scope x := by first | exact Or.inl rfl | exact Or.inr (Or.inl rfl) | exact Or.inr (Or.inr rfl)) (hd : (x == ("__debug__" : Str)) = false := by decide)
    (hcd : (x == ("__classdict__" : Str)) = false := by decide)
    (h2 : ∀ ov iv new, augStore a ov iv new = (do holding [new, ov, iv] (setItem ov iv new); release [new, ov, iv] []; pure .next) := by intros; rfl) :
    VS X K cl W (.AugAssign (.Subscript (.Name x p1) a p2) .Sub b pos) (tAugS (tVar i) ta tb (rGetL K) (ipI fun i j => i - j) rSetL) (sAugIx oSub i p q) := by
  obtain rfl := ha.hK
  exact ⟨ps_augS (pe_var hN hv hd hcd) ha.pe get_L hb.pe ip_sub set_list h2, rfs_augIx ha.rf hb.rf (rf_ipI (fun _ _ _ => rfl) fun x y Q q => by cases x <;> cases y <;> first | exact ⟨_, _, rfl, rfl⟩ | exact q.elim), rfl⟩
theorem vn_newK (hK : X.K = K := by rfl) : VN X K cl W (.Dict [] [] pos) tDNewK dNewK := by
  obtain rfl := hK
  exact ⟨pe_dnewK, rfn_newK, rfl⟩
theorem vs_putK {i : Nat} {x : Str} {p1 p2 : Pos} {a b : Expr} {ta tb : TE} {p q : DT} (hu : X.A.units + 65 < cLine) (ha : VE X K cl W a ta p) (hb : VE X K cl W b tb q) (hN : X.N[i]? = some x := by rfl) (hv : Vis X.env.scope x := by first | exact Or.inl rfl | exact Or.inr (Or.inl rfl) | exact Or.inr (Or.inr rfl)) (hd : (x == ("__debug__" : Str)) = false := by decide)
    (hcd : (x == ("__classdict__" : Str)) = false := by decide)
    (hs : swapsWith b (some (.Subscript (.Name x p1) a p2)) pos.line X.env = pure false := by rfl) :
    VS X K cl W (.Assign [.Subscript (.Name x p1) a p2] b pos) (sDPut (tVar i) ta tb) (sPutK i p q) := by
  obtain rfl := ha.hK
  exact ⟨ps_dput (by omega) (pe_var hN hv hd hcd) ha.pe hb.pe hs, rfs_putK ha.rf hb.rf, rfl⟩
theorem ve_ixK {i : Nat} {x : Str} {p1 : Pos} {b : Expr} {tb : TE} {q : DT} (hu : X.A.units + 65 < cLine) (hb : VE X K cl W b tb q) (hs : NoSl b := by exact fun _ _ => rfl) (hN : X.N[i]? = some x := by rfl) (hv : Vis X.env.scope x := by first | exact Or.inl rfl | exact Or.inr (Or.inl rfl) | exact Or.inr (Or.inr rfl)) (hd : (x == ("__debug__" : Str)) = false := by decide)
    (hcd : (x == ("__classdict__" : Str)) = false := by decide) :
    VE X K cl W (.Subscript (.Name x p1) b pos) (tDGet (tVar i) tb) (dIxK i q) := by
  obtain rfl := hb.hK
  exact ⟨pe_dget (by omega) (pe_var hN hv hd hcd) hb.pe hs, rfe_ixK hb.rf, rfl⟩
theorem ve_getK1 {apos : Pos} {a b : Expr} {ta tb : TE} {p q : DT} (hu : X.A.units + 65 < cLine) (ha : VE X K cl W a ta p) (hb : VE X K cl W b tb q) (m : M1 X a "get" apos b pos := by exact ⟨rfl, rfl, rfl, rfl⟩) :
    VE X K cl W (.Call (.Attribute a "get" apos) [b] [] pos) (tDGet1 ta tb) (dGetK1 p q) := by
  obtain rfl := ha.hK
  exact ⟨pe_dget1 (by omega) ha.pe hb.pe m, rfe_getK1 ha.rf hb.rf, rfl⟩
theorem ve_getK2 {apos : Pos} {a b c : Expr} {ta tb tc : TE} {p q r : DT} (hu : X.A.units + 65 < cLine) (ha : VE X K cl W a ta p) (hb : VE X K cl W b tb q) (hc : VE X K cl W c tc r) (m : M2 X a "get" apos b c pos := by exact ⟨rfl, rfl, rfl, rfl⟩) :
    VE X K cl W (.Call (.Attribute a "get" apos) [b, c] [] pos) (tDGet2 ta tb tc) (dGetK2 p q r) := by
  obtain rfl := ha.hK
  exact ⟨pe_dget2 (by omega) ha.pe hb.pe hc.pe m, rfe_getK2 ha.rf hb.rf hc.rf, rfl⟩
/-! dict displays -/
structure PReps (K : Fg) (cl : Cl) (F : Hp) (ps : List (V × V)) (ds : List (D × D)) : Prop where
  a : Reps K cl F (ps.map (·.1)) (ds.map (·.1))
  b : Reps K cl F (ps.map (·.2)) (ds.map (·.2))
structure RfP (K : Fg) (cl : Cl) (W : WX) (trs : List (TE × TE)) (t : DPs) : Prop where
  mono2 : ∀ E E' ρ (P P' : List (D × D) → Prop), (∀ e ρ, E e ρ → E' e ρ) → (∀ d, P d → P' d) → t E ρ P → t E' ρ P'
  ok : ∀ F0 H0 F H σ ρ E (Q : List (V × V) → Hp → Prop), Hold K cl F0 H0 F H σ ρ → LinkE K cl F0 H0 W E → t E ρ (fun ds => ∀ ps F' H', Gr F H F' H' → PReps K cl F' ps ds → Q ps H') → tPairs trs σ H Q
theorem RfP.mono {trs : List (TE × TE)} {t : DPs} (h : RfP K cl W trs t) (E : EK) (ρ : DL.Env) (P P' : List (D × D) → Prop) (f : ∀ d, P d → P' d) (q : t E ρ P) : t E ρ P' := h.mono2 E E ρ P P' (fun _ _ z => z) f q
theorem rfp_nil : RfP K cl W [] pNil where
  mono2 := fun E E' ρ P P' hE h q => h _ q
  ok := fun F0 H0 F H σ ρ E Q hh _ q => q [] F H (Gr.refl hh.g.s) ⟨.nil, .nil⟩
theorem rfp_cons {ta tb : TE} {a b : DT} {trs : List (TE × TE)} {r : DPs} (ha : RfE K cl W ta a) (hb : RfE K cl W tb b) (hr : RfP K cl W trs r) : RfP K cl W ((ta, tb) :: trs) (pCons a b r) where
  mono2 := fun E E' ρ P P' hE h q => ha.mono2 E E' ρ _ _ hE (fun x q => hb.mono2 E E' ρ _ _ hE (fun y q => hr.mono2 E E' ρ _ _ hE (fun ps q => h _ q) q) q) q
  ok := fun F0 H0 F H σ ρ E Q hh le q => by
    refine ha.ok F0 H0 F H σ ρ E _ hh le (ha.mono E ρ _ _ (fun x q v F1 H1 g1 r1 => ?_) q)
    refine hb.ok F0 H0 F1 H1 σ ρ E _ (hh.grow g1) le (hb.mono E ρ _ _ (fun y q u F2 H2 g2 r2 => ?_) q)
    refine hr.ok F0 H0 F2 H2 σ ρ E _ ((hh.grow g1).grow g2) le (hr.mono E ρ _ _ (fun ps q us F3 H3 g3 r3 => ?_) q)
    exact q _ F3 H3 ((g1.trans g2).trans g3) ⟨.cons ((r1.mono g2.f).mono g3.f) r3.a, .cons (r2.mono g3.f) r3.b⟩
theorem preps_keys {F : Hp} : ∀ {ds : List (D × D)} {ps : List (V × V)} {kvs : List (DL.Key × D)}, PReps K cl F ps ds → keyV ds = some kvs → ∃ ws : List (L2.Key × V), ps = ws.map (fun kv => (kV kv.1, kv.2)) ∧ KReps K cl F ws kvs
  | [], [], kvs, _, e => by
    cases e
    exact ⟨[], rfl, .nil⟩
  | [], _ :: _, kvs, r, e => by cases r.a
  | (k, d) :: ds, [], kvs, r, e => by cases r.a
  | (k, d) :: ds, (u, v) :: ps, kvs, ⟨.cons ra rra, .cons rb rrb⟩, e => by
    unfold keyV at e
    cases ek : keyOf k with
    | none => rw [ek] at e; cases e
    | some j =>
      cases er : keyV ds with
      | none => rw [ek, er] at e; cases e
      | some js =>
        rw [ek, er] at e
        cases e
        obtain ⟨ws, e1, r1⟩ := preps_keys ⟨rra, rrb⟩ er
        have hk : k = dKey j := by
          cases k <;> first | (cases ek; rfl) | cases ek
        rw [hk] at ra
        have eu : u = kV j := rep_key ra
        exact ⟨(j, v) :: ws, by rw [List.map_cons, ← e1, eu], .cons rb r1⟩
theorem KReps.merges {F : Hp} : ∀ {ws : List (L2.Key × V)} {kvs : List (DL.Key × D)} {us : List (L2.Key × V)} {js : List (DL.Key × D)}, KReps K cl F ws kvs → KReps K cl F us js → KReps K cl F (mergeK us ws) (kvs.foldl (fun acc p => putD acc p.1 p.2) js)
  | _, _, _, _, .nil, r0 => r0
  | _, _, _, _, .cons (k := k) h r1, r2 => by
    have z := KReps.merges r1 (r2.put k h)
    exact z
theorem rfn_disp {trs : List (TE × TE)} {t : DPs} (h : RfP K cl W trs t) : RfN K cl W (tDisp trs) (dDisp t) where
  mono2 := fun E E' ρ P P' hE hh q => h.mono2 E E' ρ _ _ hE (fun ps q => by
    obtain ⟨kvs, e, q⟩ := gSm_out q
    exact gSm_in e ⟨q.1, hh _ q.2⟩) q
  ok := fun F0 H0 F H σ ρ E Q hh le q p hp => by
    have g0 : Gr F H F (upd H p (.dK [])) := Gr.h hh.g.s (nx_upd hp)
    refine h.ok F0 H0 F _ σ ρ E _ (hh.grow g0) le (h.mono E ρ _ _ (fun ds q ps F1 H1 g1 r1 => ?_) q)
    obtain ⟨kvs, e, q⟩ := gSm_out q
    obtain ⟨ws, rfl, rk⟩ := preps_keys r1 e
    have e1 : H1 p = some (.dK []) := g1.k.get upd_same
    have fp : F1 p = none := g1.keepNone upd_same (hh.g.s.free hp)
    refine ⟨e1, ws, rfl, ?_, ?_⟩
    · have := r1.a.length
      simp only [List.length_map] at this
      omega
    · refine q.2 p F1 _ ⟨g1.f, ((nx_upd hp).kp.trans g1.k).put hp (.at e1), fun b o z => ?_, fun b x y => ?_, fun b ps x => ?_, fun b ps x => g1.v b ps x⟩ hp fp ⟨_, upd_same, KReps.merges rk .nil⟩
      · have hb : b ≠ p := ne_of_none z fp
        rw [upd_ne hb]
        exact g1.s _ _ z
      · have := g1.n b x y
        by_cases hb : b = p
        · subst hb; exact hp
        · rwa [upd_ne hb] at this
      · have hb : b ≠ p := ne_of_none x fp
        have := g1.w b ps x
        rwa [upd_ne hb] at this
structure VPr (X : Cx) (K : Fg) (cl : Cl) (W : WX) (pos : Pos) (ks : List (Option Expr)) (vs : List Expr) (trs : List (TE × TE)) (t : DPs) : Prop where
  pe : PPs X pos ks vs trs
  rf : RfP K cl W trs t
  hK : X.K = K
theorem vpr_nil (hK : X.K = K := by rfl) : VPr X K cl W pos [] [] [] pNil := by
  obtain rfl := hK
  exact ⟨pps_nil, rfp_nil, rfl⟩
theorem vpr_cons {k v : Expr} {ks : List (Option Expr)} {vs : List Expr} {ta tb : TE} {a b : DT} {trs : List (TE × TE)} {r : DPs} (ha : VE X K cl W k ta a) (hb : VE X K cl W v tb b) (hr : VPr X K cl W pos ks vs trs r) : VPr X K cl W pos (some k :: ks) (v :: vs) ((ta, tb) :: trs) (pCons a b r) := by
  obtain rfl := ha.hK
  exact ⟨pps_cons ha.pe hb.pe hr.pe, rfp_cons ha.rf hb.rf hr.rf, rfl⟩
theorem vn_disp {ks : List (Option Expr)} {vs : List Expr} {trs : List (TE × TE)} {t : DPs} (h : VPr X K cl W pos ks vs trs t) (hall : ks.all (·.isSome) = true := by rfl) (hl : ks.length = vs.length := by rfl) (h0 : ks ≠ [] := by simp) (h15 : ks.length ≤ 15 := by decide) : VN X K cl W (.Dict ks vs pos) (tDisp trs) (dDisp t) := by
  obtain rfl := h.hK
  exact ⟨pe_disp h.pe hall hl h0 h15, rfn_disp h.rf, rfl⟩
end
end DL

set_option maxHeartbeats 2000000
/-! DExc: an own error class over ValueError whose __init__ says super().__init__(..) and keeps its arguments. -/
namespace DL
open PySem L2 PyProof.Rows
variable [TN]
/-- the scope of such an __init__: parameters, the class's cell, globals -/
structure IScope (ps : List Str) (sc : Scope) : Prop where
  kind : sc.kind = .function
  co : sc.isCoroutine = false
  gen : sc.isGenerator = false
  nd : ps.Nodup
  par : ∀ x ∈ ps, sc.names.lookup x = some .local
  nocell : ∀ x ∈ sc.names, x.2 ≠ .cell
  fr : ∀ x ∈ sc.names, x.2 = .free → x.1 = ("__class__" : Str)
  cls : sc.names.lookup ("__class__" : Str) = some .free
  sup : sc.names.lookup ("super" : Str) = some .globalImplicit
theorem upd_own {H : Hp} {a : Addr} {o : HO} (h : H a = some o) : upd H a o = H := by
  funext p
  by_cases e : p = a
  · rw [e, upd_same, h]
  · rw [upd_ne e]
/-- the context of its body -/
def cxI (P : Program) (w : World) (K : Fg) (mg : Str → Option Value) (base : Heap) (N : List Str) (qual : Str) (scope : Scope) (f : Addr) (cd : Value) (cc : Addr) (A : Around) (outer : List PySem.Env) (s : Shared) (H : Hp) (E : XK) : Cx where
  prog := P
  w := w
  K := K
  mg := mg
  base := base
  A := A.deeper (PySem.W.ksEnv qual scope s.heap.objs.size f cd cc)
  N := N
  s_0 := s
  H_0 := H
  env := PySem.W.ksEnv qual scope s.heap.objs.size f cd cc
  outer := outer
  stack := PySem.W.ksEnv qual scope s.heap.objs.size f cd cc :: outer
  ex := []
  calm := true
  fn := fun _ => false
  pn := []
  xe := fun e s' => wpAny (model P w) (A.deeper (PySem.W.ksEnv qual scope s.heap.objs.size f cd cc)) (leaving (PySem.W.ksEnv qual scope s.heap.objs.size f cd cc) e) (fun _ s'' => L2.CX P w outer H s E e s'') (fun e' s'' => L2.CX P w outer H s E e' s'') s'
theorem rev_look : ∀ {ps : List Str} {us : List Value} {i : Nat} {y : Str} {u : Value}, ps.Nodup → ps[i]? = some y → us[i]? = some u → (ps.zip us).reverse.lookup y = some u := by
  intro ps us i y u nd h1 h2
  have key : ∀ (l : List (Str × Value)), (l.map (·.1)).Nodup → (y, u) ∈ l → l.lookup y = some u := by
    intro l
    induction l with
    | nil => intro _ h; cases h
    | cons p r ih =>
      intro nd h
      obtain ⟨a, b⟩ := p
      simp only [List.map_cons, List.nodup_cons] at nd
      rw [List.lookup_cons]
      by_cases e : y = a
      · subst e
        have : b = u := by
          rcases List.mem_cons.mp h with z | z
          · cases z; rfl
          · exact absurd (List.mem_map_of_mem (f := (·.1)) z) nd.1
        simp [this]
      · have z : (y == a) = false := by simpa using e
        rw [z]
        rcases List.mem_cons.mp h with z | z
        · cases z; exact absurd rfl e
        · exact ih nd.2 z
  have sub : ∀ (ps : List Str) (us : List Value), ps.Nodup → ((ps.zip us).map (·.1)).Nodup := by
    intro ps
    induction ps with
    | nil => intro us _; simp
    | cons p r ih =>
      intro us nd
      cases us with
      | nil => simp
      | cons u us =>
        simp only [List.zip_cons_cons, List.map_cons, List.nodup_cons] at nd ⊢
        refine ⟨fun z => nd.1 ?_, ih us nd.2⟩
        obtain ⟨q, hq, e⟩ := List.mem_map.mp z
        rw [← e]
        exact (List.of_mem_zip hq).1
  apply key
  · rw [List.map_reverse]
    exact List.pairwise_reverse.mpr ((sub ps us nd).imp fun h z => h z.symm)
  · rw [List.mem_reverse, List.mem_iff_getElem?]
    exact ⟨i, List.getElem?_zip_eq_some.mpr ⟨h1, h2⟩⟩
section
variable {P : Program} {w : World} {K : Fg} {mg : Str → Option Value} {base : Heap} {ps : List Str} {qual : Str} {sc : Scope} {f cc C : Addr} {cd : Value} {A : Around} {outer : List PySem.Env} {s : Shared} {H : Hp} {E : XK}
/-- at its start -/
theorem inv_init {us : List Value} {vs : List V} {h1 : Heap} {tk : Nat} {cl : Value} {cld : Option Addr} {csl : Array (Option Value)} (S : IScope ps sc) (hd : A.handled = none) (e0 : Env0 P w K mg base A outer s H) (hl : vs.length = ps.length) (r : Vals vs us)
    (hcell : K.lookup cc = some ⟨cl, cld, .cell (some (.ref C)), csl⟩) (hns : h1.Ns s.heap.objs.size fun y => (ps.zip us).reverse.lookup y) (hk : ∀ b o, s.heap.get? b = some o → h1.get? b = some o) :
    Inv (cxI P w K mg base ps qual sc f cd cc A outer s H E) [] (vs.map some) H { s with heap := h1, toks := tk } := by
  have hc := e0.mod.kin _ _ hcell
  have hc1 := e0.bs _ _ hc
  have noA : ∀ b : Addr, b ∉ (cxI P w K mg base ps qual sc f cd cc A outer s H E).ex := fun b z => absurd (show b ∈ ([] : List Addr) from z) (by simp)
  have one : ∀ x c, (cxI P w K mg base ps qual sc f cd cc A outer s H E).env.cells.lookup x = some c → x = ("__class__" : Str) ∧ c = cc := fun x c z => by
    have z' : ([(("__class__" : Str), cc)] : List (Str × Addr)).lookup x = some c := z
    rw [List.lookup_cons] at z'
    cases e : x == ("__class__" : Str) with
    | true =>
      rw [e] at z'
      exact ⟨by simpa using e, (Option.some.inj z').symm⟩
    | false => rw [e] at z'; cases z'
  refine ⟨⟨e0.mod, S.kind, rfl, rfl, Nat.le_refl _, fun y z c h1 h2 => (one _ _ h1).1.trans (one _ _ h2).1.symm, fun y hy => ?_, fun y c h _ => Bool.noConfusion h, fun _ => hd, Around.frames_deeper e0.frames, .inr ⟨rfl, rfl⟩, fun b z => absurd z (noA b), e0.bs, e0.bsz, fun b _ _ => noA b, fun b z => absurd z (noA b), e0.funs, e0.frf⟩,
    rfl, e0.bare, Un.kept hk, ⟨_, hns, fun i y v h1 h2 h3 => ?_⟩, fun y c h => ?_, e0.hok.fresh (Nat.le_refl _), fun y c h => ?_, fun p hp => absurd (show p ∈ ([] : List (Addr × Obj)) from hp) (by simp), e0.hok.kept hk, ?_⟩
  · have hy : sc.names.lookup y = some .cell ∨ sc.names.lookup y = some .free := hy
    rcases hy with hy | hy
    · exact absurd rfl (S.nocell _ (PySem.mem_of_lookup hy))
    · have e := S.fr _ (PySem.mem_of_lookup hy) rfl
      subst e
      exact ⟨cc, rfl⟩
  · rw [List.getElem?_map] at h2
    cases e : vs[i]? with
    | none => rw [e] at h2; cases h2
    | some a =>
      rw [e] at h2
      cases h2
      obtain ⟨u, hu, rv⟩ := r.get e
      exact ⟨u, rv, .inl ⟨S.par y (List.mem_of_getElem? h1), rev_look S.nd h1 hu⟩⟩
  · obtain ⟨rfl, rfl⟩ := one _ _ h
    exact ⟨_, _, hk _ _ hc1.1, rfl⟩
  · obtain ⟨rfl, rfl⟩ := one _ _ h
    exact hc1.2
  · show (vs.map some).length = ps.length
    rw [List.length_map, hl]
/-- what the written part says of such a class and its __init__ -/
structure ErrC (P : Program) (K : Fg) (C cc cda f : Addr) (fd : FuncData) : Prop where
  oex : OexC K C
  file : ∃ cl od vs sl fi tf, K.lookup cda = some ⟨cl, od, .fields vs, sl⟩ ∧ vs[2]? = some (.str fi tf) ∧ (P.main.file == fi) = true
  fn : ∃ oc od osl, K.lookup f = some ⟨oc, od, .func fd, osl⟩
  cell : ∃ cl od sl, K.lookup cc = some ⟨cl, od, .cell (some (.ref C)), sl⟩
  top : (P.main.scope.names.lookup ("super" : Str)).isSome = false
  opq : PySem.W.nsIn K cStatics "thirdparty.any" = some none
  sup : PySem.W.ks_superIn K C C "__init__" = some (some (.builtin "ValueError.__init__"))
  sub : PySem.W.subIn K (.ref C) (.type "ValueError") = some true
  mro : PySem.W.mroIn K C (.ref C) = some true
/-- the call of the wrapper that super().__init__ is -/
theorem call_mw {X : Cx} {pins : List (Addr × Obj)} {σ : L2.St} {u a : Addr} {us : List Value} {Q : Value → Shared → Prop} (T : OexC X.K C) (I : Inv X pins σ H s) (e : H a = some (exo a C none)) (hu : s.heap.get? u = some (PySem.W.kxs_mw "ValueError.__init__" a)) (hl : us.length ≤ sizeLine)
    (h : ∀ s', Inv X pins σ H s' → Q .none s') : wpAny (model X.prog X.w) X.A (call (.ref u) us) Q X.xe s := by
  obtain ⟨nm, qn, N, bs, bm, sn, sub, ab, col, dd, k0, k1, k2, k3, k5, hC, hbm⟩ := T.cls
  obtain ⟨t1, ho⟩ := exo_at I.hok e
  have hC' := I.kIn _ _ hC
  obtain ⟨hp, g, d, tk, os⟩ := s
  refine wpAny_call (codeAny_of_tree ?_)
  show wpAny _ X.A.in1 (callAny (.ref u) { pos := us, kw := [] }) _ _ _
  simp only [callAny]
  refine wpAny_bind (wpAny_load hu ?_)
  simp only [PySem.W.kxs_mw, show (Value.type "method-wrapper" == Value.type "method" || Value.type "method-wrapper" == Value.type "builtin_function_or_method" || Value.type "method-wrapper" == Value.type "method-wrapper") = true by decide, if_true]
  refine PySem.W.KFB.if_so (by decide) ?_
  refine wpAny_bind (PySem.W.check_bound_init F.excBase_ValueError.toExcCallFacts hC' ho rfl ?_)
  refine wpAny_bind (wpAny_pure (wpAny_pure ⟨plainId_quiet F.excBase_ValueError.init.plain _, codeAny_builtin F.excBase_ValueError.initEntry ?_⟩))
  refine PySem.W.exc_init_tree (cls := .ref C) (t0 := t1) (dv := none) (c2 := .none) (c3 := .none) (b4 := .bool false) ho hl fun h' k hx ht => ?_
  have J := I.write (t' := tk) (x := a) (e := a) (o := exo a C none) (by rw [e]; exact True.intro) (.inl rfl) k ⟨_, hx⟩ (exo_ok hx)
  rw [upd_own e] at J
  exact h _ J
/-- super().__init__(e) as a statement -/
theorem super_init {s0 : Shared} {H0 : Hp} {pins : List (Addr × Obj)} {σ : L2.St} {a cda : Addr} {name : Str} {params : Arguments} {body bd : List Stmt} {kV doc pm ct : Value} {an : Option Addr} {ar : Arg} {e : Expr} {te : TE} {p0 p1 p2 p3 p4 : Pos} {pl : Sem Bool} {R : Hp → Prop}
    (S : IScope ps sc) (T : ErrC P K C cc cda f (PySem.W.ksFn name qual params body sc .none kV doc pm an (.ref cda) ct cc))
    (hpar : (params.posonlyargs ++ params.args).head? = some ar) (hN : ps[0]? = some ar.arg) (hm : mg ("super" : Str) = none)
    (I : Inv (cxI P w K mg base ps qual sc f (.ref cda) cc A outer s0 H0 E) pins σ H s) (hs : σ[0]? = some (some (.ref a))) (ha : H a = some (exo a C none)) (he : PE (cxI P w K mg base ps qual sc f (.ref cda) cc A outer s0 H0 E) e te) (q : te σ H fun _ H1 => H1 a = some (exo a C none) ∧ R H1)
    (heval : eval (.Call (.Attribute (.Call (.Name "super" p0) [] [] p1) "__init__" p2) [e] [] p3) (PySem.W.ksEnv qual sc s0.heap.objs.size f (.ref cda) cc) = (do
      let ov ← attributeBase (.Call (.Name "super" p0) [] [] p1) "__init__" (PySem.W.ksEnv qual sc s0.heap.objs.size f (.ref cda) cc) (eval (.Call (.Name "super" p0) [] [] p1) (PySem.W.ksEnv qual sc s0.heap.objs.size f (.ref cda) cc))
      standAt p2.atName
      let (g, first) ← holding [ov] (getMethod ov "__init__" pl)
      callWith p3 g first (backTo p3 (starEach [e] (PySem.W.ksEnv qual sc s0.heap.objs.size f (.ref cda) cc))) []) := by rfl)
    (hint : interactive (PySem.W.ksEnv qual sc s0.heap.objs.size f (.ref cda) cc) = false := by rfl) (hsw : swapsWith (.Call (.Attribute (.Call (.Name "super" p0) [] [] p1) "__init__" p2) [e] [] p3) none p4.line (PySem.W.ksEnv qual sc s0.heap.objs.size f (.ref cda) cc) = pure false := by rfl)
    (hst : starEach [e] (PySem.W.ksEnv qual sc s0.heap.objs.size f (.ref cda) cc) = (false, eval e (PySem.W.ksEnv qual sc s0.heap.objs.size f (.ref cda) cc)) :: starEach [] (PySem.W.ksEnv qual sc s0.heap.objs.size f (.ref cda) cc) := by rfl) :
    _root_.PySem.wpAt (model P w) (A.deeper (PySem.W.ksEnv qual sc s0.heap.objs.size f (.ref cda) cc)) (.func bd (PySem.W.ksEnv qual sc s0.heap.objs.size f (.ref cda) cc)) (exec (.Expr (.Call (.Attribute (.Call (.Name "super" p0) [] [] p1) "__init__" p2) [e] [] p3) p4) (PySem.W.ksEnv qual sc s0.heap.objs.size f (.ref cda) cc))
      (fun fl s' => fl = Flow.next ∧ ∃ H', Inv (cxI P w K mg base ps qual sc f (.ref cda) cc A outer s0 H0 E) pins σ H' s' ∧ R H') (cxI P w K mg base ps qual sc f (.ref cda) cc A outer s0 H0 E).xe s := by
  refine ks_wpAt_Expr_any ?_ hint hsw
  refine ks_wpAt_MethodCall (pl := pl) ?_ heval
  have X := I.kIn
  obtain ⟨cl1, od1, vs1, sl1, fi, tf, hcda, hv2, hfile⟩ := T.file
  obtain ⟨oc, od, osl, hf⟩ := T.fn
  obtain ⟨cl2, od2, sl2, hcc⟩ := T.cell
  obtain ⟨nm, qn, N, bs, bm, sn, sub, ab, col, dd, k0, k1, k2, k3, k5, hC, hbm⟩ := T.oex.cls
  have hcl : PySem.W.clsIn K C = some { name := nm, bases := bs, mro := .ref C :: bm, ns := N, qualname := qn, hasDict := true, slotNames := sn, subclasses := sub, abstract := ab, collection := col, hasDel := false } := by unfold PySem.W.clsIn; rw [hC] <;> rfl
  obtain ⟨t1, ho⟩ := exo_at I.hok ha
  obtain ⟨m, hns, hloc⟩ := I.loc
  have hself : m ar.arg = some (.ref a) := by
    have hmem := List.mem_of_getElem? hN
    obtain ⟨u, ru, lk⟩ := hloc 0 ar.arg _ hN hs (.inl (S.par _ hmem))
    rcases lk with ⟨_, z⟩ | ⟨z | z, _⟩
    · rw [z]
      obtain rfl : u = Value.ref a := ru
      rfl
    · have z' : sc.names.lookup ar.arg = some .cell := z
      rw [S.par _ hmem] at z'
      cases z'
    · have z' : sc.names.lookup ar.arg = some .free := z
      rw [S.par _ hmem] at z'
      cases z'
  have hxC : a ≠ C := fun z => by
    have z2 := X _ _ hC
    rw [← z, ho] at z2
    cases z2
  have hb := I.bs _ _ (I.mod.kin _ _ hC)
  refine ks_wpAt_super_base (env := PySem.W.ksEnv qual sc s0.heap.objs.size f (.ref cda) cc) S.sup S.cls (by decide) rfl (X _ _ hf) rfl hpar rfl (X _ _ hcda) rfl hv2 hfile T.top ?_
  obtain ⟨mb, hmb, hbl⟩ := I.mod.blt
  refine PySem.W.ks_loadName_global S.kind S.sup (Calls.loadGlobal_builtin (env := PySem.W.ksEnv qual sc s0.heap.objs.size f (.ref cda) cc) (I.mod.glob.keeps I.bk) hm (hmb.keeps I.bk) ((hbl _ (by decide)).trans (by decide +kernel)) ⟨rfl, ?_⟩)
  refine wpAny_loadName_free S.kind S.cls rfl ⟨_, X _ _ hcc, rfl⟩ ?_
  refine wpAny_loadName_local S.kind (S.par _ (List.mem_of_getElem? hN)) hns hself ?_
  have hD2 : (excClassObj nm qn C N bs bm true sn sub ab col dd k0 k1 k2 k3 k5 "ValueError.__new__").data = .cls { name := nm, bases := bs, mro := .ref C :: bm, ns := N, qualname := qn, hasDict := true, slotNames := sn, subclasses := sub, abstract := ab, collection := col, hasDel := false } := rfl
  obtain ⟨hp, g, d, tk, os⟩ := s
  refine ks_wpAny_isType_cls (X _ _ hC) hD2 ⟨rfl, ?_⟩
  refine ks_wpAny_call_super (X _ _ hC) hD2 ho rfl (fun c z => by cases z) (PySem.W.looks_mroIn X T.mro) (fun h1 eso k1 => ?_)
  have I1 := I.kept (t' := tk) k1
  obtain ⟨t2, ho2⟩ := exo_at I1.hok ha
  have X1 := I1.kIn
  have Ia : PySem.W.InstAt h1 a { cls := .ref C, dict := none, data := .fields #[.ref t2, .none, .none, .none, .bool false, .none] } C none := ⟨ho2, rfl, rfl, trivial⟩
  have hm2 := T.sup
  unfold PySem.W.ks_superIn at hm2
  rw [hcl] at hm2
  refine PySem.W.kxs_getMethod PySem.W.kxs_ValueError eso (PySem.W.looks_opaque X1 T.opq) (l₀ := .ref C :: bm) ?_ rfl X1 hm2 (Ia.type.andThen (PySem.W.looks_subIn X1 T.sub)) hxC (by decide) ?_
  · exact fun A Q E s k q => wpAny_bind ((PySem.W.looks_clsIn X1 hcl) A _ E s k (wpAny_pure q))
  have k2 : ∀ b o, h1.get? b = some o → (h1.push (PySem.W.kxs_mw "ValueError.__init__" a)).get? b = some o := fun b o z => Heap.get?_push_of_some _ z
  have I2 := I1.kept (t' := tk + 1) k2
  have hu : (h1.push (PySem.W.kxs_mw "ValueError.__init__" a)).get? h1.objs.size = some (PySem.W.kxs_mw "ValueError.__init__" a) := Heap.get?_push_size _ rfl
  have I3 := I2.pins_of (pins' := (h1.objs.size, PySem.W.kxs_mw "ValueError.__init__" a) :: pins) fun p hp => by
    rcases List.mem_cons.mp hp with rfl | hp
    · exact ⟨hu, I1.hok.fresh (Nat.le_refl _), Nat.ne_of_gt I1.lt, I1.nofs (Nat.le_refl _), fun v z => by cases z⟩
    · exact I2.pin p (List.mem_append_right _ hp)
  refine PySem.W.kxs_callWith (i := "ValueError.__init__") (x := a) (by rw [hst]; rfl) ?_
  rw [hst]
  refine Calls.evalArgs_plain (Calls.spliced_cons (thn (he.run _ _ σ H _ I3 q) fun u s4 ⟨v, H4, I4, r4, ha4, qR⟩ => Calls.spliced_nil ?_))
  have hu4 := (I4.pin _ (List.mem_append_right _ List.mem_cons_self)).1
  have J4 := I4.pins_of (pins' := pins) fun p hp => I4.pin p (List.mem_append_right _ (List.mem_cons_of_mem _ hp))
  exact ⟨hu4, call_mw T.oex J4 ha4 hu4 (by show 1 ≤ sizeLine; rw [sizeLine_eq]; omega) fun s' J => ⟨rfl, H4, J, qR⟩⟩
end
/-- the promise of such an __init__: its arguments, texts and small numbers, are kept under the names fs -/
def okArg : V → Prop
  | .str x => x.length ≤ 1000 ∧ (PySem.reprText x).length ≤ 100000
  | .int i => i.natAbs.log2 < 1920
  | _ => False
def spI (K : Fg) (C : Addr) (fs : List Str) : Sp := fun vs H Q _ => ∃ (a : Addr) (us : List V), vs = .ref a :: us ∧ us.length = fs.length ∧ (∀ u ∈ us, okArg u) ∧ H a = some (exo a C none) ∧
  ∀ d, H d = none → d ≠ a → Q .non (upd (upd H d (exd d (fs.zip us).reverse)) a (exo a C (some d)))
section
variable {P : Program} {w : World} {K : Fg} {mg : Str → Option Value} {base : Heap} {ps : List Str} {qual : Str} {sc : Scope} {f cc C : Addr} {cda : Addr}
/-- THE RULE for such an __init__ -/
theorem init_ok {name : Str} {params : Arguments} {rest : List Stmt} {kV doc pm ct : Value} {an : Option Addr} {ar : Arg} {e : Expr} {p0 p1 p2 p3 p4 : Pos} {pl : Addr → Sem Bool} {fs : List Str} {k : Nat}
    (S : IScope ps sc) (T : ErrC P K C cc cda f (PySem.W.ksFn name qual params (.Expr (.Call (.Attribute (.Call (.Name "super" p0) [] [] p1) "__init__" p2) [e] [] p3) p4 :: rest) sc .none kV doc pm an (.ref cda) ct cc)) (hcd : PySem.W.codeIn K (.ref cda) qual = true)
    (hpar : (params.posonlyargs ++ params.args).head? = some ar) (hN : ps[0]? = some ar.arg) (hm : mg ("super" : Str) = none) (hfs : ps.length = fs.length + 1)
    (hbody : ∀ (A : Around) (outer : List PySem.Env) (s : Shared) (H : Hp) (E : XK) (a : Addr) (us : List V) (D : Ends), us.length = fs.length → (∀ u ∈ us, okArg u) → H a = some (exo a C none) → (∀ d, H d = none → d ≠ a → D.nx (some (.ref a) :: us.map some) (upd (upd H d (exd d (fs.zip us).reverse)) a (exo a C (some d)))) →
      ∃ te t, PE (cxI P w K mg base ps qual sc f (.ref cda) cc A outer s H E) e te ∧ PSs (cxI P w K mg base ps qual sc f (.ref cda) cc A outer s H E) rest t ∧ te (some (.ref a) :: us.map some) H fun _ H1 => H1 a = some (exo a C none) ∧ t D (some (.ref a) :: us.map some) H1)
    (heval : ∀ L : Addr, eval (.Call (.Attribute (.Call (.Name "super" p0) [] [] p1) "__init__" p2) [e] [] p3) (PySem.W.ksEnv qual sc L f (.ref cda) cc) = (do
      let ov ← attributeBase (.Call (.Name "super" p0) [] [] p1) "__init__" (PySem.W.ksEnv qual sc L f (.ref cda) cc) (eval (.Call (.Name "super" p0) [] [] p1) (PySem.W.ksEnv qual sc L f (.ref cda) cc))
      standAt p2.atName
      let (g, first) ← holding [ov] (getMethod ov "__init__" (pl L))
      callWith p3 g first (backTo p3 (starEach [e] (PySem.W.ksEnv qual sc L f (.ref cda) cc))) []) := by intro _; rfl)
    (hint : ∀ L : Addr, interactive (PySem.W.ksEnv qual sc L f (.ref cda) cc) = false := by intro _; rfl) (hsw : ∀ L : Addr, swapsWith (.Call (.Attribute (.Call (.Name "super" p0) [] [] p1) "__init__" p2) [e] [] p3) none p4.line (PySem.W.ksEnv qual sc L f (.ref cda) cc) = pure false := by intro _; rfl)
    (hst : ∀ L : Addr, starEach [e] (PySem.W.ksEnv qual sc L f (.ref cda) cc) = (false, eval e (PySem.W.ksEnv qual sc L f (.ref cda) cc)) :: starEach [] (PySem.W.ksEnv qual sc L f (.ref cda) cc) := by intro _; rfl) :
    FnOk P w K mg base (L2.CX P w) (k + 1) f (PySem.W.ksFn name qual params (.Expr (.Call (.Attribute (.Call (.Name "super" p0) [] [] p1) "__init__" p2) [e] [] p3) p4 :: rest) sc .none kV doc pm an (.ref cda) ct cc) ps (spI K C fs) := by
  refine ⟨fun vs H Q E h => ?_, fun A outer s H args us vs Q E hr e0 hb r hsp => ?_⟩
  · obtain ⟨a, us, rfl, hl, _⟩ := h
    rw [List.length_cons, hl, hfs]
  obtain ⟨a, ws, rfl, hl, hok, ha, hq⟩ := hsp
  obtain ⟨oc, od, osl, hf⟩ := T.fn
  obtain ⟨cl2, od2, sl2, hcc⟩ := T.cell
  have KX : K.In s.heap := e0.mod.kin.keeps fun b o z => (e0.bs b o z).1
  have lim : s.heap.NoLimit := e0.mod.nolimit.keeps fun b o z => (e0.bs b o z).1
  refine ks_codeAny_call_defAt (binds := ps.zip us) hr.depth (KX _ _ hf) rfl lim (PySem.W.codeRec_of KX hcd) rfl hb S.nocell (fun x hx => S.par _ (List.of_mem_zip hx).1) (fun h1 hns hk => ?_) S.co S.gen S.kind
  have hlv : (V.ref a :: ws).length = ps.length := by rw [List.length_cons, hl, hfs]
  have I : Inv (cxI P w K mg base ps qual sc f (.ref cda) cc A outer s H E) [] ((V.ref a :: ws).map some) H { s with heap := h1, toks := s.toks + (ps.zip us).length } := inv_init S hr.hd e0 hlv r hcc hns hk
  obtain ⟨te, t, he, ht, q⟩ := hbody A outer s H E a ws { nx := fun _ H' => Q .non H', rt := Q } hl hok ha fun d hd ne => hq d hd ne
  refine ks_wpAt_execs_cons (ks_wpAt_mono (super_init (bd := _) S T hpar hN hm I rfl ha he q (heval _) (hint _) (hsw _) (hst _)) (fun fl s' hs => ?_) fun _ _ z => z)
  obtain ⟨rfl, H1, I1, q1⟩ := hs
  have fin : ∀ {σ' : L2.St} {H' : Hp} {v : V} {u : Value} {s' : Shared}, Inv (cxI P w K mg base ps qual sc f (.ref cda) cc A outer s H E) [] σ' H' s' → RelV v u → Q v H' → CE outer P w H s Q u s' :=
    fun {σ' H' v u s'} J rv q => ⟨v, H', J.os, J.bare, J.base, J.hok, rv, q⟩
  refine ks_wpAt_mono (wpAt_of_wpAny (ht.run [] s' _ H1 _ I1 q1)) (fun fl s2 hs => ?_) fun e s2 hs => hs
  cases fl with
  | ret u =>
    obtain ⟨v, σ', H', J, rv, q⟩ := hs
    exact fin J rv q
  | next =>
    obtain ⟨σ', H', J, q⟩ := hs
    exact fin (v := V.non) (u := Value.none) J rfl q
  | brk =>
    obtain ⟨_, _, _, q⟩ := hs
    exact False.elim q
  | cont =>
    obtain ⟨_, _, _, q⟩ := hs
    exact False.elim q
/-- self.f = its argument, once and twice -/
theorem ost_1 {fn : Str} {a : Addr} {u : V} {H : Hp} {D : Ends} (T : OexC K C) (hno : PySem.W.findIn K (.ref C) fn = some none) (ha : H a = some (exo a C none)) (q : ∀ d, H d = none → d ≠ a → D.nx [some (.ref a), some u] (upd (upd H d (exd d [(fn, u)])) a (exo a C (some d)))) :
    tOst K fn (tVar 0) (tVar 1) D [some (.ref a), some u] H := ⟨u, rfl, .ref a, rfl, a, C, rfl, T, hno, .inl ⟨ha, q⟩⟩
theorem ost_2 {fn gn : Str} {a : Addr} {u v : V} {H : Hp} {D : Ends} (T : OexC K C) (h1 : PySem.W.findIn K (.ref C) fn = some none) (h2 : PySem.W.findIn K (.ref C) gn = some none) (ha : H a = some (exo a C none)) (q : ∀ d, H d = none → d ≠ a → D.nx [some (.ref a), some u, some v] (upd (upd H d (exd d [(gn, v), (fn, u)])) a (exo a C (some d)))) :
    tSeq (tOst K fn (tVar 0) (tVar 1)) (tOst K gn (tVar 0) (tVar 2)) D [some (.ref a), some u, some v] H := by
  refine ⟨u, rfl, .ref a, rfl, a, C, rfl, T, h1, .inl ⟨ha, fun d hd ne => ?_⟩⟩
  refine ⟨v, rfl, .ref a, rfl, a, C, rfl, T, h2, .inr ⟨d, [(fn, u)], upd_same, ?_, by simp, ?_⟩⟩
  · rw [upd_ne ne]
    exact upd_same
  · have := q d hd ne
    have e : upd (upd (upd H d (exd d [(fn, u)])) a (exo a C (some d))) d (exd d [(gn, v), (fn, u)]) = upd (upd H d (exd d [(gn, v), (fn, u)])) a (exo a C (some d)) := by
      funext p
      by_cases hp : p = d
      · subst hp
        rw [upd_same, upd_ne ne, upd_same]
      · rw [upd_ne hp]
        by_cases hq : p = a
        · subst hq
          rw [upd_same, upd_same]
        · rw [upd_ne hq, upd_ne hq, upd_ne hp, upd_ne hp]
    rw [e]
    exact this
end
end DL

set_option maxHeartbeats 2000000
/-! DTry: own errors raised and caught. -/
namespace DL
open PySem L2 PyProof.Rows
variable [TN]
section
variable {K : Fg} {cl : Cl} {W : WX}
theorem okD_arg {F : Hp} {v : V} {d : D} (r : Rep K cl F v d) (h : okE d) : okArg v := by
  cases r with
  | str x => exact ⟨h.1, Nat.le_trans (PySem.StrLaws.reprText_len x h.2) (by have := h.1; omega)⟩
  | int i => exact h
  | _ => exact h.elim
theorem reps_ok {F : Hp} : ∀ {vs : List V} {ds : List D}, Reps K cl F vs ds → (∀ d ∈ ds, okE d) → ∀ v ∈ vs, okArg v
  | _, _, .nil, _, v, hv => by cases hv
  | _, _, .cons h r, q, v, hv => by
    rcases List.mem_cons.mp hv with z | z
    · subst z
      exact okD_arg h (q _ List.mem_cons_self)
    · exact reps_ok r (fun d hd => q d (List.mem_cons_of_mem _ hd)) v z
theorem freps_zip {F : Hp} : ∀ (fs : List Str) {vs : List V} {ds : List D}, Reps K cl F vs ds → FReps K cl F (fs.zip vs) (fs.zip ds)
  | [], _, _, _ => by rw [List.zip_nil_left, List.zip_nil_left]; exact .nil
  | _ :: _, _, _, .nil => by rw [List.zip_nil_right, List.zip_nil_right]; exact .nil
  | _ :: fs, _, _, .cons h r => .cons h (freps_zip fs r)
theorem FReps.append {F : Hp} {ws us : List (Str × V)} {ds es : List (Str × D)} (r : FReps K cl F ws ds) (q : FReps K cl F us es) : FReps K cl F (ws ++ us) (ds ++ es) := by
  induction ds generalizing ws with
  | nil => cases r; exact q
  | cons d ds ih => cases r with
    | cons h r => exact .cons h (ih r)
theorem FReps.reverse {F : Hp} {ws : List (Str × V)} {ds : List (Str × D)} (r : FReps K cl F ws ds) : FReps K cl F ws.reverse ds.reverse := by
  induction ds generalizing ws with
  | nil => cases r; exact .nil
  | cons d ds ih => cases r with
    | cons h r =>
      rw [List.reverse_cons, List.reverse_cons]
      exact (ih r).append (.cons h .nil)
theorem rfs_raise {c : String} {C : Addr} {fs : List Str} {ta : TA} {t : DA} (hC : cl.nm c = some C) (hl : fs.length ≤ 900) (ha : RfA K cl W ta t) :
    RfS K cl W (fun _ σ H => tMkO C (spI K C fs) [] ta σ H fun v d H' => W v d σ H') (sRaise c fs t) where
  mono2 := fun E E' A B ρ hE l q => ha.mono2 E E' ρ _ _ hE (fun xs q => ⟨q.1, q.2.1, hE _ _ q.2.2⟩) q
  ok := fun F0 H0 F H σ ρ E B A hh le ld q => by
    refine ha.ok F0 H0 F H σ ρ E _ hh le (ha.mono E ρ _ _ (fun xs q vs F1 H1 g1 r1 => ?_) q)
    obtain ⟨q1, q2, q3⟩ := q
    have hv : vs.length = fs.length := by rw [r1.length, q1]
    refine ⟨by rw [hv]; omega, fun a hn => ⟨a, vs, by rw [List.append_nil], hv, reps_ok r1 q2, upd_same, fun d hd ne => ?_⟩⟩
    have hd1 : H1 d = none := by rwa [upd_ne ne] at hd
    refine ⟨rfl, d, (fs.zip vs).reverse, upd_same, by rw [upd_ne ne]; exact upd_same, hd1, ?_⟩
    have g2 : Gr F1 H1 (upd F1 d (.xd (fs.zip vs).reverse)) (upd (del (upd (upd (upd H1 a (exo a C none)) d (exd d (fs.zip vs).reverse)) a (exo a C (some d))) a) d (.xd (fs.zip vs).reverse)) := by
      have same : ∀ p o, H1 p = some o → (upd (del (upd (upd (upd H1 a (exo a C none)) d (exd d (fs.zip vs).reverse)) a (exo a C (some d))) a) d (.xd (fs.zip vs).reverse)) p = some o := fun p o e => by
        have n1 : p ≠ a := ne_of_none e hn
        have n2 : p ≠ d := ne_of_none e hd1
        rw [upd_ne n2, del_ne n1, upd_ne n1, upd_ne n2, upd_ne n1]
        exact e
      refine ⟨same_upd (g1.s.free hd1), ⟨fun p o e _ => same p o e, fun P _ C _ t => t.of fun ps h => same _ _ h, fun p e => L2.Same.free (H' := _) same e, fun P ps e => ?_⟩, fun p o e => ?_, fun p x y => ?_, fun p ps x => ?_, fun p ps x => ?_⟩
      · by_cases hp : P = d
        · rw [hp, upd_same] at e; cases e
        · rw [upd_ne hp] at e
          by_cases ha : P = a
          · rw [ha] at e
            unfold del at e
            simp at e
          · rw [del_ne ha, upd_ne ha, upd_ne hp, upd_ne ha] at e
            exact ⟨ps, e⟩
      · by_cases hp : p = d
        · subst hp
          rw [upd_same] at e ⊢
          exact e
        · rw [upd_ne hp] at e
          exact same p o (g1.s _ _ e)
      · by_cases hp : p = d
        · subst hp; exact hd1
        · rw [upd_ne hp] at x
          exact absurd y x
      · by_cases hp : p = d
        · subst hp; exact .inl hd1
        · rw [upd_ne hp] at x
          exact .inr (g1.s _ _ x)
      · by_cases hp : p = d
        · rw [hp, upd_same] at x; cases x
        · rwa [upd_ne hp] at x
    exact le _ ρ σ _ _ _ _ (hh.grow (g1.trans g2)) q3 ⟨C, hC, rfl, _, upd_same, (freps_zip fs (r1.mono g2.f)).reverse⟩
theorem rfs_try {ms os : List String} {c : Value} {tb : WX → TS} {ts : TS} {b s : DS} (hms : ∀ m ∈ ms, ∀ C, cl.nm m = some C → PySem.W.exmOne K (.ref C) c = some true) (hos : ∀ m ∈ os, ∀ C, cl.nm m = some C → PySem.W.exmOne K (.ref C) c = some false)
    (hb : ∀ W : WX, RfS K cl W (tb W) b) (hs : RfS K cl (fun _ _ _ _ => False) ts s) : RfS K cl W (fun D σ H => tb (wOnly K c (fun _ _ _ => ts) W D) D σ H) (sTry ms os b s) where
  mono2 := fun E E' A B ρ hE l q => (hb W).mono2 _ _ A B ρ (fun e ρ' q => by
    have q : if e.cls ∈ ms then s noE A ρ' else e.cls ∈ os ∧ E e ρ' := q
    show if e.cls ∈ ms then s noE B ρ' else e.cls ∈ os ∧ E' e ρ'
    split
    · rename_i h
      rw [if_pos h] at q
      exact hs.mono noE A B ρ' l q
    · rename_i h
      rw [if_neg h] at q
      exact ⟨q.1, hE _ _ q.2⟩) l q
  ok := fun F0 H0 F H σ ρ E B A hh le ld q => by
    refine (hb _).ok F0 H0 F H σ ρ _ B A hh (fun err ρ' σ' F' H' v dx h' q re => ?_) ld q
    have q : if err.cls ∈ ms then s noE B ρ' else err.cls ∈ os ∧ E err ρ' := q
    obtain ⟨C, n, rfl, _⟩ := id re
    by_cases hm : err.cls ∈ ms
    · rw [if_pos hm] at q
      exact ⟨true, hms _ hm C n, fun _ a ha => hs.ok F0 H0 F' H' σ' ρ' noE B A h' (fun _ _ _ _ _ _ _ _ z _ => z.elim) ld q, fun z => by cases z⟩
    · rw [if_neg hm] at q
      exact ⟨false, hos _ q.1 C n, (fun z => by cases z), fun _ => le _ ρ' σ' F' H' _ dx h' q.2 re⟩
theorem rfs_tryR {m : String} {os : List String} {i : Nat} {f : Str} {C : Addr} {tb : WX → TS} {b : DS} (hC : cl.nm m = some C) (hms : PySem.W.exmOne K (.ref C) (.ref C) = some true) (hos : ∀ m ∈ os, ∀ D, cl.nm m = some D → PySem.W.exmOne K (.ref D) (.ref C) = some false) (hf : cl.fr = false)
    (hb : ∀ W : WX, RfS K cl W (tb W) b) : RfS K cl W (fun D σ H => tb (wAs K (.ref C) i (fun a v d => tRet (tXf a v d C f (tVar i))) W D) D σ H) (sTryR m os i f b) where
  mono2 := fun E E' A B ρ hE l q => (hb W).mono2 _ _ A B ρ (fun e ρ' q => by
    have q : if e.cls = m then i < ρ'.length ∧ (match e.fs.lookup f with | some d => A.rt d | none => False) else e.cls ∈ os ∧ E e ρ' := q
    show if e.cls = m then i < ρ'.length ∧ (match e.fs.lookup f with | some d => B.rt d | none => False) else e.cls ∈ os ∧ E' e ρ'
    split
    · rename_i h
      rw [if_pos h] at q
      refine ⟨q.1, ?_⟩
      have q := q.2
      cases z : e.fs.lookup f with
      | none => rw [z] at q; exact q
      | some d => rw [z] at q; exact l.rt d q
    · rename_i h
      rw [if_neg h] at q
      exact ⟨q.1, hE _ _ q.2⟩) l q
  ok := fun F0 H0 F H σ ρ E B A hh le ld q => by
    refine (hb _).ok F0 H0 F H σ ρ _ B A hh (fun err ρ' σ' F' H' v dx h' q re => ?_) ld q
    have q : if err.cls = m then i < ρ'.length ∧ (match err.fs.lookup f with | some d => B.rt d | none => False) else err.cls ∈ os ∧ E err ρ' := q
    obtain ⟨C', n, rfl, hx⟩ := id re
    by_cases hm : err.cls = m
    · rw [if_pos hm] at q
      obtain ⟨qi, q⟩ := q
      rw [hm, hC] at n
      cases n
      refine ⟨true, hms, fun _ a ha => ⟨.ref a, List.getElem?_set_self (by rw [h'.len]; exact qi), rfl, rfl, ?_⟩, fun z => by cases z⟩
      cases dx with
      | none =>
        have hx : err.fs = [] := hx
        rw [hx] at q
        exact q.elim
      | some d =>
        obtain ⟨ws, hx1, hx2⟩ := hx
        rcases hx2.look f with ⟨z, _⟩ | ⟨v, y, z1, z2, z3⟩
        · rw [z] at q; exact q.elim
        · rw [z1] at q
          exact ⟨d, ws, v, rfl, h'.g.s _ _ hx1, z2, ld.rt F' H' v y h'.g (fun _ => z3) (fun z => by rw [hf] at z; cases z) q⟩
    · rw [if_neg hm] at q
      exact ⟨false, hos _ q.1 C' n, (fun z => by cases z), fun _ => le _ ρ' σ' F' H' _ dx h' q.2 re⟩
end
section
variable {X : Cx} {K : Fg} {cl : Cl} {W : WX}
theorem vs_raise {c : String} {C fI : Addr} {fs : List Str} {k : Nat} {fd : FuncData} {ps : List Str} {x : Str} {e : Expr} {es : List Expr} {p cp pos : Pos} {t : TA} {q : DA} (T : OexC X.K C) (iC : PySem.W.findIn X.K (.ref C) "__init__" = some (some (.ref fI))) (tI : PySem.W.typeIn X.K (.ref fI) = some (.type "function"))
    (F1 : FnOk X.prog X.w X.K X.mg X.base (L2.CX X.prog X.w) k fI fd ps (spI X.K C fs)) (hr : Room (k + 1) X.A) (hb : Binds X.K fd ps []) (hg : Gl X x) (hm : X.mg x = some (.ref C)) (hC : cl.nm c = some C) (tk : Takes X W) (hc : X.calm = true) (ha : VA X K cl W (e :: es) t q)
    (hl : fs.length ≤ 900 := by decide) (hdb : (x == ("__debug__" : Str)) = false := by decide) (he : starEach (e :: es) X.env = (false, eval e X.env) :: starEach es X.env := by rfl) (hpl : (backTo cp (starEach es X.env)).any (·.1) = false := by rfl) :
    VS X K cl W (.Raise (some (.Call (.Name x p) (e :: es) [] cp)) none pos) (fun _ σ H => tMkO C (spI K C fs) [] t σ H fun v d H' => W v d σ H') (sRaise c fs q) := by
  obtain rfl := ha.hK
  exact ⟨ps_raise hc tk (pmk_oex T iC tI F1 hr hb .nil pass_no hg hm ha.pe hdb he hpl), rfs_raise hC hl ha.rf, rfl⟩
/-- some wish takes what W says -/
theorem any_takes {X : Cx} (hs : X.stack = X.env :: X.outer) (hf : X.env.frame = some X.env.locals) (W : WX) : ∃ (pn : List (Addr × Obj)) (xe : Value → Shared → Prop), Takes (X.tr pn xe) W ∧ PassesOwn (model X.prog X.w) X.A X.env xe := by
  refine ⟨[], fun e s₁ => wpAny (model X.prog X.w) X.A (noteFrame e X.env) (fun _ s₂ => wpAny (model X.prog X.w) X.A (setFlight e none) (fun _ _ => True) (fun _ _ => True) s₂) (fun _ _ => True) s₁, fun u s' xx => ?_, PassesOwn.looking (K := (fun e s₂ => wpAny (model X.prog X.w) X.A (setFlight e none) (fun _ _ => True) (fun _ _ => True) s₂)) (E₁ := fun _ _ => True)⟩
  obtain ⟨a, B, sI, pins', σ', H', cls, d, rfl, J', nb, up, sky, na, os, ag, w⟩ := xx
  have hfr : X.A.frames = some (X.env :: X.outer) := by
    have := J'.ok.frames
    rw [← hs]
    exact this
  have sky' : Sky B (X.env :: X.outer) a (Zc cls d) X.env.locals s'.heap := by rw [← hs]; exact sky
  show wpAny (model X.prog X.w) X.A (noteFrame (.ref a) X.env) (fun _ s₂ => wpAny (model X.prog X.w) X.A (setFlight (.ref a) none) (fun _ _ => True) (fun _ _ => True) s₂) (fun _ _ => True) s'
  exact Sky.land (Q := fun _ _ => True) Zc.steady hfr hf sky' fun h3 fl3 up3 => True.intro
theorem vs_try {ms os : List String} {x : Str} {c : Value} {body suite : List Stmt} {b₀ : Stmt} {np pos pos' : Pos} {tb : WX → TS} {ts : TS} {b s : DS} (hs : X.stack = X.env :: X.outer) (hf : X.env.frame = some X.env.locals) (hc : Names X x c) (tk : Takes X W)
    (hms : ∀ m ∈ ms, ∀ C, cl.nm m = some C → PySem.W.exmOne K (.ref C) c = some true) (hos : ∀ m ∈ os, ∀ C, cl.nm m = some C → PySem.W.exmOne K (.ref C) c = some false)
    (hb : ∀ (W : WX) (pn : List (Addr × Obj)) (xe : Value → Shared → Prop), Takes (X.tr pn xe) W → PassesOwn (model X.prog X.w) X.A X.env xe → VSs (X.tr pn xe) K cl W body (tb W) b)
    (hsu : ∀ (a : Addr) (oe : Obj) (pn : List (Addr × Obj)), VSs (X.suite a ((a, oe) :: pn)) K cl (fun _ _ _ _ => False) (b₀ :: suite) ts s) (hK : X.K = K := by rfl) :
    VS X K cl W (.Try body [.ExceptHandler (some (.Name x np)) none (b₀ :: suite) pos'] [] [] pos) (fun D σ H => tb (wOnly K c (fun _ _ _ => ts) W D) D σ H) (sTry ms os b s) := by
  obtain rfl := hK
  exact ⟨ps_try_only hs hf hc tk (fun W pn xe t p => (hb W pn xe t p).pe) (fun a oe v d pn _ _ => (hsu a oe pn).pe), rfs_try hms hos (fun W => (any_takes hs hf W).elim fun pn z => z.elim fun xe z => (hb W pn xe z.1 z.2).rf) (hsu 0 ⟨.none, none, .cell none, #[]⟩ []).rf, rfl⟩
theorem vs_tryR {m : String} {os : List String} {i : Nat} {f n x : Str} {C : Addr} {body : List Stmt} {np np2 pa pr pos pos' : Pos} {tb : WX → TS} {b : DS} (hs : X.stack = X.env :: X.outer) (hf : X.env.frame = some X.env.locals) (hN : X.N.Nodup) (hi : X.N[i]? = some n) (hln : X.env.kindOf n = some .local) (hc : Names X x (.ref C)) (tk : Takes X W)
    (hC : cl.nm m = some C) (T : XfC K C) (hno : PySem.W.findIn K (.ref C) f = some none) (hms : PySem.W.exmOne K (.ref C) (.ref C) = some true) (hos : ∀ m ∈ os, ∀ D, cl.nm m = some D → PySem.W.exmOne K (.ref D) (.ref C) = some false) (hfr : cl.fr = false)
    (hb : ∀ (W : WX) (pn : List (Addr × Obj)) (xe : Value → Shared → Prop), Takes (X.tr pn xe) W → PassesOwn (model X.prog X.w) X.A X.env xe → VSs (X.tr pn xe) K cl W body (tb W) b)
    (hdb : (n == ("__debug__" : Str)) = false := by decide) (hcd : (n == ("__classdict__" : Str)) = false := by decide) (hab : attributeBase (.Name n np2) f X.env (eval (.Name n np2) X.env) = eval (.Name n np2) X.env := by rfl) (hK : X.K = K := by rfl) :
    VS X K cl W (.Try body [.ExceptHandler (some (.Name x np)) (some n) [.Return (some (.Attribute (.Name n np2) f pa)) pr] pos'] [] [] pos) (fun D σ H => tb (wAs K (.ref C) i (fun a v d => tRet (tXf a v d C f (tVar i))) W D) D σ H) (sTryR m os i f b) := by
  obtain rfl := hK
  exact ⟨ps_try_as hs hf hN hi hln hc tk (fun W pn xe t p => (hb W pn xe t p).pe) (fun a oe v d pn hz hv => pss_one (ps_ret (pe_xf T hno hz hv (pe_var hi (.inl hln) hdb hcd) hab))), rfs_tryR hC hms hos hfr (fun W => (any_takes hs hf W).elim fun pn z => z.elim fun xe z => (hb W pn xe z.1 z.2).rf), rfl⟩
end
/-- whether an except clause takes it -/
theorem exm_mk {K : Fg} {cls : Value} {C : Addr} {b : Bool} (h1 : PySem.W.subIn K (.ref C) (.type "BaseException") = some true) (h2 : PySem.W.isClsIn K C = true) (h3 : PySem.W.typeIn K (.ref C) = some (.type "type")) (h4 : PySem.W.subIn K cls (.ref C) = some b) : PySem.W.exmOne K cls (.ref C) = some b := by
  unfold PySem.W.exmOne PySem.W.kitCls
  unfold PySem.W.isClsIn at h2
  simp only [h1, h2, h3, h4, beq_self_eq_true, Bool.and_self, if_true]
section
variable {P : Program} {w : World} {K : Fg} {mg : Str → Option Value} {base : Heap} {qual : Str} {sc : Scope} {fa cc C cda : Addr}
theorem int_text_len {a : Int} (h : a.natAbs.log2 < 1920) : (Str.ofString (toString a)).length ≤ 1921 := by
  have := PySem.int_text_length_le (a := a) (k := 1920) (by decide) h
  rw [PySem.ofString_length]
  exact this
/-- a text's or a number's part of an f-string -/
theorem js_str {x : Str} {ts : List TE} {acc : Str} {σ : L2.St} {H : Hp} {Q : Str → Hp → Prop} {n m : Nat} (ha : acc.length ≤ n) (hx : x.length ≤ m) (hn : n + m ≤ 16777216) (q : ∀ acc' : Str, acc'.length ≤ n + m → tJs ts acc' σ H Q) : tJs (tC (.str x) :: ts) acc σ H Q :=
  have e : (acc ++ x).length ≤ n + m := by rw [PySem.strLen_append]; omega
  ⟨x, rfl, by rw [sizeLine_eq]; omega, q _ e⟩
theorem js_fmtR {u : V} {i : Nat} {ts : List TE} {acc : Str} {σ : L2.St} {H : Hp} {Q : Str → Hp → Prop} {n : Nat} (hu : okArg u) (hi : σ[i]? = some (some u)) (ha : acc.length ≤ n) (hn : n + 100000 ≤ 16777216) (q : ∀ acc' : Str, acc'.length ≤ n + 100000 → tJs ts acc' σ H Q) : tJs (tFmtR (tVar i) :: ts) acc σ H Q := by
  refine ⟨u, hi, ?_⟩
  cases u with
  | str x =>
    have hx : x.length ≤ 1000 ∧ (PySem.reprText x).length ≤ 100000 := hu
    have e : (acc ++ PySem.reprText x).length ≤ n + 100000 := by rw [PySem.strLen_append]; omega
    exact .inl ⟨x, rfl, by rw [sizeLine_eq]; omega, _, rfl, by rw [sizeLine_eq]; omega, q _ e⟩
  | int j =>
    have hj : j.natAbs.log2 < 1920 := hu
    have l := int_text_len hj
    have e : (acc ++ (toString j : Str)).length ≤ n + 100000 := by rw [PySem.strLen_append]; omega
    exact .inr ⟨j, rfl, hj, _, rfl, by rw [sizeLine_eq]; omega, q _ e⟩
  | _ => exact hu.elim
theorem js_fmt {u : V} {i : Nat} {ts : List TE} {acc : Str} {σ : L2.St} {H : Hp} {Q : Str → Hp → Prop} {n : Nat} (hu : okArg u) (hi : σ[i]? = some (some u)) (ha : acc.length ≤ n) (hn : n + 100000 ≤ 16777216) (q : ∀ acc' : Str, acc'.length ≤ n + 100000 → tJs ts acc' σ H Q) : tJs (tFmt (tVar i) :: ts) acc σ H Q := by
  refine ⟨u, hi, ?_⟩
  cases u with
  | str x =>
    have hx : x.length ≤ 1000 ∧ (PySem.reprText x).length ≤ 100000 := hu
    have e : (acc ++ x).length ≤ n + 100000 := by rw [PySem.strLen_append]; omega
    exact .inl ⟨x, rfl, by rw [sizeLine_eq]; omega, _, rfl, by rw [sizeLine_eq]; omega, q _ e⟩
  | int j =>
    have hj : j.natAbs.log2 < 1920 := hu
    have l := int_text_len hj
    have e : (acc ++ (toString j : Str)).length ≤ n + 100000 := by rw [PySem.strLen_append]; omega
    exact .inr ⟨j, rfl, hj, _, rfl, by rw [sizeLine_eq]; omega, q _ e⟩
  | _ => exact hu.elim
theorem err1R {name : Str} {params : Arguments} {kV doc pm ct : Value} {an : Option Addr} {ar : Arg} {x pre : Str} {j0 : Nat} {p0 p1 p2 p3 p4 q4 q0a q0b q0c r0a r0b r0c r0d : Pos} {k : Nat} {pl : Addr → Sem Bool}
    (S : IScope ["self", x] sc) (T : ErrC P K C cc cda fa (PySem.W.ksFn name qual params (.Expr (.Call (.Attribute (.Call (.Name "super" p0) [] [] p1) "__init__" p2) [.JoinedStr [.Constant (.str pre) j0 q0a, .FormattedValue (.Name x q0b) 114 none q0c] q4] [] p3) p4 :: [.Assign [.Attribute (.Name "self" r0a) x r0b] (.Name x r0c) r0d]) sc .none kV doc pm an (.ref cda) ct cc)) (hcd : PySem.W.codeIn K (.ref cda) qual = true) (hpar : (params.posonlyargs ++ params.args).head? = some ar) (har : ar.arg = ("self" : Str)) (hm : mg ("super" : Str) = none) (hno0 : PySem.W.findIn K (.ref C) x = some none) (hp0 : pre.length ≤ 1000) (hd0 : (x == ("__debug__" : Str)) = false) (hc0 : (x == ("__classdict__" : Str)) = false) (heval : ∀ L : Addr, eval (.Call (.Attribute (.Call (.Name "super" p0) [] [] p1) "__init__" p2) [.JoinedStr [.Constant (.str pre) j0 q0a, .FormattedValue (.Name x q0b) 114 none q0c] q4] [] p3) (PySem.W.ksEnv qual sc L fa (.ref cda) cc) = (do
      let ov ← attributeBase (.Call (.Name "super" p0) [] [] p1) "__init__" (PySem.W.ksEnv qual sc L fa (.ref cda) cc) (eval (.Call (.Name "super" p0) [] [] p1) (PySem.W.ksEnv qual sc L fa (.ref cda) cc))
      standAt p2.atName
      let (g, first) ← holding [ov] (getMethod ov "__init__" (pl L))
      callWith p3 g first (backTo p3 (starEach [.JoinedStr [.Constant (.str pre) j0 q0a, .FormattedValue (.Name x q0b) 114 none q0c] q4] (PySem.W.ksEnv qual sc L fa (.ref cda) cc))) []) := by intro _; rfl) :
    FnOk P w K mg base (L2.CX P w) (k + 1) fa (PySem.W.ksFn name qual params (.Expr (.Call (.Attribute (.Call (.Name "super" p0) [] [] p1) "__init__" p2) [.JoinedStr [.Constant (.str pre) j0 q0a, .FormattedValue (.Name x q0b) 114 none q0c] q4] [] p3) p4 :: [.Assign [.Attribute (.Name "self" r0a) x r0b] (.Name x r0c) r0d]) sc .none kV doc pm an (.ref cda) ct cc) ["self", x] (spI K C [x]) := by
  refine init_ok S T hcd hpar (by rw [har]; rfl) hm rfl (fun A outer s H E a us D hl hok ha q => ?_) (heval := heval) (hint := fun L => by show (sc.kind == .module && _) = false; rw [S.kind]; rfl)
  obtain ⟨u, rfl⟩ := List.length_eq_one_iff.mp hl
  refine ⟨_, _, pe_joined (.cons pe_str (.cons (pe_fmtR (pe_var (i := 1) rfl (.inl (S.par _ (by simp))) hd0 hc0)) .nil)), (pss_one (ps_ost (pe_var (i := 0) rfl (.inl (S.par _ (by simp))) (by decide) (by decide)) (pe_var (i := 1) rfl (.inl (S.par _ (by simp))) hd0 hc0))), ?_⟩
  exact js_str (n := 0) (m := 1000) (Nat.le_refl _) hp0 (by omega) fun a1 h1 => js_fmtR (hok u (by simp)) rfl h1 (by omega) fun a2 h2 => ⟨ha, ost_1 T.oex hno0 ha q⟩
theorem err1N {name : Str} {params : Arguments} {kV doc pm ct : Value} {an : Option Addr} {ar : Arg} {x pre : Str} {j0 : Nat} {p0 p1 p2 p3 p4 q4 q0a q0b q0c r0a r0b r0c r0d : Pos} {k : Nat} {pl : Addr → Sem Bool}
    (S : IScope ["self", x] sc) (T : ErrC P K C cc cda fa (PySem.W.ksFn name qual params (.Expr (.Call (.Attribute (.Call (.Name "super" p0) [] [] p1) "__init__" p2) [.JoinedStr [.Constant (.str pre) j0 q0a, .FormattedValue (.Name x q0b) (-1) none q0c] q4] [] p3) p4 :: [.Assign [.Attribute (.Name "self" r0a) x r0b] (.Name x r0c) r0d]) sc .none kV doc pm an (.ref cda) ct cc)) (hcd : PySem.W.codeIn K (.ref cda) qual = true) (hpar : (params.posonlyargs ++ params.args).head? = some ar) (har : ar.arg = ("self" : Str)) (hm : mg ("super" : Str) = none) (hno0 : PySem.W.findIn K (.ref C) x = some none) (hp0 : pre.length ≤ 1000) (hd0 : (x == ("__debug__" : Str)) = false) (hc0 : (x == ("__classdict__" : Str)) = false) (heval : ∀ L : Addr, eval (.Call (.Attribute (.Call (.Name "super" p0) [] [] p1) "__init__" p2) [.JoinedStr [.Constant (.str pre) j0 q0a, .FormattedValue (.Name x q0b) (-1) none q0c] q4] [] p3) (PySem.W.ksEnv qual sc L fa (.ref cda) cc) = (do
      let ov ← attributeBase (.Call (.Name "super" p0) [] [] p1) "__init__" (PySem.W.ksEnv qual sc L fa (.ref cda) cc) (eval (.Call (.Name "super" p0) [] [] p1) (PySem.W.ksEnv qual sc L fa (.ref cda) cc))
      standAt p2.atName
      let (g, first) ← holding [ov] (getMethod ov "__init__" (pl L))
      callWith p3 g first (backTo p3 (starEach [.JoinedStr [.Constant (.str pre) j0 q0a, .FormattedValue (.Name x q0b) (-1) none q0c] q4] (PySem.W.ksEnv qual sc L fa (.ref cda) cc))) []) := by intro _; rfl) :
    FnOk P w K mg base (L2.CX P w) (k + 1) fa (PySem.W.ksFn name qual params (.Expr (.Call (.Attribute (.Call (.Name "super" p0) [] [] p1) "__init__" p2) [.JoinedStr [.Constant (.str pre) j0 q0a, .FormattedValue (.Name x q0b) (-1) none q0c] q4] [] p3) p4 :: [.Assign [.Attribute (.Name "self" r0a) x r0b] (.Name x r0c) r0d]) sc .none kV doc pm an (.ref cda) ct cc) ["self", x] (spI K C [x]) := by
  refine init_ok S T hcd hpar (by rw [har]; rfl) hm rfl (fun A outer s H E a us D hl hok ha q => ?_) (heval := heval) (hint := fun L => by show (sc.kind == .module && _) = false; rw [S.kind]; rfl)
  obtain ⟨u, rfl⟩ := List.length_eq_one_iff.mp hl
  refine ⟨_, _, pe_joined (.cons pe_str (.cons (pe_fmt (pe_var (i := 1) rfl (.inl (S.par _ (by simp))) hd0 hc0)) .nil)), (pss_one (ps_ost (pe_var (i := 0) rfl (.inl (S.par _ (by simp))) (by decide) (by decide)) (pe_var (i := 1) rfl (.inl (S.par _ (by simp))) hd0 hc0))), ?_⟩
  exact js_str (n := 0) (m := 1000) (Nat.le_refl _) hp0 (by omega) fun a1 h1 => js_fmt (hok u (by simp)) rfl h1 (by omega) fun a2 h2 => ⟨ha, ost_1 T.oex hno0 ha q⟩
theorem err2R {name : Str} {params : Arguments} {kV doc pm ct : Value} {an : Option Addr} {ar : Arg} {x y pre mid : Str} {j0 j1 : Nat} {p0 p1 p2 p3 p4 q4 q0a q0b q0c r0a r0b r0c r0d q1a q1b q1c r1a r1b r1c r1d : Pos} {k : Nat} {pl : Addr → Sem Bool}
    (S : IScope ["self", x, y] sc) (T : ErrC P K C cc cda fa (PySem.W.ksFn name qual params (.Expr (.Call (.Attribute (.Call (.Name "super" p0) [] [] p1) "__init__" p2) [.JoinedStr [.Constant (.str pre) j0 q0a, .FormattedValue (.Name x q0b) 114 none q0c, .Constant (.str mid) j1 q1a, .FormattedValue (.Name y q1b) 114 none q1c] q4] [] p3) p4 :: [.Assign [.Attribute (.Name "self" r0a) x r0b] (.Name x r0c) r0d, .Assign [.Attribute (.Name "self" r1a) y r1b] (.Name y r1c) r1d]) sc .none kV doc pm an (.ref cda) ct cc)) (hcd : PySem.W.codeIn K (.ref cda) qual = true) (hpar : (params.posonlyargs ++ params.args).head? = some ar) (har : ar.arg = ("self" : Str)) (hm : mg ("super" : Str) = none) (hno0 : PySem.W.findIn K (.ref C) x = some none) (hp0 : pre.length ≤ 1000) (hd0 : (x == ("__debug__" : Str)) = false) (hc0 : (x == ("__classdict__" : Str)) = false) (hno1 : PySem.W.findIn K (.ref C) y = some none) (hp1 : mid.length ≤ 1000) (hd1 : (y == ("__debug__" : Str)) = false) (hc1 : (y == ("__classdict__" : Str)) = false) (heval : ∀ L : Addr, eval (.Call (.Attribute (.Call (.Name "super" p0) [] [] p1) "__init__" p2) [.JoinedStr [.Constant (.str pre) j0 q0a, .FormattedValue (.Name x q0b) 114 none q0c, .Constant (.str mid) j1 q1a, .FormattedValue (.Name y q1b) 114 none q1c] q4] [] p3) (PySem.W.ksEnv qual sc L fa (.ref cda) cc) = (do
      let ov ← attributeBase (.Call (.Name "super" p0) [] [] p1) "__init__" (PySem.W.ksEnv qual sc L fa (.ref cda) cc) (eval (.Call (.Name "super" p0) [] [] p1) (PySem.W.ksEnv qual sc L fa (.ref cda) cc))
      standAt p2.atName
      let (g, first) ← holding [ov] (getMethod ov "__init__" (pl L))
      callWith p3 g first (backTo p3 (starEach [.JoinedStr [.Constant (.str pre) j0 q0a, .FormattedValue (.Name x q0b) 114 none q0c, .Constant (.str mid) j1 q1a, .FormattedValue (.Name y q1b) 114 none q1c] q4] (PySem.W.ksEnv qual sc L fa (.ref cda) cc))) []) := by intro _; rfl) :
    FnOk P w K mg base (L2.CX P w) (k + 1) fa (PySem.W.ksFn name qual params (.Expr (.Call (.Attribute (.Call (.Name "super" p0) [] [] p1) "__init__" p2) [.JoinedStr [.Constant (.str pre) j0 q0a, .FormattedValue (.Name x q0b) 114 none q0c, .Constant (.str mid) j1 q1a, .FormattedValue (.Name y q1b) 114 none q1c] q4] [] p3) p4 :: [.Assign [.Attribute (.Name "self" r0a) x r0b] (.Name x r0c) r0d, .Assign [.Attribute (.Name "self" r1a) y r1b] (.Name y r1c) r1d]) sc .none kV doc pm an (.ref cda) ct cc) ["self", x, y] (spI K C [x, y]) := by
  refine init_ok S T hcd hpar (by rw [har]; rfl) hm rfl (fun A outer s H E a us D hl hok ha q => ?_) (heval := heval) (hint := fun L => by show (sc.kind == .module && _) = false; rw [S.kind]; rfl)
  obtain ⟨u, v, rfl⟩ : ∃ u v, us = [u, v] := by
    match us, hl with
    | [u, v], _ => exact ⟨u, v, rfl⟩
  refine ⟨_, _, pe_joined (.cons pe_str (.cons (pe_fmtR (pe_var (i := 1) rfl (.inl (S.par _ (by simp))) hd0 hc0)) (.cons pe_str (.cons (pe_fmtR (pe_var (i := 2) rfl (.inl (S.par _ (by simp))) hd1 hc1)) .nil)))), (pss_cons (ps_ost (pe_var (i := 0) rfl (.inl (S.par _ (by simp))) (by decide) (by decide)) (pe_var (i := 1) rfl (.inl (S.par _ (by simp))) hd0 hc0)) (pss_one (ps_ost (pe_var (i := 0) rfl (.inl (S.par _ (by simp))) (by decide) (by decide)) (pe_var (i := 2) rfl (.inl (S.par _ (by simp))) hd1 hc1)))), ?_⟩
  exact js_str (n := 0) (m := 1000) (Nat.le_refl _) hp0 (by omega) fun a1 h1 => js_fmtR (hok u (by simp)) rfl h1 (by omega) fun a2 h2 => js_str (m := 1000) h2 hp1 (by omega) fun a3 h3 => js_fmtR (hok v (by simp)) rfl h3 (by omega) fun a4 h4 => ⟨ha, ost_2 T.oex hno0 hno1 ha q⟩
end
end DL

set_option maxHeartbeats 2000000
/-! DDict: an own dict's keys walked by a comprehension. -/
namespace DL
open PySem L2 PyProof.Rows
variable [TN]
section
variable {K : Fg} {cl : Cl} {W : WX}
/-- while the dict is locked -/
theorem rfn_lcK {i : Nat} {js vs : List Nat} {g : TG} {d : DG} {tt : TT} {t : DB} {te : TE} {e : DT} (hg : RfG K cl js g d) (hn : NoO d) (hjs : ∀ j ∈ js, j ∈ vs)
    (ht : RfB K cl (fun _ _ _ _ => False) tt t) (he : RfE K cl (fun _ _ _ _ => False) te e) : RfN K cl W (tLockE (tLc (iKeys (tVar i)) g tt te vs)) (dLc (iKeyO i) d t e vs) where
  mono2 := fun E E' ρ P P' hE h q => by
    have go : ∀ (xs : List D) (ρ : DL.Env) (acc : List D) (Q Q' : List D → Prop), (∀ r, Q r → Q' r) → lcL d t e ρ xs acc Q → lcL d t e ρ xs acc Q' := by
      intro xs
      induction xs with
      | nil => intro ρ acc Q Q' hQ q; exact hQ _ q
      | cons x r ih =>
        intro ρ acc Q Q' hQ q
        refine hg.mono x ρ _ _ (fun ρ' q => ht.mono noE ρ' _ _ (fun k q => ?_) q) q
        cases k with
        | true => exact he.mono noE ρ' _ _ (fun y q => ⟨q.1, ih ρ _ Q Q' hQ q.2⟩) q
        | false => exact ih ρ _ Q Q' hQ q
    have q : iKeyO i E ρ fun xs => lcL d t e (noOwn (wipeE ρ vs)) xs [] fun r => P (.lst r) := q
    show iKeyO i E' ρ fun xs => lcL d t e (noOwn (wipeE ρ vs)) xs [] fun r => P' (.lst r)
    unfold iKeyO at q ⊢
    cases ez : ρ[i]? with
    | none => rw [ez] at q; exact q.elim
    | some s =>
      rw [ez] at q
      cases s with
      | no => exact q.elim
      | v d => exact q.elim
      | o d => cases d <;> first | exact go _ _ _ _ _ (fun r q => h _ q) q | exact q.elim
  ok := fun F0 H0 F H σ ρ E Q hh le q => by
    have q : iKeyO i E ρ fun xs => lcL d t e (noOwn (wipeE ρ vs)) xs [] fun r => ∀ p F' H', Gr F H F' H' → H p = none → F' p = none → Own K cl F' H' p (.lst r) → Q (.ref p) H' := q
    unfold iKeyO at q
    cases ez : ρ[i]? with
    | none => rw [ez] at q; exact q.elim
    | some s =>
      rw [ez] at q
      cases s with
      | no => exact q.elim
      | v d => exact q.elim
      | o dd =>
        cases dd with
        | dk kvs =>
          obtain ⟨a, ea, n0, nf, ws, ho, rr⟩ := hh.ownAt ez
          obtain ⟨rk, rk2⟩ := kreps_keys rr
          have lks : (kvs.map fun kv => keyD kv.1).length = kvs.length := List.length_map ..
          have lws : ws.length = kvs.length := by
            have := congrArg List.length rk2
            simpa using this
          have q : lcL d t e (noOwn (wipeE ρ vs)) (kvs.map fun kv => keyD kv.1) [] fun r => ∀ p F' H', Gr F H F' H' → H p = none → F' p = none → Own K cl F' H' p (.lst r) → Q (.ref p) H' := q
          revert rk lks q
          generalize (kvs.map fun kv => keyD kv.1) = ks
          intro rk lks q
          refine ⟨a, .dK ws, ho, trivial, fun od => ?_⟩
          have hlk : (upd H a (.frz od (.dK ws))) a = some (.frz od (.dK ws)) := upd_same
          refine ⟨.ref a, ea, a, od, rfl, .inl ⟨ws, hlk, ?_⟩⟩
          intro D0 hD0
          have hDa : D0 ≠ a := fun z => by rw [z, hlk] at hD0; cases hD0
          have hD : H D0 = none := by rwa [upd_ne hDa] at hD0
          -- locked
          have s1 : Same F (upd H a (.frz od (.dK ws))) := fun b u z => by
            rw [upd_ne (ne_of_none z nf)]
            exact hh.g.s b u z
          have h1 : Hold K cl F (upd H a (.frz od (.dK ws))) F (upd H a (.frz od (.dK ws))) (L2.wipe σ vs) (noOwn (wipeE ρ vs)) := by
            have hb := hh.wipe (vs := vs)
            obtain ⟨θ, hs, hd⟩ := hb.sl
            refine ⟨Gr.refl s1, hb.tb.put (.at ho), hb.len, θ, fun j s z => ?_, fun j k dj dk z _ => absurd z (noOwn_o j dj), fun j a d _ z => absurd z (noOwn_o j d)⟩
            have := hs j s z
            cases s with
            | no => trivial
            | v d => exact this
            | o d => exact absurd z (noOwn_o j d)
          have hF1 : F D0 = none := hh.g.s.free hD
          have leN : ∀ {A B : Hp}, LinkE K cl A B (fun _ _ _ _ => False) noE := fun {A B} err ρ σ F H c dx _ z _ => z.elim
          have fin : ∀ r F' H' D1, Gr F (upd H a (.frz od (.dK ws))) F' H' → (upd H a (.frz od (.dK ws))) D1 = none → F' D1 = none → Own K cl F' H' D1 (.lst r) → (∀ p F' H', Gr F H F' H' → H p = none → F' p = none → Own K cl F' H' p (.lst r) → Q (.ref p) H') →
              H' a = some (.frz od (.dK ws)) ∧ Q (.ref D1) (upd H' a (.dK ws)) := fun r F' H' D1 g hD1 hf w k => by
            have ea' := g.k.get hlk
            have nD : D1 ≠ a := fun z => by rw [z, hlk] at hD1; cases hD1
            have fa : F' a = none := g.keepNone hlk nf
            obtain ⟨us, hu, ru⟩ := w
            refine ⟨ea', k D1 F' _ ⟨g.f, ⟨fun b u z n => ?_, fun P hm C hC t => ?_, fun b z => ?_, fun P ps z => ?_⟩, fun b u z => ?_, fun p x y => ?_, fun p ps x => ?_, fun p ps x => g.v p ps x⟩ (by rwa [upd_ne nD] at hD1) hf ⟨us, by rw [upd_ne nD]; exact hu, ru⟩⟩
            · by_cases hb : b = a
              · subst hb
                rw [upd_same]
                rw [ho] at z
                exact z
              · rw [upd_ne hb]
                exact g.k.o b u (by rw [upd_ne hb]; exact z) n
            · have nP : P ≠ a := fun z => by
                obtain ⟨ps, e, _⟩ := t
                rw [z, ho] at e
                cases e
              refine (g.k.t P hm C (fun c h => hC c ?_) (t.of fun ps e => by rw [upd_ne nP]; exact e)).of fun ps e => by rw [upd_ne nP]; exact e
              rw [upd_ne (fun z => by rw [z, ea'] at h; unfold LamX.CodeO at h; cases h)]
              exact h
            · by_cases hb : b = a
              · rw [hb, upd_same] at z
                cases z
              · rw [upd_ne hb] at z
                have := g.k.f b z
                rwa [upd_ne hb] at this
            · by_cases hb : P = a
              · rw [hb, upd_same] at z
                cases z
              · rw [upd_ne hb] at z
                have := g.k.b P ps z
                rwa [upd_ne hb] at this
            · rw [upd_ne (ne_of_none z fa)]
              exact g.s b u z
            · have := g.n p x y
              by_cases hp : p = a
              · subst hp
                rw [hlk] at this
                cases this
              · rwa [upd_ne hp] at this
            · have := g.w p ps x
              by_cases hp : p = a
              · subst hp
                rw [fa] at x
                cases x
              · rwa [upd_ne hp] at this
          refine ⟨fun k m H2 => m = kvs.length - k ∧ k ≤ kvs.length ∧ ∃ F2 acc accd, Hold K cl F (upd H a (.frz od (.dK ws))) F2 H2 (L2.wipe σ vs) (noOwn (wipeE ρ vs)) ∧ F2 D0 = none ∧ H2 D0 = some (.lst acc) ∧ Reps K cl F2 acc accd ∧
            lcL d t e (noOwn (wipeE ρ vs)) (ks.drop k) accd (fun r => ∀ p F' H', Gr F H F' H' → H p = none → F' p = none → Own K cl F' H' p (.lst r) → Q (.ref p) H'),
            ⟨kvs.length, by simp, Nat.zero_le _, F, [], [], h1.list (fun i d => noOwn_o i d) hF1 hD0 (.free hD0), hF1, upd_same, .nil, q⟩, ?_⟩
          rintro k m H2 ⟨rfl, hk, F2, acc, accd, h2, hF2, hD2, ra, q2⟩
          have lk := h2.g.k.get hlk
          by_cases hlt : k < kvs.length
          · have hlt' : k < ks.length := by rw [lks]; exact hlt
            have ed : ks.drop k = ks[k] :: ks.drop (k + 1) := List.drop_eq_getElem_cons hlt'
            rw [ed] at q2
            refine .inr ⟨⟨lk, by omega⟩, fun H' => ∃ F3 acc accd, Hold K cl F (upd H a (.frz od (.dK ws))) F3 H' (L2.wipe σ vs) (noOwn (wipeE ρ vs)) ∧ F3 D0 = none ∧ H' D0 = some (.lst acc) ∧ Reps K cl F3 acc accd ∧
              lcL d t e (noOwn (wipeE ρ vs)) (ks.drop (k + 1)) accd (fun r => ∀ p F' H', Gr F H F' H' → H p = none → F' p = none → Own K cl F' H' p (.lst r) → Q (.ref p) H'), fun H' ⟨F', a', ad', x1, x2, x3, x4, x5⟩ => ⟨kvs.length - (k + 1), by omega, rfl, hlt, F', a', ad', x1, x2, x3, x4, x5⟩, ?_⟩
            rintro x H3 ⟨rfl, kk, vv, hkk, rfl⟩
            have rx : Rep K cl F2 (kV kk) ks[k] := by
              obtain ⟨v, e1, rv⟩ := rk.get (List.getElem?_eq_getElem hlt')
              rw [List.getElem?_map, hkk] at e1
              cases e1
              exact rv.mono h2.g.f
            have q2' := hn.k _ _ _ (fun i d => noOwn_o i d) q2
            refine hg.ok F _ F2 H3 _ _ (kV kk) _ _ h2 rx (hg.mono _ _ _ _ (fun ρ4 q4 σ4 h4 ag => ?_) q2')
            obtain ⟨no4, q4⟩ := q4
            refine ⟨(wipe_same ag hjs).trans ?_, ?_⟩
            · exact wipe_same (vs := vs) (js := vs) (σ := σ) (σ' := L2.wipe σ vs) ⟨wipe_length _ _, fun i hi => wipe_out hi⟩ (fun j hj => hj)
            refine ht.ok F _ F2 H3 σ4 ρ4 noE _ h4 leN (ht.mono noE ρ4 _ _ (fun kb q F4 H4 g4 => ?_) q4)
            have h4' := h2.grow g4
            have n4 : F4 D0 = none := g4.keepNone hD2 hF2
            have e4 : H4 D0 = some (.lst acc) := g4.k.get hD2
            cases kb with
            | false => exact ⟨F4, acc, accd, h4', n4, e4, ra.mono g4.f, q⟩
            | true =>
              refine he.ok F _ F4 H4 σ4 ρ4 noE _ (h4.grow g4) leN (he.mono noE ρ4 _ _ (fun y q v F5 H5 g5 r5 => ?_) q)
              have n5 : F5 D0 = none := g5.keepNone e4 n4
              have e5 : H5 D0 = some (.lst acc) := g5.k.get e4
              refine ⟨acc, e5, by rw [ra.length, ← line_eq]; exact q.1, F5, acc ++ [v], accd ++ [y], (h4'.grow g5).list (fun i d => noOwn_o i d) n5 hD0 (.at e5), n5, upd_same, ((ra.mono g4.f).mono g5.f).append (.cons r5 .nil), q.2⟩
          · have e : k = kvs.length := by omega
            subst e
            rw [List.drop_of_length_le (by rw [lks]; exact Nat.le_refl _)] at q2
            exact .inl ⟨⟨lk, by omega⟩, fin accd F2 H2 D0 h2.g hD0 hF2 ⟨acc, hD2, ra⟩ q2⟩
        | _ => exact q.elim
end
section
variable {X : Cx} {K : Fg} {cl : Cl} {W : WX} {pos : Pos}
theorem vn_lcK {i : Nat} {x : Str} {px : Pos} {js : List Nat} {elt tg : Expr} {ifs : List Expr} {scope : Scope} {own : List (Str × Nat)} {vs : List Nat} {g : TG} {d : DG} {tt : TT} {t : DB} {te : TE} {e : DT} (hc : X.calm = true) (hN : X.N.Nodup) (ok : BlkOk X.N X.env.scope scope own)
    (hg : ∀ (s : Shared) (H : Hp) (C : Addr) (l : List (Str × Addr)) (fp : List Addr), VT (X.blk s H scope (compEnvC scope l C X.env) fp) K cl js tg g d) (ht : ∀ (s : Shared) (H : Hp) (C : Addr) (l : List (Str × Addr)) (fp : List Addr), VP (X.blk s H scope (compEnvC scope l C X.env) fp) K cl WF ifs tt t)
    (he : ∀ (s : Shared) (H : Hp) (C : Addr) (l : List (Str × Addr)) (fp : List Addr), VE (X.blk s H scope (compEnvC scope l C X.env) fp) K cl WF elt te e) (hi : X.N[i]? = some x := by rfl) (hv : Vis X.env.scope x := by first | exact Or.inl rfl | exact Or.inr (Or.inl rfl) | exact Or.inr (Or.inr rfl)) (hdb : (x == ("__debug__" : Str)) = false := by decide)
    (hcd : (x == ("__classdict__" : Str)) = false := by decide) (hvs : own.map (·.2) = vs := by rfl) (hjs : ∀ j ∈ js, j ∈ own.map (·.2) := by decide) (hs : ∀ y, foldedSetIterable (.Name x px) X.env y = pure y := by intro _; rfl) (hK : X.K = K := by rfl) :
    VN X K cl W (.ListComp elt [⟨tg, .Name x px, ifs, 0⟩] scope pos) (tLockE (tLc (iKeys (tVar i)) g tt te vs)) (dLc (iKeyO i) d t e vs) := by
  obtain rfl := hK
  exact hvs ▸ ⟨pe_lock (pe_lc hc hN (pi_keys (pe_var hi hv hdb hcd)) ok (fun s H C l fp => (hg s H C l fp).pe) (fun s H C l fp => (ht s H C l fp).pe) (fun s H C l fp => (he s H C l fp).pe) hs),
    rfn_lcK (hg X.s_0 X.H_0 0 [] []).rf (hg X.s_0 X.H_0 0 [] []).no hjs (ht X.s_0 X.H_0 0 [] []).rf (he X.s_0 X.H_0 0 [] []).rf, rfl⟩
end
end DL

/-! DPar: defs that change the list, dict or instance that stands at one of their parameters. -/
namespace DL
open PySem L2 PyProof.Rows
variable [TN]
/-- H without what stands at l -/
def er (l : Addr) (H : Hp) : Hp := fun p => if p = l then none else H p
theorem er_self {l : Addr} {H : Hp} : er l H l = none := by unfold er; rw [if_pos rfl]
theorem er_ne {l p : Addr} {H : Hp} (h : p ≠ l) : er l H p = H p := by unfold er; rw [if_neg h]
theorem er_same {l : Addr} {H : Hp} : Same (er l H) H := fun p o e => by
  unfold er at e
  split at e
  · cases e
  · exact e
theorem gPair_mono {d : D} {P P' : D → D → Prop} (h : ∀ x y, P x y → P' x y) (q : gPair d P) : gPair d P' := by
  unfold gPair at q ⊢
  split at q
  · exact h _ _ q
  · exact q.elim
theorem gO_out {o : Option Sl} {Q : DK} (h : gO o Q) : ∃ d, o = some (.o d) ∧ Q d := by
  unfold gO at h
  split at h
  · exact ⟨_, rfl, h⟩
  · exact h.elim
theorem gO_in {o : Option Sl} {Q : DK} {d : D} (e : o = some (.o d)) (h : Q d) : gO o Q := by rw [e]; exact h
section
variable {K : Fg} {cl cl' : Cl} {W : WX}
/-- arguments: the thing at l stands at place j -/
structure RepsO (K : Fg) (cl : Cl) (F H : Hp) (l : Addr) (j : Nat) (vs : List V) (ds : List D) : Prop where
  len : vs.length = ds.length
  at_ : ∃ d, vs[j]? = some (.ref l) ∧ ds[j]? = some d ∧ Own K cl F H l d
  el : ∀ (i : Nat) v d, i ≠ j → vs[i]? = some v → ds[i]? = some d → Rep K cl F v d
theorem RepsO.mono {F H F' H' : Hp} {l : Addr} {j : Nat} {vs : List V} {ds : List D} (h : RepsO K cl F H l j vs ds) (f : Same F F') (k : ∀ o, H l = some o → (∀ ps, o ≠ .tbl ps) → H' l = some o) : RepsO K cl F' H' l j vs ds := by
  obtain ⟨d, a, b, w⟩ := h.at_
  exact ⟨h.len, ⟨d, a, b, w.mono f k⟩, fun i v d ne x y => (h.el i v d ne x y).mono f⟩
theorem RepsO.toCl {F H : Hp} {l : Addr} {j : Nat} {vs : List V} {ds : List D} (n : cl'.nm = cl.nm) (o : cl'.so = cl.so) (m : cl'.me = cl.me) (h : RepsO K cl F H l j vs ds) : RepsO K cl' F H l j vs ds := by
  obtain ⟨d, a, b, w⟩ := h.at_
  exact ⟨h.len, ⟨d, a, b, w.toCl n o m⟩, fun i v d ne x y => (h.el i v d ne x y).toCl n o⟩
structure RfAO (K : Fg) (cl : Cl) (W : WX) (j i : Nat) (te : TA) (t : DA) : Prop where
  mono2 : ∀ E E' ρ (P P' : List D → Prop), (∀ e ρ, E e ρ → E' e ρ) → (∀ d, P d → P' d) → t E ρ P → t E' ρ P'
  ok : ∀ F0 H0 F H σ ρ E (Q : List V → Hp → Prop), Hold K cl F0 H0 F H σ ρ → LinkE K cl F0 H0 W E →
    t E ρ (fun ds => ∀ vs F' H' l d, Gr F H F' H' → σ[i]? = some (some (.ref l)) → ρ[i]? = some (.o d) → F' l = none → RepsO K cl F' H' l j vs ds → Q vs H') → te σ H Q
theorem rfao_own {i : Nat} {tr : TA} {r : DA} (hr : RfA K cl W tr r) : RfAO K cl W 0 i (tCons (tVar i) tr) (aOwn i r) where
  mono2 := fun E E' ρ P P' hE h q => by
    obtain ⟨d, e, q⟩ := gO_out q
    exact gO_in e (hr.mono2 E E' ρ _ _ hE (fun xs q => h _ q) q)
  ok := fun F0 H0 F H σ ρ E Q hh le q => by
    obtain ⟨d, e, q⟩ := gO_out q
    obtain ⟨a, ea, _⟩ := hh.ownAt e
    refine ⟨.ref a, ea, ?_⟩
    refine hr.ok F0 H0 F H σ ρ E _ hh le (hr.mono E ρ _ _ (fun xs q vs F' H' g rr => ?_) q)
    obtain ⟨a', ea', n0, nf, w⟩ := (hh.grow g).ownAt e
    rw [ea] at ea'
    cases ea'
    refine q _ F' H' a d g ea e nf ⟨by simp [rr.length], ⟨d, rfl, rfl, w⟩, fun k v x ne e1 e2 => ?_⟩
    cases k with
    | zero => exact absurd rfl ne
    | succ k =>
      obtain ⟨v', e3, r3⟩ := rr.get (j := k) (by simpa using e2)
      have e1' : vs[k]? = some v := by simpa using e1
      rw [e1'] at e3
      cases e3
      exact r3
theorem rfao_cons {j i : Nat} {ta : TE} {a : DT} {tr : TA} {r : DA} (ha : RfE K cl W ta a) (hr : RfAO K cl W j i tr r) : RfAO K cl W (j + 1) i (tCons ta tr) (aCons a r) where
  mono2 := fun E E' ρ P P' hE h q => ha.mono2 E E' ρ _ _ hE (fun x q => hr.mono2 E E' ρ _ _ hE (fun y q => h _ q) q) q
  ok := fun F0 H0 F H σ ρ E Q hh le q => by
    refine ha.ok F0 H0 F H σ ρ E _ hh le (ha.mono E ρ _ _ (fun x q v F1 H1 g1 r1 => ?_) q)
    refine hr.ok F0 H0 F1 H1 σ ρ E _ (hh.grow g1) le (hr.mono2 E E ρ _ _ (fun _ _ z => z) (fun ds q vs F2 H2 l d g2 es e nf ro => ?_) q)
    refine q _ F2 H2 l d (g1.trans g2) es e nf ⟨by simp [ro.len], ?_, fun k v' x' ne e1 e2 => ?_⟩
    · obtain ⟨d', h1, h2, w⟩ := ro.at_
      exact ⟨d', by simpa using h1, by simpa using h2, w⟩
    · cases k with
      | zero =>
        have e1 : v = v' := by simpa using e1
        have e2 : x = x' := by simpa using e2
        subst e1
        subst e2
        exact r1.mono g2.f
      | succ k => exact ro.el k v' x' (by omega) (by simpa using e1) (by simpa using e2)
/-! ### the caller's slots -/
theorem Kp.er {H0 H1 H' : Hp} {l : Addr} (a : Kp H0 H1) (n0 : H0 l = none) (nt : NT H1 l) (b : Kp (DL.er l H1) H') : Kp H0 H' := by
  have ne : ∀ p u, H0 p = some u → p ≠ l := fun p u e => ne_of_none e n0
  refine ⟨fun p u e n => b.o p u (by rw [er_ne (ne p u e)]; exact a.o p u e n) n, fun P hm C hC t => ?_, fun p e => ?_, fun P ps e => ?_⟩
  · have t1 := a.t P hm C (fun c h => hC c (b.o c _ (by rw [er_ne (fun z => nt.c _ _ (by rw [← z]; exact h))]; exact h) LamX.codeO_ne)) t
    obtain ⟨ps, e, _⟩ := t
    exact b.t P hm C hC (t1.of fun ps' e' => by rw [er_ne (ne _ _ e)]; exact e')
  · by_cases hp : p = l
    · rw [hp]; exact n0
    · have := b.f p e
      rw [er_ne hp] at this
      exact a.f p this
  · obtain ⟨ps1, e1⟩ := b.b P ps e
    by_cases hp : P = l
    · rw [hp, er_self] at e1; cases e1
    · rw [er_ne hp] at e1
      exact a.b P ps1 e1
theorem TabF.er {cl : Cl} {F H : Hp} {l : Addr} (t : TabF cl F H) (nt : NT H l) : TabF cl F (DL.er l H) := fun p hp => by
  obtain ⟨⟨ps, h1, h2, h3⟩, b⟩ := t p hp
  refine ⟨⟨ps, by rw [er_ne (fun z => nt.t ps (by rw [← z]; exact h1))]; exact h1, h2, fun pos cv hc => ?_⟩, b⟩
  obtain ⟨c, e1, e2⟩ := h3 pos cv hc
  exact ⟨c, e1, by rw [er_ne (fun z => nt.c _ _ (by rw [← z]; exact e2))]; exact e2⟩
/-- a def has changed the own thing at l -/
theorem Gr.er {F0 H0 F1 H1 F' H' : Hp} {l : Addr} (a : Gr F0 H0 F1 H1) (n0 : H0 l = none) (nt : NT H1 l) (g : Gr F1 (DL.er l H1) F' H') : Gr F0 H0 F' H' := by
  refine ⟨a.f.trans g.f, a.k.er n0 nt g.k, g.s, fun p x b => ?_, fun p ps x => ?_, fun p ps x => a.v p ps (g.v p ps x)⟩
  · cases z : F1 p with
    | some o => exact a.n p (by rw [z]; simp) b
    | none =>
      have := g.n p x z
      by_cases hl : p = l
      · rw [hl]; exact n0
      · rw [er_ne hl] at this
        exact a.k.free this
  · cases z : F1 p with
    | some o =>
      have y := g.f _ _ z
      rw [x] at y
      cases y
      exact a.w p ps z
    | none =>
      have := g.n p (by rw [x]; simp) z
      by_cases hl : p = l
      · rw [hl]; exact .inl n0
      · rw [er_ne hl] at this
        exact .inl (a.k.free this)
theorem Hold.mutG {F0 H0 F1 H1 F' H' : Hp} {σ : L2.St} {ρ : DL.Env} {i : Nat} {l : Addr} {d d' : D} (h : Hold K cl F0 H0 F1 H1 σ ρ) (ea : σ[i]? = some (some (.ref l))) (e : ρ[i]? = some (.o d)) (g : Gr F1 (er l H1) F' H') (nf : F' l = none) (w : Own K cl F' H' l d') :
    Hold K cl F0 H0 F' H' σ (ρ.set i (.o d')) := by
  obtain ⟨θ, hs, hd, hp⟩ := h.sl
  obtain ⟨e1, n0, nf1, w0⟩ := hs i _ e
  have el : θ i = l := by
    rw [ea] at e1
    have : (some (V.ref l) : Option V) = some (V.ref (θ i)) := e1
    cases this
    rfl
  rw [el] at n0
  refine ⟨h.g.er n0 (el ▸ w0.nt) g, (h.tb.er (el ▸ w0.nt)).grow g, by simp [h.len], θ, fun j s q => ?_, fun j k dj dk q1 q2 q => ?_, fun j b dj q1 q2 => ?_⟩
  · by_cases hj : i = j
    · subst hj
      have hl : i < ρ.length := (List.getElem?_eq_some_iff.mp e).1
      rw [List.getElem?_set_self hl] at q
      cases q
      exact ⟨e1, by rw [el]; exact n0, by rw [el]; exact nf, by rw [el]; exact w⟩
    · rw [List.getElem?_set_ne hj] at q
      have r := hs j s q
      cases s with
      | no => trivial
      | v d2 => obtain ⟨v, z1, r⟩ := r; exact ⟨v, z1, r.mono g.f⟩
      | o d2 =>
        obtain ⟨z1, z0, zf, zw⟩ := r
        have hne : θ j ≠ l := fun z => hj (hd i j _ _ e q (by rw [el, z]))
        obtain ⟨ob, ho⟩ := zw.there
        have hk : ∀ o, H1 (θ j) = some o → (∀ ps, o ≠ .tbl ps) → H' (θ j) = some o := fun o z n => g.k.o _ _ (by rw [er_ne hne]; exact z) n
        refine ⟨z1, z0, ?_, zw.mono g.f hk⟩
        cases y : F' (θ j) with
        | none => rfl
        | some u =>
          have := g.n (θ j) (by rw [y]; simp) zf
          rw [er_ne hne, ho] at this
          cases this
  · have ne : ∀ {b db}, (ρ.set i (Sl.o d'))[b]? = some (Sl.o db) → ∃ dc, ρ[b]? = some (Sl.o dc) := fun {b db} q => by
      by_cases hb : i = b
      · subst hb
        exact ⟨d, e⟩
      · rw [List.getElem?_set_ne hb] at q
        exact ⟨db, q⟩
    obtain ⟨_, x1⟩ := ne q1
    obtain ⟨_, x2⟩ := ne q2
    exact hd j k _ _ x1 x2 q
  · by_cases hb : i = j
    · subst hb
      exact hp i b _ q1 e
    · rw [List.getElem?_set_ne hb] at q2
      exact hp j b _ q1 q2
theorem Hold.lose {F0 H0 F1 H1 F' H' : Hp} {σ : L2.St} {ρ : DL.Env} {i : Nat} {l : Addr} {d : D} (h : Hold K cl F0 H0 F1 H1 σ ρ) (ea : σ[i]? = some (some (.ref l))) (e : ρ[i]? = some (.o d)) (g : Gr F1 (er l H1) F' H') :
    Hold K cl F0 H0 F' H' σ (ρ.set i .no) := by
  obtain ⟨θ, hs, hd, hp⟩ := h.sl
  obtain ⟨e1, n0, nf1, w0⟩ := hs i _ e
  have el : θ i = l := by
    rw [ea] at e1
    have : (some (V.ref l) : Option V) = some (V.ref (θ i)) := e1
    cases this
    rfl
  rw [el] at n0
  have ne : ∀ {b db}, (ρ.set i Sl.no)[b]? = some (Sl.o db) → i ≠ b ∧ ρ[b]? = some (Sl.o db) := fun {b db} q => by
    by_cases hb : i = b
    · subst hb
      have hl : i < ρ.length := (List.getElem?_eq_some_iff.mp e).1
      rw [List.getElem?_set_self hl] at q
      cases q
    · rw [List.getElem?_set_ne hb] at q
      exact ⟨hb, q⟩
  refine ⟨h.g.er n0 (el ▸ w0.nt) g, (h.tb.er (el ▸ w0.nt)).grow g, by simp [h.len], θ, fun j s q => ?_, fun j k dj dk q1 q2 q => hd j k _ _ (ne q1).2 (ne q2).2 q, fun j b dj q1 q2 => hp j b _ q1 (ne q2).2⟩
  · by_cases hj : i = j
    · subst hj
      have hl : i < ρ.length := (List.getElem?_eq_some_iff.mp e).1
      rw [List.getElem?_set_self hl] at q
      cases q
      trivial
    · rw [List.getElem?_set_ne hj] at q
      have r := hs j s q
      cases s with
      | no => trivial
      | v d2 => obtain ⟨v, z1, r⟩ := r; exact ⟨v, z1, r.mono g.f⟩
      | o d2 =>
        obtain ⟨z1, z0, zf, zw⟩ := r
        have hne : θ j ≠ l := fun z => hj (hd i j _ _ e q (by rw [el, z]))
        obtain ⟨ob, ho⟩ := zw.there
        have hk : ∀ o, H1 (θ j) = some o → (∀ ps, o ≠ .tbl ps) → H' (θ j) = some o := fun o z n => g.k.o _ _ (by rw [er_ne hne]; exact z) n
        refine ⟨z1, z0, ?_, zw.mono g.f hk⟩
        cases y : F' (θ j) with
        | none => rfl
        | some u =>
          have := g.n (θ j) (by rw [y]; simp) zf
          rw [er_ne hne, ho] at this
          cases this
/-- the promise -/
def spX (K : Fg) (cl : Cl) (j : Nat) (Wf : DF) : Sp := fun vs H Q E => ∃ F ds Q' E' l, Same F H ∧ F l = none ∧ RepsO K cl F H l j vs ds ∧ Wf ds Q' E' ∧
  (∀ r, Q' r → gPair r fun d o => ∀ v F' H', Gr F (er l H) F' H' → F' l = none → Own K cl F' H' l o → Rep K cl F' v d → Q v H') ∧ ∀ err, E' err → ∀ c dx F' H', Gr F (er l H) F' H' → RepErr K cl F' c dx err → E c dx H'
theorem rfs_callX {j i : Nat} {Wf : DF} {ta : TA} {t : DA} (ha : RfAO K cl W j i ta t) : RfS K cl W (tDrop (tCallSD (spX K cl j Wf) [] (fun σ => WE W σ) ta)) (sCallX i Wf t) where
  mono2 := fun E E' A B ρ hE l q => ha.mono2 E E' ρ _ _ hE (fun xs q => q.mono (fun d z => gPair_mono (fun _ _ z => l.nx _ z) z) fun e z => hE e _ z) q
  ok := fun F0 H0 F H σ ρ E B A hh le ld q => by
    refine ha.ok F0 H0 F H σ ρ E _ hh le (ha.mono2 E E ρ _ _ (fun _ _ z => z) (fun xs q vs F1 H1 l d g1 ea e nf ro => ?_) q)
    obtain ⟨Q', E', q, a, b⟩ := q
    have h1 := hh.grow g1
    exact ⟨F1, xs, Q', E', l, g1.s, nf, by rw [List.append_nil]; exact ro, q, fun r z => gPair_mono (fun d o y v F' H' g nf' w rv => ld.nx _ _ _ _ (h1.mutG ea e g nf' w) y) (a r z),
      fun err z c dx F' H' g re => le err _ σ F' H' c dx (h1.lose ea e g) (b err z) re⟩
theorem rfs_callXTo {j i k : Nat} {Wf : DF} {ta : TA} {t : DA} (ha : RfAO K cl W j i ta t) : RfS K cl W (tAsg (tCallSD (spX K cl j Wf) [] (fun σ => WE W σ) ta) (L2.gName k)) (sCallXTo i k Wf t) where
  mono2 := fun E E' A B ρ hE l q => ha.mono2 E E' ρ _ _ hE (fun xs q => q.mono (fun d z => gPair_mono (fun _ _ z => l.nx _ z) z) fun e z => hE e _ z) q
  ok := fun F0 H0 F H σ ρ E B A hh le ld q => by
    refine ha.ok F0 H0 F H σ ρ E _ hh le (ha.mono2 E E ρ _ _ (fun _ _ z => z) (fun xs q vs F1 H1 l d g1 ea e nf ro => ?_) q)
    obtain ⟨Q', E', q, a, b⟩ := q
    have h1 := hh.grow g1
    exact ⟨F1, xs, Q', E', l, g1.s, nf, by rw [List.append_nil]; exact ro, q, fun r z => gPair_mono (fun d o y v F' H' g nf' w rv => ld.nx _ _ _ _ ((h1.mutG ea e g nf' w).set rv) y) (a r z),
      fun err z c dx F' H' g re => le err _ σ F' H' c dx (h1.lose ea e g) (b err z) re⟩
theorem rfs_retX {te : TE} {t : DT} (ha : RfE K cl W te t) : RfS K cl W (tRet te) (sRetX t) where
  mono2 := fun E E' A B ρ hE l q => ha.mono2 E E' ρ _ _ hE (fun _ q => l.ro _ _ q) q
  ok := fun F0 H0 F H σ ρ E B A hh le ld q => ha.ok F0 H0 F H σ ρ E _ hh le (ha.mono E ρ _ _ (fun x q v F1 H1 g1 r1 => ld.ro _ _ _ _ _ _ (hh.grow g1) r1 q) q)
theorem rfs_retNX : RfS K cl W tRetN sRetNX where
  mono2 := fun E E' A B ρ hE l q => l.ro _ _ q
  ok := fun F0 H0 F H σ ρ E B A hh le ld q => ld.ro _ _ _ _ _ _ hh .non q
theorem Hold.ownPin {F0 H0 F H : Hp} {σ : L2.St} {ρ : DL.Env} {i : Nat} {a : Addr} {d : D} (h : Hold K cl F0 H0 F H σ ρ) (hp : cl.pin i = some a) (e : ρ[i]? = some (.o d)) : σ[i]? = some (some (.ref a)) ∧ H0 a = none ∧ F a = none ∧ Own K cl F H a d := by
  obtain ⟨θ, hs, hd, hpn⟩ := h.sl
  obtain ⟨e1, n0, nf, w0⟩ := hs i _ e
  rw [hpn i a d hp e] at e1 n0 nf w0
  exact ⟨join_some e1, n0, nf, w0⟩
end
section
variable {P : Program} {w : World} {K : Fg} {cl : Cl} {mg : Str → Option Value} {base : Heap}
/-- the own thing at l stands at parameter j -/
abbrev Cl.at (cl : Cl) (j : Nat) (l : Addr) : Cl := { cl with pin := fun k => if k = j then some l else none }
theorem startO {F H : Hp} {n j : Nat} {l : Addr} {vs : List V} {ds : List D} (s : Same F H) (nf : F l = none) (ro : RepsO K cl F H l j vs ds) (hn : vs.length ≤ n) (ht : cl.tabs = []) :
    Hold K (cl.at j l) F (er l H) F H (vs.map some ++ List.replicate (n - vs.length) none) ((envOf n ds).set j (.o (ds.getD j .non))) := by
  obtain ⟨d, hv, hd, w⟩ := ro.at_
  have jl : j < ds.length := (List.getElem?_eq_some_iff.mp hd).1
  have gd : ds.getD j .non = d := by rw [List.getD_eq_getElem?_getD, hd]; rfl
  have only : ∀ (i : Nat) (x : D), ((envOf n ds).set j (.o (ds.getD j .non)))[i]? = some (.o x) → i = j ∧ x = d := fun i x e => by
    by_cases hi : i = j
    · subst hi
      rw [List.getElem?_set_self (by unfold envOf; simp; omega)] at e
      cases e
      exact ⟨rfl, gd⟩
    · rw [List.getElem?_set_ne (Ne.symm hi)] at e
      unfold envOf at e
      have := List.mem_of_getElem? e
      rw [List.mem_append] at this
      rcases this with z | z
      · obtain ⟨d, _, z⟩ := List.mem_map.mp z
        cases z
      · have := (List.mem_replicate.mp z).2
        cases this
  refine ⟨⟨Same.refl _, ⟨fun b u h _ => er_same b u h, fun P _ C _ t => t.of fun ps h => er_same _ _ h, fun b h => er_same.free h, fun P ps e => ⟨ps, by rw [er_ne (fun z => w.nt.t ps (by rw [← z]; exact e))]; exact e⟩⟩, s, fun p a b => absurd b a, fun p ps e => ?_, fun _ _ e => e⟩, .nil (cl := cl.at j l) ht, by unfold envOf; simp [ro.len], fun _ => l, fun i sl e => ?_, fun i k di dk e1 e2 _ => by rw [(only i di e1).1, (only k dk e2).1], fun i a x e1 _ => ?_⟩
  · by_cases hp : p = l
    · rw [hp, nf] at e; cases e
    · rw [er_ne hp]; exact .inr (s _ _ e)
  · by_cases hi : i = j
    · subst hi
      rw [List.getElem?_set_self (by unfold envOf; simp; omega)] at e
      cases e
      rw [gd]
      refine ⟨?_, er_self, nf, Own.toCl (cl := cl) (cl' := cl.at i l) rfl rfl rfl w⟩
      rw [List.getElem?_append_left (by rw [List.length_map, ro.len]; exact jl), List.getElem?_map, hv]
      rfl
    · rw [List.getElem?_set_ne (Ne.symm hi)] at e
      unfold envOf at e
      by_cases hl : i < ds.length
      · rw [List.getElem?_append_left (by simpa using hl), List.getElem?_map, List.getElem?_eq_getElem hl] at e
        cases e
        have hl2 : i < vs.length := by rw [ro.len]; exact hl
        refine ⟨vs[i], ?_, Rep.toCl (cl := cl) (cl' := cl.at j l) rfl rfl (ro.el i vs[i] ds[i] hi (List.getElem?_eq_getElem hl2) (List.getElem?_eq_getElem hl))⟩
        rw [List.getElem?_append_left (by rw [List.length_map]; exact hl2), List.getElem?_map, List.getElem?_eq_getElem hl2]
        rfl
      · rw [List.getElem?_append_right (by simpa using hl)] at e
        have := List.mem_of_getElem? e
        rw [List.mem_replicate] at this
        rw [this.2]
        trivial
  · have e1 : (if i = j then some l else none) = some a := e1
    split at e1
    · cases e1; rfl
    · cases e1
/-- THE RULE for such a def -/
theorem fn_okP {x qual : Str} {st : Stmt} {f : Addr} {fd : FuncData} {N ps : List Str} {k j : Nat} {b : DS} (F : Fun K x qual st f fd) (S : FnScope N ps (defScope st)) (hp : ps.length ≤ N.length)
    (hb : ∀ (l : Addr) (cdv : Value) (A : Around) (outer : List PySem.Env) (s : Shared) (H : Hp) (E : XK), Room k (A.deeper (envOfC qual (defScope st) s.heap.objs.size f cdv)) →
      ∃ t, VSs (cxOf (L2.CX P w) P w K mg base N qual (defScope st) f cdv A outer s H E) K (cl.at j l) (fun c d _ H' => E c d H') (defBody st) t b) (ht : cl.tabs = [] := by rfl) :
    FnOk P w K mg base (L2.CX P w) (k + 1) f fd ps (spX K cl j (defX j ps.length N.length b)) := by
  refine F.okX S (fun vs H Q E h => ?_) (fun cdv A outer s H vs Q E hr h => ?_)
  · obtain ⟨F0, ds, Q', E', l, _, _, ro, ⟨hl, _⟩, _⟩ := h
    rw [ro.len]
    exact hl
  · obtain ⟨F0, ds, Q', E', l, s0, nf, ro, ⟨hl, q⟩, hQ, hE⟩ := h
    obtain ⟨t, h⟩ := hb l cdv A outer s H E hr
    refine ⟨t, h.pe, ?_⟩
    have hn : vs.length ≤ N.length := by rw [ro.len, hl]; exact hp
    have pin : (cl.at j l).pin j = some l := by simp
    have give : ∀ F' H' σ ρ v d, Hold K (cl.at j l) F0 (er l H) F' H' σ ρ → Rep K (cl.at j l) F' v d → (gO ρ[j]? fun o => Q' (dPair d o)) → Q v H' := fun F' H' σ ρ v d h rv q => by
      obtain ⟨o, e, q⟩ := gO_out q
      obtain ⟨_, _, nf', w⟩ := h.ownPin pin e
      exact hQ _ q v F' H' h.g nf' (Own.toCl (cl := cl.at j l) (cl' := cl) rfl rfl rfl w) (Rep.toCl (cl := cl.at j l) (cl' := cl) rfl rfl rv)
    exact h.rf.ok F0 (er l H) F0 H _ _ (fun e _ => E' e) { nx := fun ρ => gO ρ[j]? fun o => Q' (dPair .non o), rt := fun _ => False, ro := fun d ρ => gO ρ[j]? fun o => Q' (dPair d o) } { nx := fun _ H' => Q .non H', rt := Q } (startO s0 nf ro hn ht) (fun err ρ σ F' H' c dx h e re => hE err e c dx F' H' h.g (repErr_toCl (cl := cl.at j l) (cl' := cl) rfl rfl re))
      ⟨fun F' H' σ ρ h q => give F' H' σ ρ .non .non h .non q, fun _ _ _ _ _ z => z.elim, fun _ _ _ _ _ z => z.elim, fun F' H' v d g _ _ q => q.elim, fun F' H' σ ρ v d h rv q => give F' H' σ ρ v d h rv q⟩ q
theorem fn_clP {cl' : Cl} {k j : Nat} {f : Addr} {fd : FuncData} {ps : List Str} {Wf : DF} (F : FnOk P w K mg base (L2.CX P w) k f fd ps (spX K cl j Wf)) (n : cl'.nm = cl.nm) (o : cl'.so = cl.so) (m : cl'.me = cl.me) : FnOk P w K mg base (L2.CX P w) k f fd ps (spX K cl' j Wf) :=
  F.imp fun vs H Q E ⟨F0, ds, Q', E', l, s, nf, ro, q, a, b⟩ => ⟨F0, ds, Q', E', l, s, nf, ro.toCl n.symm o.symm m.symm, q, fun r z => gPair_mono (fun d ob y v F' H' g nf' w rv => y v F' H' g nf' (w.toCl n o m) (rv.toCl n o)) (a r z), fun e z c dx F' H' g r => b e z c dx F' H' g (repErr_toCl n o r)⟩
end
section
variable {X : Cx} {K : Fg} {cl : Cl} {W : WX} {pos : Pos}
structure VAO (X : Cx) (K : Fg) (cl : Cl) (W : WX) (j i : Nat) (e : List Expr) (te : TA) (t : DA) : Prop where
  pe : PA X e te
  rf : RfAO K cl W j i te t
  hK : X.K = K
theorem vao_own {i : Nat} {x : Str} {p1 : Pos} {es : List Expr} {tr : TA} {r : DA} (hr : VA X K cl W es tr r) (hN : X.N[i]? = some x := by rfl) (hv : Vis X.env.scope x := by first | exact Or.inl rfl | exact Or.inr (Or.inl rfl) | exact Or.inr (Or.inr rfl)) (hd : (x == ("__debug__" : Str)) = false := by decide)
    (hcd : (x == ("__classdict__" : Str)) = false := by decide) (hs : starEach (Expr.Name x p1 :: es) X.env = (false, eval (.Name x p1) X.env) :: starEach es X.env := by rfl) : VAO X K cl W 0 i (.Name x p1 :: es) (tCons (tVar i) tr) (aOwn i r) := by
  obtain rfl := hr.hK
  exact ⟨pa_cons (pe_var hN hv hd hcd) hr.pe hs, rfao_own hr.rf, rfl⟩
theorem vao_cons {j i : Nat} {e : Expr} {es : List Expr} {te : TE} {t : DT} {tr : TA} {r : DA} (he : VE X K cl W e te t) (hr : VAO X K cl W j i es tr r) (hs : starEach (e :: es) X.env = (false, eval e X.env) :: starEach es X.env := by rfl) : VAO X K cl W (j + 1) i (e :: es) (tCons te tr) (aCons t r) := by
  obtain rfl := hr.hK
  exact ⟨pa_cons he.pe hr.pe hs, rfao_cons he.rf hr.rf, rfl⟩
theorem vs_callX {j i : Nat} {Wf : DF} {k : Nat} {f : Addr} {fd : FuncData} {ps : List Str} {x : Str} {p : Pos} {e : Expr} {es : List Expr} {t : TA} {q : DA} {cpos : Pos} (F : FnOk X.prog X.w K X.mg X.base (L2.CX X.prog X.w) k f fd ps (spX K cl j Wf)) (hr : Room k X.A) (hg : Gl X x) (mg : X.mg x = some (.ref f)) (hk : PySem.W.keepIn K (.ref f) = true)
    (hb : Binds K fd ps []) (tk : Takes X W) (ha : VAO X K cl W j i (e :: es) t q) (hdb : (x == ("__debug__" : Str)) = false := by decide) (he : starEach (e :: es) X.env = (false, eval e X.env) :: starEach es X.env := by rfl) (hpl : (backTo cpos (starEach es X.env)).any (·.1) = false := by rfl)
    (hs : swapsWith (.Call (.Name x p) (e :: es) [] cpos) none pos.line X.env = pure false := by rfl) :
    VS X K cl W (.Expr (.Call (.Name x p) (e :: es) [] cpos) pos) (tDrop (tCallSD (spX K cl j Wf) [] (fun σ => WE W σ) t)) (sCallX i Wf q) := by
  obtain rfl := ha.hK
  exact ⟨ps_expr (pe_callSD F hr hg mg hk hb .nil (passAt tk) ha.pe hdb he hpl) hs, rfs_callX ha.rf, rfl⟩
theorem vs_callXTo {j i m : Nat} {Wf : DF} {k : Nat} {f : Addr} {fd : FuncData} {ps : List Str} {x y : Str} {p py : Pos} {e : Expr} {es : List Expr} {t : TA} {q : DA} {cpos : Pos} (hN : X.N.Nodup) (F : FnOk X.prog X.w K X.mg X.base (L2.CX X.prog X.w) k f fd ps (spX K cl j Wf)) (hr : Room k X.A) (hg : Gl X x) (mg : X.mg x = some (.ref f)) (hk : PySem.W.keepIn K (.ref f) = true)
    (hb : Binds K fd ps []) (tk : Takes X W) (ha : VAO X K cl W j i (e :: es) t q) (hi : X.N[m]? = some y := by rfl) (hx : Loc X.env.scope y := by first | exact Or.inl rfl | exact Or.inr rfl) (hf : X.fn y = true ∨ X.env.scope.names.lookup y = some .local := by first | exact .inl rfl | exact .inr rfl | assumption)
    (hdb : (x == ("__debug__" : Str)) = false := by decide) (he : starEach (e :: es) X.env = (false, eval e X.env) :: starEach es X.env := by rfl) (hpl : (backTo cpos (starEach es X.env)).any (·.1) = false := by rfl)
    (hs : swapsWith (.Call (.Name x p) (e :: es) [] cpos) (some (.Name y py)) pos.line X.env = pure false := by rfl) :
    VS X K cl W (.Assign [.Name y py] (.Call (.Name x p) (e :: es) [] cpos) pos) (tAsg (tCallSD (spX K cl j Wf) [] (fun σ => WE W σ) t) (L2.gName m)) (sCallXTo i m Wf q) := by
  obtain rfl := ha.hK
  exact ⟨ps_set hN hi hx (pe_callSD F hr hg mg hk hb .nil (passAt tk) ha.pe hdb he hpl) hs hf, rfs_callXTo ha.rf, rfl⟩
theorem vs_retX {e : Expr} {te : TE} {t : DT} (h : VE X K cl W e te t) : VS X K cl W (.Return (some e) pos) (tRet te) (sRetX t) := by
  obtain rfl := h.hK
  exact ⟨ps_ret h.pe, rfs_retX h.rf, rfl⟩
theorem vs_retNX (hK : X.K = K := by rfl) : VS X K cl W (.Return none pos) tRetN sRetNX := by
  obtain rfl := hK
  exact ⟨ps_retN, rfs_retNX, rfl⟩
end
end DL

/-! DMeth: methods of built-in values that leave what they are asked of as it is. -/
namespace DL
open PySem L2 PyProof.Rows
variable [TN]
/-- [x] + xs -/
def rCons (r : V → List V → Hp → VK → Prop) : List V → Hp → VK → Prop := fun vs H Q => ∃ x xs, vs = x :: xs ∧ r x xs H Q
section
variable {K : Fg} {cl : Cl} {W : WX}
theorem rCons_out {r : V → List V → Hp → VK → Prop} {x : V} {xs : List V} {H : Hp} {Q : VK} (h : rCons r (x :: xs) H Q) : r x xs H Q := by
  obtain ⟨y, ys, e, q⟩ := h
  injection e with e1 e2
  subst e1 e2
  exact q
theorem tyD_V {F H : Hp} {T : String} {v : V} {d : D} (s : Same F H) (r : Rep K cl F v d) (h : tyD T d) : tyV K T v H := by
  cases r with
  | str z => exact h
  | lst e rr => exact .inl ⟨h, _, SqL.of (s _ _ e)⟩
  | _ => exact h.elim
theorem rfe_mt {T : String} {r : V → List V → Hp → VK → Prop} {f : List D → DK → Prop} {ta : TE} {tr : TA} {p : DT} {q : DA} (o : RfC K cl (rCons r) f) (hp : RfE K cl W ta p) (hr : RfA K cl W tr q) : RfE K cl W (tBM K T r ta tr) (dMt T f p q) where
  mono2 := fun E E' ρ P P' hE h q => hp.mono2 E E' ρ _ _ hE (fun x q => ⟨q.1, hr.mono2 E E' ρ _ _ hE (fun xs q => o.mono _ P P' h q) q.2⟩) q
  ok := fun F0 H0 F H σ ρ E Q hh le q => by
    refine hp.ok F0 H0 F H σ ρ E _ hh le (hp.mono E ρ _ _ (fun x q v F1 H1 g1 r1 => ?_) q)
    refine ⟨tyD_V g1.s r1 q.1, ?_⟩
    refine hr.ok F0 H0 F1 H1 σ ρ E _ (hh.grow g1) le (hr.mono E ρ _ _ (fun y q u F2 H2 g2 r2 => ?_) q.2)
    refine rCons_out (o.ok F2 H2 (v :: u) (x :: y) Q g2.s (.cons (r1.mono g2.f) r2) (o.mono _ _ _ (fun d q v' F' H' g3 r3 => ?_) q))
    exact q v' F' H' ((g1.trans g2).trans g3) r3
theorem rfe_mt0 {T : String} {r : V → List V → Hp → VK → Prop} {f : List D → DK → Prop} {ta : TE} {p : DT} (o : RfC K cl (rCons r) f) (hp : RfE K cl W ta p) : RfE K cl W (tBM0 K T r ta) (dMt T f p aNil) where
  mono2 := fun E E' ρ P P' hE h q => hp.mono2 E E' ρ _ _ hE (fun x q => ⟨q.1, o.mono _ P P' h q.2⟩) q
  ok := fun F0 H0 F H σ ρ E Q hh le q => by
    refine hp.ok F0 H0 F H σ ρ E _ hh le (hp.mono E ρ _ _ (fun x q v F1 H1 g1 r1 => ?_) q)
    refine ⟨tyD_V g1.s r1 q.1, ?_⟩
    refine rCons_out (o.ok F1 H1 [v] [x] Q g1.s (.cons r1 .nil) (o.mono _ _ _ (fun d q v' F' H' g3 r3 => ?_) q.2))
    exact q v' F' H' (g1.trans g3) r3
theorem Reps.get2 {F : Hp} : ∀ {vs : List V} {ds : List D} {j : Nat} {d : D}, Reps K cl F vs ds → ds[j]? = some d → ∃ v, vs[j]? = some v ∧ Rep K cl F v d
  | _, _, 0, d, .cons r _, e => ⟨_, rfl, by simp at e; exact e ▸ r⟩
  | _, _, j + 1, d, .cons _ rr, e => by
    simp at e
    obtain ⟨v, h1, h2⟩ := rr.get2 e
    exact ⟨v, by simpa using h1, h2⟩
theorem Reps.getV {F : Hp} : ∀ {vs : List V} {ds : List D} {j : Nat} {v : V}, Reps K cl F vs ds → vs[j]? = some v → ∃ d, ds[j]? = some d ∧ Rep K cl F v d
  | _, _, 0, d, .cons r _, e => ⟨_, rfl, by simp at e; exact e ▸ r⟩
  | _, _, j + 1, d, .cons _ rr, e => by
    simp at e
    obtain ⟨v, h1, h2⟩ := rr.getV e
    exact ⟨v, by simpa using h1, h2⟩
theorem all_get {xs : List D} {j : Nat} {z : D} (h : xs.all isFlat = true) (e : xs[j]? = some z) : isFlat z = true := List.all_eq_true.mp h z (List.mem_of_getElem? e)
theorem rf_index : RfC K cl (rCons (rIndex K)) fIndex where
  mono := fun x P P' h q => by
    match x, q with
    | [.lst l, y], ⟨q1, q2, j, q3, q4, q5⟩ => exact ⟨q1, q2, j, q3, q4, h _ q5⟩
  ok := fun F H v x Q s r q => by
    match x, q, r with
    | [.lst l, y], ⟨q1, q2, j, ⟨z, q3, q3'⟩, q4, q5⟩, .cons (.lst e rr) (.cons rb .nil) =>
      obtain ⟨vz, g1, g2⟩ := rr.get2 q3
      refine ⟨_, _, rfl, _, _, _, j, vz, rfl, rfl, SqL.of (s _ _ e), rb.flat1 q1, rr.flat q2, g1, ?_, fun m z' hm hz => ?_, q5 _ F H (Gr.refl s) (.int _)⟩
      · rw [eqV_D g2 rb (all_get q2 q3) q1]
        exact q3'
      · obtain ⟨d, h1, h2⟩ := rr.getV hz
        rw [eqV_D h2 rb (all_get q2 h1) q1]
        exact q4 m d hm h1
/-! texts -/
theorem strs_reps {F : Hp} : ∀ {ds : List D} {ys : List Str} {vs : List V}, strsOf ds = some ys → Reps K cl F vs ds → vs = ys.map V.str
  | [], ys, vs, h, r => by
    cases r
    cases h
    rfl
  | .str x :: ds, ys, vs, h, r => by
    unfold strsOf at h
    cases e : strsOf ds with
    | none => rw [e] at h; cases h
    | some zs =>
      rw [e] at h
      cases h
      cases r with
      | cons hx rr =>
        cases hx
        rw [strs_reps e rr]
        rfl
  | .non :: _, _, _, h, _ => by cases h
  | .bl _ :: _, _, _, h, _ => by cases h
  | .int _ :: _, _, _, h, _ => by cases h
  | .tup _ :: _, _, _, h, _ => by cases h
  | .lst _ :: _, _, _, h, _ => by cases h
  | .dk _ :: _, _, _, h, _ => by cases h
  | .ins _ _ :: _, _, _, h, _ => by cases h
  | .scr _ :: _, _, _, h, _ => by cases h
  | .st :: _, _, _, h, _ => by cases h
theorem rf_s2b {g : Str → Str → Bool} : RfC K cl (rCons fun x xs H Q => ∃ a b, x = .str a ∧ xs = [.str b] ∧ Q (.bl (g a b)) H) (fS2 fun a b => .bl (g a b)) where
  mono := fun x P P' h q => by
    match x, q with
    | [.str a, .str b], q => exact h _ q
  ok := fun F H v x Q s r q => by
    match x, q, r with
    | [.str a, .str b], q, .cons (.str _) (.cons (.str _) .nil) => exact ⟨_, _, rfl, a, b, rfl, rfl, q _ F H (Gr.refl s) (.bl _)⟩
theorem rf_s2i {g : Str → Str → Int} : RfC K cl (rCons fun x xs H Q => ∃ a b, x = .str a ∧ xs = [.str b] ∧ Q (.int (g a b)) H) (fS2 fun a b => .int (g a b)) where
  mono := fun x P P' h q => by
    match x, q with
    | [.str a, .str b], q => exact h _ q
  ok := fun F H v x Q s r q => by
    match x, q, r with
    | [.str a, .str b], q, .cons (.str _) (.cons (.str _) .nil) => exact ⟨_, _, rfl, a, b, rfl, rfl, q _ F H (Gr.refl s) (.int _)⟩
theorem rf_s1b {C : Str → Prop} {g : Str → Bool} : RfC K cl (rCons fun x xs H Q => ∃ a, x = .str a ∧ xs = [] ∧ C a ∧ Q (.bl (g a)) H) (fS1 C fun a => .bl (g a)) where
  mono := fun x P P' h q => by
    match x, q with
    | [.str a], q => exact ⟨q.1, h _ q.2⟩
  ok := fun F H v x Q s r q => by
    match x, q, r with
    | [.str a], q, .cons (.str _) .nil => exact ⟨_, _, rfl, a, rfl, rfl, q.1, q.2 _ F H (Gr.refl s) (.bl _)⟩
theorem rf_s1s {C : Str → Prop} {g : Str → Str} : RfC K cl (rCons fun x xs H Q => ∃ a, x = .str a ∧ xs = [] ∧ C a ∧ Q (.str (g a)) H) (fS1 C fun a => .str (g a)) where
  mono := fun x P P' h q => by
    match x, q with
    | [.str a], q => exact ⟨q.1, h _ q.2⟩
  ok := fun F H v x Q s r q => by
    match x, q, r with
    | [.str a], q, .cons (.str _) .nil => exact ⟨_, _, rfl, a, rfl, rfl, q.1, q.2 _ F H (Gr.refl s) (.str _)⟩
theorem rf_split : RfC K cl (rCons fun x xs H Q => ∃ a b, x = .str a ∧ xs = [.str b] ∧ (b.length == 0) = false ∧ a.length + 2 ≤ sizeLine ∧ rNewStrs (Txt.split a b) H Q) fSplit where
  mono := fun x P P' h q => by
    match x, q with
    | [.str a, .str b], q => exact ⟨q.1, q.2.1, h _ q.2.2⟩
  ok := fun F H v x Q s r q => by
    match x, q, r with
    | [.str a, .str b], q, .cons (.str _) (.cons (.str _) .nil) =>
      exact ⟨_, _, rfl, a, b, rfl, rfl, q.1, q.2.1, fun p hp => q.2.2 _ (upd F p _) _ (Gr.new s hp) (.lst upd_same (reps_strs))⟩
theorem rf_join : RfC K cl (rCons fun x xs H Q => ∃ a p, ∃ ys : List Str, x = .str a ∧ xs = [.ref p] ∧ (SqL K H p (ys.map V.str) ∨ SqT K H p (ys.map V.str)) ∧ (ys.map (·.length)).sum + ys.length * a.length ≤ 16777216 ∧ Q (.str (Txt.join a ys)) H) fJoin where
  mono := fun x P P' h q => by
    match x, q with
    | [.str a, .lst l], q =>
      simp only [fJoin] at q ⊢
      cases e : strsOf l with
      | none => rw [e] at q; exact q.elim
      | some ys => rw [e] at q; exact ⟨q.1, h _ q.2⟩
  ok := fun F H v x Q s r q => by
    match x, q, r with
    | [.str a, .lst l], q, .cons (.str _) (.cons (.lst e rr) .nil) =>
      simp only [fJoin] at q
      cases e1 : strsOf l with
      | none => rw [e1] at q; exact q.elim
      | some ys =>
        rw [e1] at q
        have ev := strs_reps e1 rr
        subst ev
        exact ⟨_, _, rfl, a, _, ys, rfl, rfl, .inl (SqL.of (s _ _ e)), q.1, q.2 _ F H (Gr.refl s) (.str _)⟩
end
/-! the rows -/
section
variable {X : Cx} {K : Fg} {cl : Cl} {W : WX} {pos : Pos}
theorem ve_mt {T id : String} {m : Str} {r : V → List V → Hp → VK → Prop} {f : List D → DK → Prop} {o e : Expr} {es : List Expr} {to : TE} {t : TA} {p : DT} {q : DA} {apos : Pos}
    (pa : PlainAttrs T) (slot : Slot T m id) (hty : typeOf (.builtin id) = pure (.type "method_descriptor")) (hm : MtR X id r) (rf : RfC X.K cl (rCons r) f) (ho : VE X K cl W o to p) (ha : VA X K cl W (e :: es) t q)
    (hbase : attributeBase o m X.env (eval o X.env) = eval o X.env := by rfl)
    (hfew : ((backTo pos (starEach (e :: es) X.env)).all (fun x => !x.1) && (backToKw pos (keywordEach [] X.env)).all (fun x => x.1.isSome)
      && decide ((e :: es).length + ([] : List Keyword).length + (if ([] : List Keyword).isEmpty then 0 else 1) < 30)) = true := by rfl)
    (hline : (apos.endLine == pos.line) = true := by rfl) (hs : starEach (e :: es) X.env = (false, eval e X.env) :: starEach es X.env := by rfl) (hplain : (backTo pos (starEach es X.env)).any (·.1) = false := by rfl) :
    VE X K cl W (.Call (.Attribute o m apos) (e :: es) [] pos) (tBM K T r to t) (dMt T f p q) := by
  obtain rfl := ho.hK
  exact ⟨pe_bm pa slot hty hm ho.pe ha.pe hbase hfew hline hs hplain, rfe_mt rf ho.rf ha.rf, rfl⟩
theorem ve_mt0 {T id : String} {m : Str} {r : V → List V → Hp → VK → Prop} {f : List D → DK → Prop} {o : Expr} {to : TE} {p : DT} {apos : Pos}
    (pa : PlainAttrs T) (slot : Slot T m id) (hty : typeOf (.builtin id) = pure (.type "method_descriptor")) (hm : MtR X id r) (rf : RfC X.K cl (rCons r) f) (ho : VE X K cl W o to p)
    (hbase : attributeBase o m X.env (eval o X.env) = eval o X.env := by rfl) (hline : (apos.endLine == pos.line) = true := by rfl) :
    VE X K cl W (.Call (.Attribute o m apos) [] [] pos) (tBM0 K T r to) (dMt T f p aNil) := by
  obtain rfl := ho.hK
  exact ⟨pe_bm0 pa slot hty hm ho.pe hbase hline, rfe_mt0 rf ho.rf, rfl⟩
end
end DL

set_option maxHeartbeats 4000000
/-! DTk0: dicts that are keyed by tuples: comprehensions, update. -/
namespace DL
open PySem L2 PyProof.Rows
section
variable {X : Cx} {pins : List (Addr × Obj)} {σ : L2.St} {H : Hp} {s : Shared} {E : Value → Shared → Prop}
theorem kt_len {H : Hp} {kvs : List (List L2.Key × V)} {xs : List (List L2.Key × Addr × Value)} (r : KT H kvs xs) : kvs.length = xs.length := Paired.length r
theorem putK_len {α : Type} [DecidableEq α] (kvs : List (α × V)) (k : α) (v : V) : (putK kvs k v).length ≤ kvs.length + 1 := length_putK kvs k v
/-- an entry by a comprehension, the key a tuple -/
theorem dsetT {D b : Addr} {kvs : List (List L2.Key × V)} {k : List L2.Key} {y : V} {r : Value} {Q : Unit → Shared → Prop} (hu : X.A.units < cLine) (J : Inv X pins σ H s) (hD : H D = some (.dT kvs)) (few : kvs.length < sizeLine) (hb : H b = some (.tup (k.map kV))) (ry : RelV y r)
    (go : ∀ s', Inv X pins σ (upd H D (.dT (putK kvs k y))) s' → Q () s') : wpAny (model X.prog X.w) X.A (dictSet D (.ref b) r) Q E s := by
  obtain ⟨z, low, xs, rel, at_⟩ := dt_of J.hok hD
  have few' : xs.length ≤ sizeLine := by
    rw [← kt_len rel]
    exact z
  have fits : (putK kvs k y).length ≤ sizeLine := by
    have := putK_len kvs k y
    omega
  refine wpAny_dictSet_heap (hsz := few') hu (key_of J.hok hb) at_ fun h1 at1 but => go _ ?_
  obtain ⟨q, es, ep, e0, e1, e2, e3, _, e4⟩ := at1
  refine d_write J (by rw [hD]; exact True.intro) but ⟨q, e0⟩ ⟨fits, low, _, (rel.put k hb ry).keeps fun c ys ec => ?_, q, es, ep, e0, e1, e2, e3, e4⟩
  rw [upd_ne (L2.ne_of ec hD (fun z => nomatch z))]
  exact ec
end
/-- the entries of one dict, laid into another -/
def mergeT (kvs more : List (List L2.Key × V)) : List (List L2.Key × V) := more.foldl (fun acc p => putK acc p.1 p.2) kvs
theorem kt_all {H : Hp} : ∀ {more : List (List L2.Key × V)} {ys : List (List L2.Key × Addr × Value)} {kvs : List (List L2.Key × V)} {xs : List (List L2.Key × Addr × Value)}, KT H more ys → KT H kvs xs → KT H (mergeT kvs more) (storedAllH xs ys)
  | [], _, _, _, .nil, r => r
  | p :: _, q :: _, _, _, .cons h t, r => by
    obtain ⟨h1, h2, h3⟩ := h
    have z := kt_all t (r.put p.1 h2 h3)
    rw [h1] at z
    show KT H (mergeT (putK _ p.1 p.2) _) (storedAllH (storedH _ q.1 q.2.1 q.2.2) _)
    rw [h1]
    exact z
theorem merge_len : ∀ (more kvs : List (List L2.Key × V)), (mergeT kvs more).length ≤ kvs.length + more.length
  | [], kvs => Nat.le_refl _
  | p :: r, kvs => by
    have h1 := merge_len r (putK kvs p.1 p.2)
    have h2 := putK_len kvs p.1 p.2
    rw [List.length_cons]
    show (mergeT (putK kvs p.1 p.2) r).length ≤ _
    omega
/-- d.update(e), both keyed by tuples -/
def rUpdT (w : World) (P : Program) : V → List V → Hp → VK → Prop := fun x vs H Q => ∃ a b kvs more, x = .ref a ∧ vs = [.ref b] ∧ H a = some (.dT kvs) ∧ H b = some (.dT more) ∧ a ≠ b ∧ (kvs ≠ [] ∨ (more.map fun p => tupleKeyHash (mixKind P w) p.1).Nodup) ∧ kvs.length + more.length ≤ sizeLine ∧ Q .non (upd H a (.dT (mergeT kvs more)))
theorem mt_updT {X : Cx} (hu : X.A.units + 1 < cLine) : MtR X "dict.update" (rUpdT X.w X.prog) := by
  intro pins s σ H x vs v us Q J rx rv h
  obtain ⟨a, b, kvs, more, rfl, rfl, ha, hb, ne, apart, few, q⟩ := h
  cases rx
  cases rv with
  | cons ru rest =>
    cases rest
    cases ru
    obtain ⟨_, low, xs, rel, at_⟩ := dt_of J.hok ha
    obtain ⟨_, low2, ys, rel2, at2⟩ := dt_of J.hok hb
    have l1 := kt_len rel
    have l2 := kt_len rel2
    refine call_update_dictH (tupleKind_room_in1 hu) ne low2 at_ at2 ?_ (by omega) fun h1 at1 at2' but => ?_
    · rcases apart with z | z
      · left
        intro w
        rw [w] at l1
        exact z (List.length_eq_zero_iff.mp l1)
      · right
        refine ⟨fun p hp => ?_, ?_⟩
        · have : ∀ {l : List (List L2.Key × V)} {m : List (List L2.Key × Addr × Value)}, KT H l m → ∀ p ∈ m, ∃ ws, H p.2.1 = some (.tup ws) := by
            intro l m r
            induction r with
            | nil => exact fun p hp => by cases hp
            | cons h t ih =>
              intro p hp
              rcases List.mem_cons.mp hp with z | z
              · rw [z]
                exact ⟨_, h.2.1⟩
              · exact ih p z
          obtain ⟨ws, hw⟩ := this rel2 p hp
          obtain ⟨_, its, _, o, e1, e2, _⟩ := (show ObjOk X.prog X.w H s.heap p.2.1 (.tup ws) from J.hok _ _ hw)
          exact ⟨o, e1, e2⟩
        · have : ∀ {l : List (List L2.Key × V)} {m : List (List L2.Key × Addr × Value)}, KT H l m → (m.map fun x => tupleKeyHash (mixKind X.prog X.w) x.1) = l.map fun p => tupleKeyHash (mixKind X.prog X.w) p.1 := by
            intro l m r
            induction r with
            | nil => rfl
            | cons h t ih => rw [List.map_cons, List.map_cons, ih, h.1]
          show (ys.map fun x => tupleKeyHash (mixKind X.prog X.w) x.1).Nodup
          rw [this rel2]
          exact z
    · have fits : (mergeT kvs more).length ≤ sizeLine := by
        have := merge_len more kvs
        omega
      obtain ⟨o, es, ep, e0, e1, e2, e3, _, e4⟩ := at1
      refine ⟨.non, _, d_write (ob := .dT (mergeT kvs more)) J (by rw [ha]; exact True.intro) but ⟨o, e0⟩ ⟨fits, low, _, (kt_all rel2 rel).keeps fun c zs ec => ?_, o, es, ep, e0, e1, e2, e3, e4⟩, rfl, q⟩
      rw [upd_ne (L2.ne_of ec ha (fun z => nomatch z))]
      exact ec
section
variable {X : Cx}
/-- {(..): v for g in it if ..}: D the new dict, its keys tuples -/
def tDcT (wi : TI) (g : TG) (tt : TT) (tk tv : TE) (vs : List Nat) : TE := fun σ H Q => wi σ H fun J H1 => ∀ D, H1 D = none → ∃ U : Nat → Nat → Hp → Prop, (∃ m, U 0 m (upd H1 D (.dT []))) ∧ ∀ i m H, U i m H →
  (J.stop i H ∧ Q (.ref D) H) ∨ (J.go i H ∧ ∃ nx : Hp → Prop, (∀ H', nx H' → ∃ m', m' < m ∧ U (i + 1) m' H') ∧ ∀ x H', J.yld i H x H' → g x (wipe σ vs) H' fun τ H2 => wipe τ vs = wipe σ vs ∧ tt τ H2 fun b H3 =>
    if b = true then tk τ H3 fun y H4 => tv τ H4 fun z H5 => ∃ kvs k b, y = .ref b ∧ H5 b = some (.tup (k.map kV)) ∧ H5 D = some (.dT kvs) ∧ kvs.length < sizeLine ∧ nx (upd H5 D (.dT (putK kvs k z))) else nx H3)
theorem coreT {pins : List (Addr × Obj)} {s : Shared} {σ : L2.St} {H : Hp} {Q : VK} {kx vx tg it0 : Expr} {ifs : List Expr} {sc : Scope} {own : List (Str × Nat)} {pos pos' : Pos} {wi : TI} {g : TG} {tt : TT} {tk tv : TE} {use : Option (Value → Sem Unit)} {R : Value → Shared → Prop} (hu : X.A.units < cLine)
    (calm : X.calm = true) (nd : X.N.Nodup) (J : Inv X pins σ H s) (hi : PI X tg it0 wi) (ok : BlkOk X.N X.env.scope sc own)
    (hg : ∀ (s : Shared) (H : Hp) (C : Addr) (l : List (Str × Addr)) (fp : List Addr), PG (X.blk s H sc (compEnvC sc l C X.env) fp) tg g)
    (ht : ∀ (s : Shared) (H : Hp) (C : Addr) (l : List (Str × Addr)) (fp : List Addr), PTs (X.blk s H sc (compEnvC sc l C X.env) fp) ifs tt)
    (hk : ∀ (s : Shared) (H : Hp) (C : Addr) (l : List (Str × Addr)) (fp : List Addr), PE (X.blk s H sc (compEnvC sc l C X.env) fp) kx tk)
    (hv : ∀ (s : Shared) (H : Hp) (C : Addr) (l : List (Str × Addr)) (fp : List Addr), PE (X.blk s H sc (compEnvC sc l C X.env) fp) vx tv) (plain : ∀ x, foldedSetIterable it0 X.env x = pure x)
    (h : tDcT wi g tt tk tv (own.map (·.2)) σ H Q)
    (done : ∀ D C s' m H', Inv X pins σ H' s' → Q (.ref D) H' → s'.heap.Ns C m → FpOk X pins H' C → compPost (model X.prog X.w) X.A X.xe use R (.ref D) C (.ok .next) s') :
    wpAny (model X.prog X.w) X.A (comprehension (.DictComp kx vx [⟨tg, it0, ifs, 0⟩] sc pos) sc X.env pos' newDict false (eval it0 X.env) use) R X.xe s := by
  have cells : ∀ y ∈ sc.names, y.2 = .free → ∃ c, X.env.cells.lookup y.1 = some c := fun y hy e => by
    rcases ok.free y hy e with z | z
    · exact J.ok.has _ (.inl z)
    · exact J.ok.has _ (.inr z)
  refine wpAny_comprehension_free (use := use) rfl plain (closure_ok cells) ok.kind (fun y hy e => by rw [ok.uniq y hy, e]) (thn (hi.run pins s σ H _ J h) fun u0 sA hx => thn hx fun u1 sB hy => ?_)
  obtain ⟨a0, fp, at_, It, HB, e, JB, T, stB, fB, q⟩ := hy
  subst e
  refine wpAny_newObj_type (newEnv_comp ?_)
  generalize hD : sB.heap.objs.size = D
  obtain ⟨U, ⟨m0, u0'⟩, turn⟩ := q D (JB.hok.fresh (Nat.le_of_eq hD))
  generalize hsC : ({ sB with heap := sB.heap.push { cls := .type "dict", data := .dict #[] } } : Shared) = sC
  have JC : Inv X pins σ (upd HB D (.dT [])) sC := by
    rw [← hsC]
    refine JB.laid (t' := sB.toks) (fun b o e => Heap.get?_push_of_some _ e) (Nat.le_of_eq hD) ?_
    rw [← hD]
    exact dt_empty sB.heap JB.big
  have hC : sC.heap = sB.heap.push { cls := .type "dict", data := .dict #[] } := by rw [← hsC]
  have fC : ∀ b ∈ fp, FpOk X pins (upd HB D (.dT [])) b ∧ b < sC.heap.objs.size := fun b hb => by
    obtain ⟨o, eo, _⟩ := T.obj _ _ stB b hb
    have lt := Heap.lt_size eo
    refine ⟨⟨?_, (fB b hb).2⟩, by rw [hC, Heap.size_push]; exact Nat.lt_succ_of_lt lt⟩
    rw [upd_ne (by rw [← hD]; exact Nat.ne_of_lt lt)]
    exact (fB b hb).1
  have stC : at_ 0 sC.heap := T.keep _ _ _ stB fun b _ o e => by rw [hC]; exact Heap.get?_push_of_some _ e
  have J4 := block_start JC ok nd fC
  have pg := hg sC (upd HB D (.dT [])) sC.heap.objs.size (cellsFrom (sC.heap.objs.size + 1) sc.names (cloFrom X.env.cells sc.names [])) fp
  have pt := ht sC (upd HB D (.dT [])) sC.heap.objs.size (cellsFrom (sC.heap.objs.size + 1) sc.names (cloFrom X.env.cells sc.names [])) fp
  have pk := hk sC (upd HB D (.dT [])) sC.heap.objs.size (cellsFrom (sC.heap.objs.size + 1) sc.names (cloFrom X.env.cells sc.names [])) fp
  have pv := hv sC (upd HB D (.dT [])) sC.heap.objs.size (cellsFrom (sC.heap.objs.size + 1) sc.names (cloFrom X.env.cells sc.names [])) fp
  show codeAny _ _ (.compStart (.DictComp kx vx [⟨tg, it0, ifs, 0⟩] sc pos) 0 (.ref a0) (.ref D) (compEnvC sc (cellsFrom (sC.heap.objs.size + 1) sc.names (cloFrom X.env.cells sc.names [])) sC.heap.objs.size X.env)) (compPost (model X.prog X.w) X.A X.xe use R (.ref D) sC.heap.objs.size) { sC with heap := pushCells (sC.heap.push { cls := .type "dict", data := .dict #[] }) sc.names }
  have noF : ∀ b ∈ fp, (upd HB D (.dT [])) b = none := fun b hb => (fC b hb).1.1
  generalize hce : compEnvC sc (cellsFrom (sC.heap.objs.size + 1) sc.names (cloFrom X.env.cells sc.names [])) sC.heap.objs.size X.env = ce at J4 pg pt pk pv ⊢
  have eL : ce.locals = sC.heap.objs.size := by subst hce; rfl
  generalize hH3 : upd HB D (.dT []) = H3 at JC J4 pg pt pk pv u0' noF fC
  generalize hs4 : ({ sC with heap := pushCells (sC.heap.push { cls := .type "dict", data := .dict #[] }) sc.names } : Shared) = s4 at J4 ⊢
  have st4 : at_ 0 s4.heap := T.keep _ _ _ stC fun b _ o e => by rw [← hs4]; exact pushCells_keeps _ _ _ _ (Heap.get?_push_of_some _ e)
  have steady : ∀ {σ' : L2.St} {H' : Hp} {s' : Shared}, Inv (X.blk sC H3 sc ce fp) [] σ' H' s' → (∀ b ∈ fp, H' b = none) → ∀ b ∈ fp, FpOk (X.blk sC H3 sc ce fp) [] H' b := fun {σ' H' s'} I' n b hb =>
    ⟨n b hb, (I'.ok.exf b hb).1, I'.ok.exfs b hb, .inl hb, fun x c e => (I'.ok.exf b hb).2 x c e, fun p hp => absurd (show p ∈ ([] : List (Addr × Obj)) ++ [] from hp) (by simp)⟩
  have loop : codeAny (model X.prog X.w) X.A (.compLoop (.DictComp kx vx [⟨tg, it0, ifs, 0⟩] sc pos) 0 (.ref a0) (.ref D) ce) (compPost (model X.prog X.w) X.A X.xe use R (.ref D) sC.heap.objs.size) s4 := by
    refine compLoop_anyD (fun n s' => ∃ i H', Inv (X.blk sC H3 sc ce fp) [] (wipe σ (own.map (·.2))) H' s' ∧ at_ i s'.heap ∧ (∀ b ∈ fp, H' b = none) ∧ U i n H') ?_ m0 ⟨0, H3, J4, st4, noF, u0'⟩
    rintro n s5 ⟨i, H5, J5, st5, n5, u5⟩
    rcases turn i n H5 u5 with ⟨end_, qq⟩ | ⟨on, nx, small, step⟩
    · refine thnF (T.done (X.blk sC H3 sc ce fp) rfl rfl rfl calm i [] s5 _ H5 (fun _ _ => False) J5 (steady J5 n5) st5 end_) fun r s6 ⟨hr, J6⟩ => ?_
      subst hr
      have nC : H5 sC.heap.objs.size = none := by
        have z : H5 ce.locals = none := J6.free
        rw [eL] at z
        exact z
      have J7 : Inv X pins σ H5 s6 := JC.call' (ch := fp) J6.os J6.base J6.hok J6.bare fun b hb => ⟨(fC b hb).1.2.2.2.1, (fC b hb).1.2.1, (fC b hb).1.2.2.2.2.1, (fC b hb).1.2.2.2.2.2⟩
      obtain ⟨m, hn, _⟩ := J6.loc
      have hn : s6.heap.Ns ce.locals m := hn
      rw [eL] at hn
      exact done D sC.heap.objs.size s6 m H5 J7 qq hn (JC.fpOk (Nat.le_refl _) nC)
    · refine thnF (T.item (X.blk sC H3 sc ce fp) rfl rfl rfl calm i [] s5 _ H5 (fun _ _ => False) J5 (steady J5 n5) st5 on) fun r s6 ⟨u, hr, h6⟩ => ?_
      subst hr
      refine thnF h6 fun _ s7 ⟨x, H7, J7, r7, y7, st7, n7⟩ => ?_
      refine thnF (pg.run _ s7 _ H7 x u _ (J7.pinned (steady J7 n7) (T.obj _ _ st7)) r7 (step x H7 y7)) fun _ s8 ⟨σ8, H8, J8, hw8, q8⟩ => ?_
      refine thnF (pt.run _ s8 σ8 H8 _ J8 q8) fun b s9 ⟨H9, J9, q9⟩ => ?_
      have back : ∀ {s' : Shared} {H' : Hp}, Inv (X.blk sC H3 sc ce fp) ([] ++ pinsAt fp s7.heap) σ8 H' s' → nx H' → ∃ m, m < n ∧ ∃ i H', Inv (X.blk sC H3 sc ce fp) [] (wipe σ (own.map (·.2))) H' s' ∧ at_ i s'.heap ∧ (∀ b ∈ fp, H' b = none) ∧ U i m H' := fun {s' H'} I' z => by
        obtain ⟨m', lt, u'⟩ := small H' z
        have held : ∀ b ∈ fp, ∀ o, s7.heap.get? b = some o → s'.heap.get? b = some o ∧ H' b = none := fun b hb o e =>
          let z := I'.pin (b, o) (List.mem_append_right _ (List.mem_append_right _ (mem_pinsAt hb e)))
          ⟨z.1, z.2.1⟩
        have len8 : (wipe σ (own.map (·.2))).length = σ8.length := by rw [← hw8, wipe_length]
        refine ⟨m', lt, i + 1, H', (I'.unpinned (pins := [])).weak len8 (fun j v e => ?_), T.keep _ _ _ st7 fun b hb o e => (held b hb o e).1, fun b hb => ?_, u'⟩
        · rw [← hw8] at e
          exact (wipe_some e).1
        · obtain ⟨o, e, _⟩ := T.obj _ _ st7 b hb
          exact (held b hb o e).2
      cases b with
      | false =>
        simp only [Bool.false_eq_true, if_false] at q9 ⊢
        exact back J9 q9
      | true =>
        simp only [if_true] at q9 ⊢
        refine thnF (pk.run _ s9 σ8 H9 _ J9 q9) fun z s10 ⟨yk, H10, J10, r10, q10⟩ => ?_
        refine thnF (pv.run _ s10 σ8 H10 _ J10 q10) fun z2 s11 ⟨yv, H11, J11, r11, kvs, k, b, ek, eb, hD11, few, z3⟩ => ?_
        subst ek
        cases r10
        exact dsetT (X := X.blk sC H3 sc ce fp) hu J11 hD11 few eb r11 fun s12 J12 => back J12 z3
  exact codeAny_compStart_dict loop (T.self X.A 0 _ _ _ st4 loop)
theorem pe_dcT {kx vx tg it0 : Expr} {ifs : List Expr} {sc : Scope} {own : List (Str × Nat)} {pos : Pos} {wi : TI} {g : TG} {tt : TT} {tk tv : TE} (hu : X.A.units < cLine) (calm : X.calm = true) (nd : X.N.Nodup) (hi : PI X tg it0 wi) (ok : BlkOk X.N X.env.scope sc own)
    (hg : ∀ (s : Shared) (H : Hp) (C : Addr) (l : List (Str × Addr)) (fp : List Addr), PG (X.blk s H sc (compEnvC sc l C X.env) fp) tg g)
    (ht : ∀ (s : Shared) (H : Hp) (C : Addr) (l : List (Str × Addr)) (fp : List Addr), PTs (X.blk s H sc (compEnvC sc l C X.env) fp) ifs tt)
    (hk : ∀ (s : Shared) (H : Hp) (C : Addr) (l : List (Str × Addr)) (fp : List Addr), PE (X.blk s H sc (compEnvC sc l C X.env) fp) kx tk)
    (hv : ∀ (s : Shared) (H : Hp) (C : Addr) (l : List (Str × Addr)) (fp : List Addr), PE (X.blk s H sc (compEnvC sc l C X.env) fp) vx tv) (plain : ∀ x, foldedSetIterable it0 X.env x = pure x := by intro _; rfl) :
    PE X (.DictComp kx vx [⟨tg, it0, ifs, 0⟩] sc pos) (tDcT wi g tt tk tv (own.map (·.2))) := by
  refine ⟨fun pins s σ H Q J h => ?_⟩
  rw [arm_eval_DictComp]
  refine coreT hu calm nd J hi ok hg ht hk hv plain h fun D C s' m H' I' q hn f => ⟨m, hn, fun h'' sb => ?_⟩
  exact ⟨.ref D, H', I'.turned (t' := s'.toks) (fun b o hb e => (sb.2 b hb).trans e) f.1 f.2.1 f.2.2.2.1 f.2.2.2.2.1 f.2.2.2.2.2, rfl, q⟩
end
end DL

/-! DHash: pairs of small numbers have hashes of their own. -/
namespace DL
open PySem L2
def hsh (i : Nat) : Nat := (reduceHash (Builtin.Tuple.tupleHashOf [hashInt ((i / 20 : Nat) : Int), hashInt ((i % 20 : Nat) : Int)]) % 1000003).toNat
def apart : Nat → List Nat → Bool
  | _, [] => true
  | m, x :: r => bif Nat.testBit m x then false else apart (m ||| 2 ^ x) r
theorem apart_nd : ∀ {l : List Nat} {m : Nat}, apart m l = true → (∀ x ∈ l, Nat.testBit m x = false) ∧ l.Nodup
  | [], _, _ => ⟨fun x h => (List.not_mem_nil h).elim, List.nodup_nil⟩
  | x :: r, m, h => by
    unfold apart at h
    cases e : Nat.testBit m x with
    | true => rw [e] at h; cases h
    | false =>
      rw [e] at h
      obtain ⟨h1, h2⟩ := apart_nd (l := r) h
      refine ⟨fun y hy => ?_, List.nodup_cons.mpr ⟨fun hx => ?_, h2⟩⟩
      · rcases List.mem_cons.mp hy with z | z
        · rw [z]
          exact e
        · have := h1 y z
          rw [Nat.testBit_or, Bool.or_eq_false_iff] at this
          exact this.1
      · have := h1 x hx
        rw [Nat.testBit_or, Nat.testBit_two_pow] at this
        simp at this
theorem all_apart : apart 0 ((List.range 400).map hsh) = true := by decide +kernel
theorem hsh_inj {i j : Nat} (hi : i < 400) (hj : j < 400) (e : hsh i = hsh j) : i = j := by
  have nd := (apart_nd all_apart).2
  have h1 : ((List.range 400).map hsh)[i]? = some (hsh i) := by simp [hi]
  have h2 : ((List.range 400).map hsh)[j]? = some (hsh i) := by simp [hj, e]
  have l1 : i < ((List.range 400).map hsh).length := by simp [hi]
  exact (List.getElem?_inj l1 nd).mp (h1.trans h2.symm)
theorem hash_pair {P : Program} {w : World} {a b c d : Int} (ha : 0 ≤ a ∧ a < 20) (hb : 0 ≤ b ∧ b < 20) (hc : 0 ≤ c ∧ c < 20) (hd : 0 ≤ d ∧ d < 20) (e : tupleKeyHash (mixKind P w) [.inl a, .inl b] = tupleKeyHash (mixKind P w) [.inl c, .inl d]) : a = c ∧ b = d := by
  have key : ∀ x y : Int, 0 ≤ x ∧ x < 20 → 0 ≤ y ∧ y < 20 → hsh (20 * x.toNat + y.toNat) = (tupleKeyHash (mixKind P w) [.inl x, .inl y] % 1000003).toNat := by
    intro x y hx hy
    unfold hsh
    rw [show (20 * x.toNat + y.toNat) / 20 = x.toNat by omega, show (20 * x.toNat + y.toNat) % 20 = y.toNat by omega, Int.toNat_of_nonneg hx.1, Int.toNat_of_nonneg hy.1]
    rfl
  have := hsh_inj (i := 20 * a.toNat + b.toNat) (j := 20 * c.toNat + d.toNat) (by omega) (by omega) (by rw [key a b ha hb, key c d hc hd, e])
  omega
end DL

set_option maxHeartbeats 2000000
/-! DTk: own dicts that are keyed by tuples. -/
namespace DL
open PySem L2 PyProof.Rows
variable [TN]
section
variable {K : Fg} {cl : Cl} {W : WX}
theorem gOT_out {o : Option Sl} {Q : List (List DL.Key × D) → Prop} (h : gOT o Q) : ∃ xs, o = some (.o (.dt xs)) ∧ Q xs := by
  unfold gOT at h
  split at h
  · exact ⟨_, rfl, h⟩
  · exact h.elim
theorem gOT_in {o : Option Sl} {Q : List (List DL.Key × D) → Prop} {xs : List (List DL.Key × D)} (e : o = some (.o (.dt xs))) (h : Q xs) : gOT o Q := by rw [e]; exact h
theorem gKs_out {ds : List D} {Q : List DL.Key → Prop} (h : gKs ds Q) : ∃ ks, keysOf ds = some ks ∧ Q ks := by
  unfold gKs at h
  split at h
  · rename_i e
    exact ⟨_, e, h⟩
  · exact h.elim
theorem gKs_in {ds : List D} {Q : List DL.Key → Prop} {ks : List DL.Key} (e : keysOf ds = some ks) (h : Q ks) : gKs ds Q := by unfold gKs; rw [e]; exact h
theorem keys_v {F : Hp} : ∀ {ds : List D} {ks : List DL.Key} {vs : List V}, keysOf ds = some ks → Reps K cl F vs ds → vs = ks.map kV
  | [], ks, _, e, .nil => by cases e; rfl
  | d :: r, ks, _, e, .cons h t => by
    simp only [keysOf] at e
    cases e1 : keyOf d with
    | none => rw [e1] at e; cases e
    | some k =>
      cases e2 : keysOf r with
      | none => rw [e1, e2] at e; cases e
      | some ls =>
        rw [e1, e2] at e
        cases e
        rw [keys_v e2 t, List.map_cons]
        congr 1
        cases d with
        | int i => cases h; cases e1; rfl
        | str x => cases h; cases e1; rfl
        | _ => cases e1
theorem TReps.len {F : Hp} : ∀ {ws : List (List L2.Key × V)} {kvs : List (List DL.Key × D)}, TReps K cl F ws kvs → ws.length = kvs.length
  | _, _, .nil => rfl
  | _, _, .cons _ r => by rw [List.length_cons, List.length_cons, TReps.len r]
theorem TReps.any {F : Hp} (k : List DL.Key) : ∀ {ws : List (List L2.Key × V)} {kvs : List (List DL.Key × D)}, TReps K cl F ws kvs → (ws.any fun kv => decide (kv.1 = k)) = (kvs.any fun kv => decide (kv.1 = k))
  | _, _, .nil => rfl
  | _, _, .cons _ r => by rw [List.any_cons, List.any_cons, TReps.any k r]
theorem TReps.swap {F : Hp} {v : V} {d : D} (k : List DL.Key) (h : Rep K cl F v d) : ∀ {ws : List (List L2.Key × V)} {kvs : List (List DL.Key × D)}, TReps K cl F ws kvs → TReps K cl F (ws.map fun kv => if kv.1 = k then (kv.1, v) else kv) (kvs.map fun kv => if kv.1 = k then (kv.1, d) else kv)
  | _, _, .nil => .nil
  | _, _, .cons (k := j) h2 r => by
    rw [List.map_cons, List.map_cons]
    by_cases e : j = k
    · simp only [e, if_true]
      exact .cons h (TReps.swap k h r)
    · simp only [e, if_false]
      exact .cons h2 (TReps.swap k h r)
theorem TReps.app {F : Hp} : ∀ {ws us : List (List L2.Key × V)} {kvs js : List (List DL.Key × D)}, TReps K cl F ws kvs → TReps K cl F us js → TReps K cl F (ws ++ us) (kvs ++ js)
  | _, _, _, _, .nil, r => r
  | _, _, _, _, .cons h r, r2 => .cons h (r.app r2)
theorem TReps.put {F : Hp} {v : V} {d : D} (k : List DL.Key) (h : Rep K cl F v d) {ws : List (List L2.Key × V)} {kvs : List (List DL.Key × D)} (r : TReps K cl F ws kvs) : TReps K cl F (putK ws k v) (putD kvs k d) := by
  unfold putK putD
  rw [r.any k]
  split
  · exact r.swap k h
  · exact r.app (.cons h .nil)
theorem TReps.merge {F : Hp} : ∀ {us : List (List L2.Key × V)} {js : List (List DL.Key × D)} {ws : List (List L2.Key × V)} {kvs : List (List DL.Key × D)}, TReps K cl F us js → TReps K cl F ws kvs → TReps K cl F (mergeT ws us) (mergeDT kvs js)
  | _, _, _, _, .nil, r => r
  | _, _, _, _, .cons (k := k) (v := v) (d := d) (vs := us) (ds := js) h t, r => by
    show TReps K cl F (mergeT (putK _ k v) us) (mergeDT (putD _ k d) js)
    exact TReps.merge t (r.put k h)
theorem TReps.keys {F : Hp} : ∀ {ws : List (List L2.Key × V)} {kvs : List (List DL.Key × D)}, TReps K cl F ws kvs → ws.map (·.1) = kvs.map (·.1)
  | _, _, .nil => rfl
  | _, _, .cons _ r => by rw [List.map_cons, List.map_cons, TReps.keys r]
theorem rfn_newT : RfN K cl W tDNewT dNewT where
  mono2 := fun E E' ρ P P' hE h q => h _ q
  ok := fun F0 H0 F H σ ρ E Q hh le q p hp => q p F _ (Gr.h hh.g.s (nx_upd hp)) hp (hh.g.s.free hp) ⟨[], upd_same, .nil⟩
theorem rfs_putT {i : Nat} {ta : TA} {tb : TE} {p : DA} {q : DT} (ha : RfA K cl W ta p) (hb : RfE K cl W tb q) : RfS K cl W (sDPut (tVar i) (tTup ta) tb) (sPutT i p q) where
  mono2 := fun E E' A B ρ hE l q => by
    obtain ⟨xs, e, q⟩ := gOT_out q
    refine gOT_in e (hb.mono2 E E' ρ _ _ hE (fun y q => ha.mono2 E E' ρ _ _ hE (fun ds q => ⟨q.1, ?_⟩) q) q)
    obtain ⟨ks, ek, q1, q2⟩ := gKs_out q.2
    exact gKs_in ek ⟨q1, l.nx _ q2⟩
  ok := fun F0 H0 F H σ ρ E B A hh le ld q => by
    obtain ⟨xs, e, q⟩ := gOT_out q
    obtain ⟨a, ea, n0, nf, vs, ho, rr⟩ := hh.ownAt e
    refine hb.ok F0 H0 F H σ ρ E _ hh le (hb.mono E ρ _ _ (fun y q v F1 H1 g1 r1 => ?_) q)
    refine ⟨.ref a, ea, ?_⟩
    refine ha.ok F0 H0 F1 H1 σ ρ E _ (hh.grow g1) le (ha.mono E ρ _ _ (fun ds q us F2 H2 g2 r2 => ?_) q)
    obtain ⟨q0, q⟩ := q
    obtain ⟨ks, ek, q1, q2⟩ := gKs_out q
    refine ⟨by rw [r2.length, ← line_eq]; exact q0, fun b hb => ?_⟩
    have eu := keys_v ek r2
    have g3 : Gr F2 H2 (upd F2 b (.tup us)) (upd H2 b (.tup us)) := Gr.new g2.s hb
    have g := (g1.trans g2).trans g3
    refine ⟨a, _, rfl, DPut.t (g.k.get ho) (k := ks) (by rw [upd_same, eu]) (by rw [TReps.len rr]; exact small_line q1), ?_⟩
    exact ld.nx _ _ _ _ ((hh.grow g).mut (d' := .dt (putD xs ks y)) ea e ⟨putK vs ks v, upd_same, (rr.mono g.f).put ks ((r1.mono g2.f).mono g3.f)⟩) q2
theorem rf_lenT : RfC K cl rLenT fLenT where
  mono := fun x P P' h q => by
    match x, q with
    | [.dt kvs], q => exact ⟨q.1, h _ q.2⟩
  ok := fun F H v x Q s r q => by
    match x, q, r with
    | [.dt kvs], q, .cons (.dt (a := a) (ws := ws) e t) .nil =>
      refine ⟨a, ws, rfl, s _ _ e, ?_⟩
      rw [TReps.len t]
      exact q.2 _ F H (Gr.refl s) (.int _)
/-! comprehensions -/
theorem dcTL_mono {tg : TG} {js : List Nat} {g : DG} {tt : TT} {t : DB} {ta : TA} {tv : TE} {k : DA} {e : DT} (hg : RfG K cl js tg g) (ht : RfB K cl (fun _ _ _ _ => False) tt t) (hk : RfA K cl (fun _ _ _ _ => False) ta k) (he : RfE K cl (fun _ _ _ _ => False) tv e) :
    ∀ (xs : List D) (ρ : DL.Env) (acc : List (List DL.Key × D)) (Q Q' : List (List DL.Key × D) → Prop), (∀ r, Q r → Q' r) → dcTL g t k e ρ xs acc Q → dcTL g t k e ρ xs acc Q'
  | [], ρ, acc, Q, Q', hQ, q => hQ _ q
  | x :: r, ρ, acc, Q, Q', hQ, q => hg.mono x ρ _ _ (fun ρ' q => ht.mono noE ρ' _ _ (fun b q => by
      cases b with
      | true =>
        refine hk.mono noE ρ' _ _ (fun y q => ⟨q.1, he.mono noE ρ' _ _ (fun z q => ?_) q.2⟩) q
        obtain ⟨j, ej, q1, q2⟩ := gKs_out q
        exact gKs_in ej ⟨q1, dcTL_mono hg ht hk he r ρ _ Q Q' hQ q2⟩
      | false => exact dcTL_mono hg ht hk he r ρ acc Q Q' hQ q) q) q
theorem rfn_dcT {js vs : List Nat} {wi : TI} {it : DI} {g : TG} {d : DG} {tt : TT} {t : DB} {ta : TA} {tv : TE} {k : DA} {e : DT} (hi : RfI K cl W wi it) (hg : RfG K cl js g d) (hn : NoO d) (hjs : ∀ j ∈ js, j ∈ vs)
    (ht : RfB K cl (fun _ _ _ _ => False) tt t) (hk : RfA K cl (fun _ _ _ _ => False) ta k) (he : RfE K cl (fun _ _ _ _ => False) tv e) : RfN K cl W (tDcT wi g tt (tTup ta) tv vs) (dDcT it d t k e vs) where
  mono2 := fun E E' ρ P P' hE h q => hi.mono2 E E' ρ _ _ hE (fun xs q => dcTL_mono hg ht hk he xs _ _ _ _ (fun r q => h _ q) q) q
  ok := fun F0 H0 F H σ ρ E Q hh le q => by
    refine hi.ok F0 H0 F H σ ρ E _ hh le (hi.mono E ρ _ _ (fun xs q J F1 H1 g1 wk D0 hD => ?_) q)
    have hh1 := hh.grow g1
    have hb := hh1.wipe (vs := vs)
    have hF1 : F1 D0 = none := g1.s.free hD
    have leN : ∀ {A B : Hp}, LinkE K cl A B (fun _ _ _ _ => False) noE := fun {A B} err ρ σ F H c dx _ z _ => z.elim
    let In : Nat → Hp → Prop := fun i H => ∃ F ws acc, Hold K cl F1 H1 F H (wipe σ vs) (noOwn (wipeE ρ vs)) ∧ F D0 = none ∧ H D0 = some (.dT ws) ∧ TReps K cl F ws acc ∧
      dcTL d t k e (noOwn (wipeE ρ vs)) (xs.drop i) acc (fun r => ∀ p F' H', Gr F1 H1 F' H' → H1 p = none → F' p = none → Own K cl F' H' p (.dt r) → Q (.ref p) H')
    refine ⟨fun i m H => m = xs.length - i ∧ i ≤ xs.length ∧ In i H, ⟨xs.length, by simp, Nat.zero_le _, F1, [], [], hb.list (fun i d => noOwn_o i d) hF1 hD (.free hD), hF1, upd_same, .nil, ?_⟩, ?_⟩
    · exact dcTL_mono hg ht hk he _ _ _ _ _ (fun r q p F' H' g2 h1 h2 h3 => q p F' H' (g1.trans g2) (g1.k.free h1) h2 h3) q
    · rintro i m H2 ⟨rfl, hi2, F2, ws, acc, h2, hF2, hD2, ra, q2⟩
      have w2 := wk F2 H2 h2.g.f h2.g.s
      by_cases hlt : i < xs.length
      · have ed : xs.drop i = xs[i] :: xs.drop (i + 1) := List.drop_eq_getElem_cons hlt
        rw [ed] at q2
        obtain ⟨wg, wy⟩ := w2.2 i xs[i] (List.getElem?_eq_getElem hlt)
        refine .inr ⟨wg, fun H' => In (i + 1) H', fun H' z => ⟨xs.length - (i + 1), by omega, rfl, hlt, z⟩, fun x H3 hy => ?_⟩
        obtain ⟨F3, g3, r3⟩ := wy x H3 hy
        have h3 := h2.grow g3
        have n3 : F3 D0 = none := g3.keepNone hD2 hF2
        refine hg.ok F1 H1 F3 H3 _ _ x xs[i] _ h3 r3 (hg.mono _ _ _ _ (fun ρ4 q4 σ4 h4 ag => ?_) (hn.k _ _ _ (fun i d => noOwn_o i d) q2))
        obtain ⟨no4, q4⟩ := q4
        refine ⟨(wipe_same ag hjs).trans (wipe_same (vs := vs) (js := vs) (σ := σ) (σ' := wipe σ vs) ⟨wipe_length _ _, fun i hi => wipe_out hi⟩ (fun j hj => hj)), ?_⟩
        refine ht.ok F1 H1 F3 H3 σ4 ρ4 noE _ h4 leN (ht.mono noE ρ4 _ _ (fun b q F4 H4 g4 => ?_) q4)
        have n4 : F4 D0 = none := g4.keepNone (g3.k.get hD2) n3
        have e4 : H4 D0 = some (.dT ws) := g4.k.get (g3.k.get hD2)
        cases b with
        | false => exact ⟨F4, ws, acc, h3.grow g4, n4, e4, (ra.mono g3.f).mono g4.f, q⟩
        | true =>
          refine hk.ok F1 H1 F4 H4 σ4 ρ4 noE _ (h4.grow g4) leN (hk.mono noE ρ4 _ _ (fun ds q us F5 H5 g5 r5 => ?_) q)
          obtain ⟨q0, q⟩ := q
          refine ⟨by rw [r5.length, ← line_eq]; exact q0, fun b hb => ?_⟩
          have n5 : F5 D0 = none := g5.keepNone e4 n4
          have e5 : H5 D0 = some (.dT ws) := g5.k.get e4
          have g5' : Gr F5 H5 (upd F5 b (.tup us)) (upd H5 b (.tup us)) := Gr.new g5.s hb
          have e5' := g5'.k.get e5
          have n5' := g5'.keepNone e5 n5
          refine he.ok F1 H1 _ _ σ4 ρ4 noE _ (((h4.grow g4).grow g5).grow g5') leN (he.mono noE ρ4 _ _ (fun z q u F6 H6 g6 r6 => ?_) q)
          obtain ⟨ks, ek, q1, q3⟩ := gKs_out q
          have n6 : F6 D0 = none := g6.keepNone e5' n5'
          have e6 : H6 D0 = some (.dT ws) := g6.k.get e5'
          have eu := keys_v ek r5
          have ra6 := ((((ra.mono g3.f).mono g4.f).mono g5.f).mono g5'.f).mono g6.f
          have eb : H6 b = some (.tup (ks.map kV)) := by
            rw [← eu]
            exact g6.k.get upd_same
          refine ⟨ws, ks, b, rfl, eb, e6, by rw [TReps.len ra6]; exact small_line q1, F6, _, _, (((h3.grow g4).grow g5).grow g5').grow g6 |>.list (fun i d => noOwn_o i d) n6 hD (.at e6), n6, upd_same, ra6.put ks r6, q3⟩
      · have e : i = xs.length := by omega
        subst e
        rw [List.drop_length] at q2
        exact .inl ⟨w2.1, q2 D0 F2 H2 h2.g hD hF2 ⟨ws, hD2, ra⟩⟩
/-! update -/
theorem near_out {k : List DL.Key} (h : near20 k = true) : ∃ a b : Int, k = [.inl a, .inl b] ∧ (0 ≤ a ∧ a < 20) ∧ 0 ≤ b ∧ b < 20 := by
  match k, h with
  | [.inl a, .inl b], h =>
    simp only [near20, Bool.and_eq_true, decide_eq_true_eq] at h
    exact ⟨a, b, rfl, ⟨h.1.1.1, h.1.1.2⟩, h.1.2, h.2⟩
theorem nodup_on {α β : Type} {f : α → β} : ∀ {l : List α}, (∀ x ∈ l, ∀ y ∈ l, f x = f y → x = y) → l.Nodup → (l.map f).Nodup
  | [], _, _ => List.nodup_nil
  | x :: r, h, nd => by
    obtain ⟨n1, n2⟩ := List.nodup_cons.mp nd
    rw [List.map_cons]
    refine List.nodup_cons.mpr ⟨fun hx => ?_, nodup_on (fun a ha b hb => h a (by simp [ha]) b (by simp [hb])) n2⟩
    obtain ⟨y, hy, e⟩ := List.mem_map.mp hx
    have := h y (by simp [hy]) x (by simp) e
    rw [this] at hy
    exact n1 hy
theorem apart_keys {P : Program} {w : World} {ws : List (List L2.Key × V)} (h : ∀ p ∈ ws, near20 p.1 = true) (nd : (ws.map (·.1)).Nodup) : (ws.map fun p => tupleKeyHash (mixKind P w) p.1).Nodup := by
  have := nodup_on (f := fun k => tupleKeyHash (mixKind P w) k) (l := ws.map (·.1)) (fun x hx y hy e => ?_) nd
  · rw [List.map_map] at this
    exact this
  · obtain ⟨p, hp, rfl⟩ := List.mem_map.mp hx
    obtain ⟨q, hq, rfl⟩ := List.mem_map.mp hy
    obtain ⟨a, b, e1, a1, b1⟩ := near_out (h p hp)
    obtain ⟨c, d, e2, c1, d1⟩ := near_out (h q hq)
    rw [e1, e2] at e ⊢
    obtain ⟨z1, z2⟩ := hash_pair a1 b1 c1 d1 e
    rw [z1, z2]
theorem TReps.near {F : Hp} {ws : List (List L2.Key × V)} {kvs : List (List DL.Key × D)} (r : TReps K cl F ws kvs) (h : ∀ p ∈ kvs, near20 p.1 = true) : ∀ p ∈ ws, near20 p.1 = true := by
  intro p hp
  have : p.1 ∈ kvs.map (·.1) := by
    rw [← TReps.keys r]
    exact List.mem_map_of_mem hp
  obtain ⟨q, hq, e⟩ := List.mem_map.mp this
  rw [← e]
  exact h q hq
theorem gDt_out {d : D} {Q : List (List DL.Key × D) → Prop} (h : gDt d Q) : ∃ kvs, d = .dt kvs ∧ Q kvs := by
  unfold gDt at h
  split at h
  · exact ⟨_, rfl, h⟩
  · exact h.elim
theorem rfs_updT {i : Nat} {P : Program} {w : World} {te : TE} {t : DT} (ht : RfN K cl W te t) : RfS K cl W (tDrop (tBM K "dict" (rUpdT w P) (tVar i) (tCons te tNil))) (sUpdT i t) where
  mono2 := fun E E' A B ρ hE l q => by
    obtain ⟨xs, e, q⟩ := gOT_out q
    refine gOT_in e (ht.mono2 E E' ρ _ _ hE (fun d q => ?_) q)
    obtain ⟨more, rfl, q1, q2, q3⟩ := gDt_out q
    exact ⟨q1, q2, l.nx _ q3⟩
  ok := fun F0 H0 F H σ ρ E B A hh le ld q => by
    obtain ⟨xs, e, q⟩ := gOT_out q
    obtain ⟨a, ea, n0, nf, ws, ho, rr⟩ := hh.ownAt e
    refine ⟨.ref a, ea, .inr (.inr (.inl ⟨rfl, .inr ⟨ws, ho⟩⟩)), ?_⟩
    refine ht.ok F0 H0 F H σ ρ E _ hh le (ht.mono E ρ _ _ (fun d q p F1 H1 g1 hp fp ow => ?_) q)
    obtain ⟨more, rfl, q1, q2, q3⟩ := gDt_out q
    obtain ⟨us, hu, ru⟩ := ow
    have e1 := g1.k.get ho
    have ne : a ≠ p := by
      rintro rfl
      rw [ho] at hp
      cases hp
    refine ⟨a, p, ws, us, rfl, rfl, e1, hu, ne, ?_, ?_, ?_⟩
    · rcases q1 with z | ⟨z1, z2⟩
      · left
        intro w
        have := TReps.len rr
        rw [w] at this
        exact z (List.length_eq_zero_iff.mp this.symm)
      · right
        exact apart_keys (TReps.near ru z1) (by rw [TReps.keys ru]; exact z2)
    · rw [TReps.len rr, TReps.len ru]
      exact Nat.le_of_lt (small_line q2)
    · exact ld.nx _ _ _ _ ((hh.grow g1).mut (d' := .dt (mergeDT xs more)) ea e ⟨mergeT ws us, upd_same, TReps.merge ru (rr.mono g1.f)⟩) q3
end
section
variable {X : Cx} {K : Fg} {cl : Cl} {W : WX} {pos : Pos}
theorem vn_newT (hK : X.K = K := by rfl) : VN X K cl W (.Dict [] [] pos) tDNewT dNewT := by
  obtain rfl := hK
  exact ⟨pe_dnewT, rfn_newT, rfl⟩
theorem bi_lenT (hK : X.K = K := by rfl) : Bi X K cl (.builtin "len") rLenT fLenT := by
  obtain rfl := hK
  exact ⟨call_len_dT, rf_lenT, rfl⟩
theorem vn_dcT {js : List Nat} {ks : List Expr} {kp : Pos} {kc} {vx tg iter : Expr} {ifs : List Expr} {scope : Scope} {own : List (Str × Nat)} {vs : List Nat} {wi : TI} {it : DI} {g : TG} {d : DG} {tt : TT} {t : DB} {ta : TA} {tv : TE} {k : DA} {e : DT} (hu : X.A.units + 65 < cLine) (hc : X.calm = true) (hN : X.N.Nodup) (hi : VI X K cl W tg iter wi it) (ok : BlkOk X.N X.env.scope scope own)
    (hg : ∀ (s : Shared) (H : Hp) (C : Addr) (l : List (Str × Addr)) (fp : List Addr), VT (X.blk s H scope (compEnvC scope l C X.env) fp) K cl js tg g d) (ht : ∀ (s : Shared) (H : Hp) (C : Addr) (l : List (Str × Addr)) (fp : List Addr), VP (X.blk s H scope (compEnvC scope l C X.env) fp) K cl (fun _ _ _ _ => False) ifs tt t)
    (hk : ∀ (s : Shared) (H : Hp) (C : Addr) (l : List (Str × Addr)) (fp : List Addr), VA (X.blk s H scope (compEnvC scope l C X.env) fp) K cl (fun _ _ _ _ => False) ks ta k) (he : ∀ (s : Shared) (H : Hp) (C : Addr) (l : List (Str × Addr)) (fp : List Addr), VE (X.blk s H scope (compEnvC scope l C X.env) fp) K cl (fun _ _ _ _ => False) vx tv e)
    (hvs : own.map (·.2) = vs := by rfl) (hjs : ∀ j ∈ js, j ∈ own.map (·.2) := by decide) (hs : ∀ x, foldedSetIterable iter X.env x = pure x := by intro _; rfl) :
    VN X K cl W (.DictComp (.Tuple ks kc kp) vx [⟨tg, iter, ifs, 0⟩] scope pos) (tDcT wi g tt (tTup ta) tv vs) (dDcT it d t k e vs) := by
  obtain rfl := hi.hK
  exact hvs ▸ ⟨pe_dcT (by omega) hc hN hi.pe ok (fun s H C l fp => (hg s H C l fp).pe) (fun s H C l fp => (ht s H C l fp).pe) (fun s H C l fp => pe_tup (hk s H C l fp).pe) (fun s H C l fp => (he s H C l fp).pe) hs,
    rfn_dcT hi.rf (hg X.s_0 X.H_0 0 [] []).rf (hg X.s_0 X.H_0 0 [] []).no hjs (ht X.s_0 X.H_0 0 [] []).rf (hk X.s_0 X.H_0 0 [] []).rf (he X.s_0 X.H_0 0 [] []).rf, rfl⟩
theorem vs_putT {i : Nat} {x : Str} {p1 p2 kp : Pos} {kc} {ks : List Expr} {b : Expr} {ta : TA} {tb : TE} {p : DA} {q : DT} (hu : X.A.units + 65 < cLine) (ha : VA X K cl W ks ta p) (hb : VE X K cl W b tb q) (hN : X.N[i]? = some x := by rfl) (hv : Vis X.env.scope x := by first | exact Or.inl rfl | exact Or.inr (Or.inl rfl) | exact Or.inr (Or.inr rfl)) (hd : (x == ("__debug__" : Str)) = false := by decide)
    (hcd : (x == ("__classdict__" : Str)) = false := by decide) (hs : swapsWith b (some (.Subscript (.Name x p1) (.Tuple ks kc kp) p2)) pos.line X.env = pure false := by rfl) :
    VS X K cl W (.Assign [.Subscript (.Name x p1) (.Tuple ks kc kp) p2] b pos) (sDPut (tVar i) (tTup ta) tb) (sPutT i p q) := by
  obtain rfl := ha.hK
  exact ⟨ps_dput (by omega) (pe_var hN hv hd hcd) (pe_tup ha.pe) hb.pe hs, rfs_putT ha.rf hb.rf, rfl⟩
theorem vs_updT {i : Nat} {x : Str} {e : Expr} {te : TE} {t : DT} {p1 apos cpos : Pos} (hu : X.A.units + 65 < cLine) (he : VN X K cl W e te t) (hN : X.N[i]? = some x := by rfl)
    (hv : Vis X.env.scope x := by first | exact Or.inl rfl | exact Or.inr (Or.inl rfl) | exact Or.inr (Or.inr rfl)) (hd : (x == ("__debug__" : Str)) = false := by decide)
    (hcd : (x == ("__classdict__" : Str)) = false := by decide) (hs1 : starEach [e] X.env = (false, eval e X.env) :: starEach [] X.env := by rfl)
    (hbase : attributeBase (.Name x p1) "update" X.env (eval (.Name x p1) X.env) = eval (.Name x p1) X.env := by rfl)
    (hfew : ((backTo cpos (starEach [e] X.env)).all (fun x => !x.1) && (backToKw cpos (keywordEach [] X.env)).all (fun x => x.1.isSome)
      && decide ([e].length + ([] : List Keyword).length + (if ([] : List Keyword).isEmpty then 0 else 1) < 30)) = true := by rfl)
    (hline : (apos.endLine == cpos.line) = true := by rfl) (hplain : (backTo cpos (starEach [] X.env)).any (·.1) = false := by rfl)
    (hs : swapsWith (.Call (.Attribute (.Name x p1) "update" apos) [e] [] cpos) none pos.line X.env = pure false := by rfl) :
    VS X K cl W (.Expr (.Call (.Attribute (.Name x p1) "update" apos) [e] [] cpos) pos) (tDrop (tBM K "dict" (rUpdT X.w X.prog) (tVar i) (tCons te tNil))) (sUpdT i t) := by
  obtain rfl := he.hK
  exact ⟨ps_expr (pe_bm PySem.F.plainAttrs_dict PySem.F.slot_dict_update PySem.F.type_dict_update (mt_updT (by omega)) (pe_var hN hv hd hcd) (pa_cons he.pe pa_nil hs1) hbase hfew hline hs1 hplain) hs, rfs_updT he.rf, rfl⟩
end
end DL

set_option maxHeartbeats 400000
/-! DMinT: min and max of a tuple of ints. -/
namespace PySem
open Sem (wp)
section
variable {prog : Program} {w : World} {A : Around} {E : Value → Shared → Prop} {s : Shared} {l : Addr} {xs : Array (Int × Tok)}
/-- a tuple's iterator is laid -/
theorem tupIt_laid {h' : Heap} (hk : ∀ b o, b ∉ [s.heap.objs.size] → (s.heap.push { cls := .type "tuple_iterator", data := .fields #[.ref l, .int 0 0] }).get? b = some o → h'.get? b = some o) :
    ∀ b o, s.heap.get? b = some o → h'.get? b = some o := fun b o e => hk b o (fun z => by
  have lt := Heap.lt_size e
  rw [List.mem_singleton.mp z] at lt
  exact Nat.lt_irrefl _ lt) (Heap.get?_push_of_some _ e)
theorem tupIt_lt (ht : s.heap.IsTuple l (intItems xs)) : l < s.heap.objs.size := by
  obtain ⟨o, e, _⟩ := ht
  exact Heap.lt_size e
theorem tupIt_fp (ht : s.heap.IsTuple l (intItems xs)) (o : Obj) : ∀ b ∈ [s.heap.objs.size, l], b < (s.heap.push o).objs.size := fun b hb => by
  have lt := tupIt_lt ht
  rw [Heap.size_push]
  have : b = s.heap.objs.size ∨ b = l := by simpa using hb
  rcases this with e | e
  · rw [e]
    exact Nat.lt_succ_self _
  · rw [e]
    exact Nat.lt_succ_of_lt lt
theorem minT_ints {Q : Value → Shared → Prop} (hh : A.handled = none) (ht : s.heap.IsTuple l (intItems xs)) (hx : 0 < xs.size)
    (h : ∀ v h' tk, (intItems xs)[argBest (fun i j => decide (numAt xs i < numAt xs j)) (xs.size - 1)]? = some v → (∀ b o, s.heap.get? b = some o → h'.get? b = some o) → Q v { s with heap := h', toks := tk }) :
    wpAny (model prog w) A (call (.builtin "min") [.ref l]) Q E s :=
  call_min_walk (wpAny_pyIter_tuple ht ⟨_, [_, l], [_], _, _, _, _, rfl, Walks.tuple (A := A.in1) hh _ l (Nat.ne_of_lt (tupIt_lt ht)) (intItems xs), ⟨⟨_, Heap.get?_push_size _ rfl, rfl, rfl⟩, ht.push _⟩, tupIt_fp ht _,
    by simpa [intItems] using hx, CmpOf.ints_lt (numAt xs) (fun _ _ => intItems_at), fun v hp tk q kp => h v hp tk (by simpa [intItems] using q) (tupIt_laid kp)⟩)
theorem maxT_ints {Q : Value → Shared → Prop} (hh : A.handled = none) (ht : s.heap.IsTuple l (intItems xs)) (hx : 0 < xs.size)
    (h : ∀ v h' tk, (intItems xs)[argBest (fun i j => decide (numAt xs i > numAt xs j)) (xs.size - 1)]? = some v → (∀ b o, s.heap.get? b = some o → h'.get? b = some o) → Q v { s with heap := h', toks := tk }) :
    wpAny (model prog w) A (call (.builtin "max") [.ref l]) Q E s :=
  call_max_walk (wpAny_pyIter_tuple ht ⟨_, [_, l], [_], _, _, _, _, rfl, Walks.tuple (A := A.in1) hh _ l (Nat.ne_of_lt (tupIt_lt ht)) (intItems xs), ⟨⟨_, Heap.get?_push_size _ rfl, rfl, rfl⟩, ht.push _⟩, tupIt_fp ht _,
    by simpa [intItems] using hx, CmpOf.ints_gt (numAt xs) (fun _ _ => intItems_at), fun v hp tk q kp => h v hp tk (by simpa [intItems] using q) (tupIt_laid kp)⟩)
end
end PySem
namespace DL
open PySem L2 PyProof.Rows
variable [TN]
def rMinT (K : Fg) : List V → Hp → VK → Prop := fun vs H Q => ∃ (a : Addr) (ns : List Int), vs = [V.ref a] ∧ SqT K H a (ns.map V.int) ∧ 0 < ns.length ∧ ∀ m, m ∈ ns → (∀ y, y ∈ ns → m ≤ y) → Q (.int m) H
def rMaxT (K : Fg) : List V → Hp → VK → Prop := fun vs H Q => ∃ (a : Addr) (ns : List Int), vs = [V.ref a] ∧ SqT K H a (ns.map V.int) ∧ 0 < ns.length ∧ ∀ m, m ∈ ns → (∀ y, y ∈ ns → y ≤ m) → Q (.int m) H
theorem cr_minT {X : Cx} (hc : X.calm = true) : CallR X (.builtin "min") (rMinT X.K) := by
  intro pins s σ H vs us Q I r h
  obtain ⟨a, ns, rfl, hs, hne, q⟩ := h
  obtain ⟨its, rv, hl, _⟩ := I.tuple hs
  rw [Vals.ref1 r]
  have hi := rv.ints
  obtain ⟨xs, e⟩ := hi.allInts.items
  have hn : numsOf (intItems xs).toList = ns := by rw [← e]; exact hi.numsOf
  rw [nums_intItems] at hn
  rw [e] at hl
  subst hn
  have hx : 0 < xs.size := by simpa using hne
  refine minT_ints (I.ok.hd hc) hl hx fun v hp tk hv kp => ?_
  obtain ⟨t, rfl⟩ := intItems_at hv
  obtain ⟨h1, h2⟩ := argBest_lt (numAt xs) (xs.size - 1)
  refine ⟨.int _, H, I.kept kp, ⟨_, rfl⟩, q _ ?_ fun y hy => ?_⟩
  · rw [numAt_eq]
    exact PySem.getD_mem (by rw [List.length_map, Array.length_toList]; omega)
  · obtain ⟨j, hj, rfl⟩ := mem_getD hy
    rw [List.length_map, Array.length_toList] at hj
    rw [← numAt_eq]
    exact h2 j (by omega)
theorem cr_maxT {X : Cx} (hc : X.calm = true) : CallR X (.builtin "max") (rMaxT X.K) := by
  intro pins s σ H vs us Q I r h
  obtain ⟨a, ns, rfl, hs, hne, q⟩ := h
  obtain ⟨its, rv, hl, _⟩ := I.tuple hs
  rw [Vals.ref1 r]
  have hi := rv.ints
  obtain ⟨xs, e⟩ := hi.allInts.items
  have hn : numsOf (intItems xs).toList = ns := by rw [← e]; exact hi.numsOf
  rw [nums_intItems] at hn
  rw [e] at hl
  subst hn
  have hx : 0 < xs.size := by simpa using hne
  refine maxT_ints (I.ok.hd hc) hl hx fun v hp tk hv kp => ?_
  obtain ⟨t, rfl⟩ := intItems_at hv
  obtain ⟨h1, h2⟩ := argBest_gt (numAt xs) (xs.size - 1)
  refine ⟨.int _, H, I.kept kp, ⟨_, rfl⟩, q _ ?_ fun y hy => ?_⟩
  · rw [numAt_eq]
    exact PySem.getD_mem (by rw [List.length_map, Array.length_toList]; omega)
  · obtain ⟨j, hj, rfl⟩ := mem_getD hy
    rw [List.length_map, Array.length_toList] at hj
    rw [← numAt_eq]
    exact h2 j (by omega)
section
variable {X : Cx} {K : Fg} {cl : Cl}
theorem rf_minT : RfC K cl (rMinT K) fMinT where
  mono := fun x P P' h q => by
    match x, q with
    | [.tup l], q =>
      simp only [fMinT] at q ⊢
      cases e : intsOf l with
      | none => rw [e] at q; exact q.elim
      | some ns => rw [e] at q; exact ⟨q.1, fun m h1 h2 => h _ (q.2 m h1 h2)⟩
  ok := fun F H v x Q s r q => by
    match x, q, r with
    | [.tup l], q, .cons (.tup e rr) .nil =>
      simp only [fMinT] at q
      cases e1 : intsOf l with
      | none => rw [e1] at q; exact q.elim
      | some ns =>
        rw [e1] at q
        have ev := ints_reps e1 rr
        subst ev
        exact ⟨_, ns, rfl, same_t s e, List.length_pos_iff.mpr q.1, fun m h1 h2 => q.2 m h1 h2 _ F H (Gr.refl s) (.int _)⟩
theorem rf_maxT : RfC K cl (rMaxT K) fMaxT where
  mono := fun x P P' h q => by
    match x, q with
    | [.tup l], q =>
      simp only [fMaxT] at q ⊢
      cases e : intsOf l with
      | none => rw [e] at q; exact q.elim
      | some ns => rw [e] at q; exact ⟨q.1, fun m h1 h2 => h _ (q.2 m h1 h2)⟩
  ok := fun F H v x Q s r q => by
    match x, q, r with
    | [.tup l], q, .cons (.tup e rr) .nil =>
      simp only [fMaxT] at q
      cases e1 : intsOf l with
      | none => rw [e1] at q; exact q.elim
      | some ns =>
        rw [e1] at q
        have ev := ints_reps e1 rr
        subst ev
        exact ⟨_, ns, rfl, same_t s e, List.length_pos_iff.mpr q.1, fun m h1 h2 => q.2 m h1 h2 _ F H (Gr.refl s) (.int _)⟩
theorem bi_minT (hc : X.calm = true) (hK : X.K = K := by rfl) : Bi X K cl (.builtin "min") (rMinT K) fMinT := by
  obtain rfl := hK
  exact ⟨cr_minT hc, rf_minT, rfl⟩
theorem bi_maxT (hc : X.calm = true) (hK : X.K = K := by rfl) : Bi X K cl (.builtin "max") (rMaxT K) fMaxT := by
  obtain rfl := hK
  exact ⟨cr_maxT hc, rf_maxT, rfl⟩
end
end DL

/-! DIsB: is and is not of two truth values. -/
namespace DL
open PySem L2 PyProof.Rows
variable [TN]
section
variable {X : Cx} {K : Fg} {cl : Cl}
theorem rf_isB : RfOp K cl rIsB oIsB where
  mono := fun x y P P' h q => by
    match x, y, q with
    | .bl a, .bl b, q => exact h _ q
  ok := fun F H v u x y Q s rx ry q => by
    match x, y, q, rx, ry with
    | .bl a, .bl b, q, .bl _, .bl _ => exact ⟨a, b, rfl, rfl, q _ F H (Gr.refl s) (.bl _)⟩
theorem rf_notB : RfOp K cl rNotB oNotB where
  mono := fun x y P P' h q => by
    match x, y, q with
    | .bl a, .bl b, q => exact h _ q
  ok := fun F H v u x y Q s rx ry q => by
    match x, y, q, rx, ry with
    | .bl a, .bl b, q, .bl _, .bl _ => exact ⟨a, b, rfl, rfl, q _ F H (Gr.refl s) (.bl _)⟩
theorem cm_isB (hu : X.A.units + 65 < cLine) (hK : X.K = K := by rfl) : Cm X K cl .Is rIsB oIsB := by
  obtain rfl := hK
  exact ⟨op_isBl, rf_isB, rfl⟩
theorem cm_notB (hu : X.A.units + 65 < cLine) (hK : X.K = K := by rfl) : Cm X K cl .IsNot rNotB oNotB := by
  obtain rfl := hK
  exact ⟨op_notBl, rf_notB, rfl⟩
end
end DL

/-! DTryE: except C as e: return what is said of e. -/
namespace DL
open PySem L2 PyProof.Rows
variable [TN]
/-- an exception's dict tells its fields -/
def XdR (K : Fg) (cl : Cl) (F : Hp) (dx : Option Addr) (e : Err) : Prop := match dx with
  | none => e.fs = []
  | some d => ∃ ws, F d = some (.xd ws) ∧ FReps K cl F ws e.fs
/-- what is said of an exception at a, told by σ[i] -/
structure RfX (K : Fg) (cl : Cl) (i : Nat) (C : Addr) (th : Addr → Value → Option Addr → TE) (R : Err → DK → Prop) : Prop where
  mono : ∀ e (P P' : DK), (∀ d, P d → P' d) → R e P → R e P'
  ok : ∀ (F H : Hp) (σ : L2.St) (a : Addr) (dx : Option Addr) (e : Err) (Q : VK), Same F H → σ[i]? = some (some (.ref a)) → XdR K cl F dx e → R e (fun y => ∀ v F' H', Gr F H F' H' → Rep K cl F' v y → Q v H') → th a (.ref C) dx σ H Q
structure RfXA (K : Fg) (cl : Cl) (i : Nat) (C : Addr) (th : Addr → Value → Option Addr → TA) (R : Err → (List D → Prop) → Prop) : Prop where
  mono : ∀ e (P P' : List D → Prop), (∀ d, P d → P' d) → R e P → R e P'
  ok : ∀ (F H : Hp) (σ : L2.St) (a : Addr) (dx : Option Addr) (e : Err) (Q : List V → Hp → Prop), Same F H → σ[i]? = some (some (.ref a)) → XdR K cl F dx e → R e (fun ys => ∀ vs F' H', Gr F H F' H' → Reps K cl F' vs ys → Q vs H') → th a (.ref C) dx σ H Q
theorem xd_grow {K : Fg} {cl : Cl} {F F' : Hp} {dx : Option Addr} {e : Err} (f : Same F F') (h : XdR K cl F dx e) : XdR K cl F' dx e := by
  cases dx with
  | none => exact h
  | some d =>
    obtain ⟨ws, h1, h2⟩ := h
    exact ⟨ws, f _ _ h1, h2.mono f⟩
section
variable {K : Fg} {cl : Cl} {i : Nat} {C : Addr}
theorem rx_fld {f : Str} : RfX K cl i C (fun a v d => tXf a v d C f (tVar i)) (xFld f) where
  mono := fun e P P' h q => by
    simp only [xFld] at q ⊢
    cases z : e.fs.lookup f with
    | none => rw [z] at q; exact q
    | some d => rw [z] at q; exact h d q
  ok := fun F H σ a dx e Q s hi hx q => by
    refine ⟨.ref a, hi, rfl, rfl, ?_⟩
    simp only [xFld] at q
    cases dx with
    | none =>
      have hx : e.fs = [] := hx
      rw [hx] at q
      exact q.elim
    | some d =>
      obtain ⟨ws, h1, h2⟩ := hx
      rcases h2.look f with ⟨z, _⟩ | ⟨v, y, z1, z2, z3⟩
      · rw [z] at q; exact q.elim
      · rw [z1] at q
        exact ⟨d, ws, v, rfl, s _ _ h1, z2, q v F H (Gr.refl s) z3⟩
theorem rx_c {x : V} {d : D} (h : ∀ F, Rep K cl F x d) : RfX K cl i C (fun _ _ _ => tC x) (xC d) where
  mono := fun e P P' h q => h _ q
  ok := fun F H σ a dx e Q s hi hx q => q x F H (Gr.refl s) (h F)
theorem rx_nil : RfXA K cl i C (fun _ _ _ => tNil) xNil where
  mono := fun e P P' h q => h _ q
  ok := fun F H σ a dx e Q s hi hx q => q [] F H (Gr.refl s) .nil
theorem rx_cons {ta : Addr → Value → Option Addr → TE} {tr : Addr → Value → Option Addr → TA} {p : Err → DK → Prop} {r : Err → (List D → Prop) → Prop} (ha : RfX K cl i C ta p) (hr : RfXA K cl i C tr r) : RfXA K cl i C (fun a v d => tCons (ta a v d) (tr a v d)) (xCons p r) where
  mono := fun e P P' h q => ha.mono e _ _ (fun x q => hr.mono e _ _ (fun xs q => h _ q) q) q
  ok := fun F H σ a dx e Q s hi hx q => by
    refine ha.ok F H σ a dx e _ s hi hx (ha.mono e _ _ (fun x q v F1 H1 g1 r1 => ?_) q)
    refine hr.ok F1 H1 σ a dx e _ g1.s hi (xd_grow g1.f hx) (hr.mono e _ _ (fun xs q vs F2 H2 g2 r2 => ?_) q)
    exact q _ F2 H2 (g1.trans g2) (.cons (r1.mono g2.f) r2)
theorem rx_tup {tr : Addr → Value → Option Addr → TA} {r : Err → (List D → Prop) → Prop} (hr : RfXA K cl i C tr r) : RfX K cl i C (fun a v d => tTup (tr a v d)) (xTup r) where
  mono := fun e P P' h q => hr.mono e _ _ (fun xs q => ⟨q.1, h _ q.2⟩) q
  ok := fun F H σ a dx e Q s hi hx q => by
    refine hr.ok F H σ a dx e _ s hi hx (hr.mono e _ _ (fun xs q vs F1 H1 g1 r1 => ?_) q)
    refine ⟨by rw [r1.length, ← line_eq]; exact q.1, fun p hp => ?_⟩
    exact q.2 _ (upd F1 p (.tup vs)) _ (g1.trans (Gr.new g1.s hp)) (.tup (SqT.of upd_same) (r1.mono (same_upd (g1.s.free hp))))
theorem rx_op {ta tb : Addr → Value → Option Addr → TE} {p q : Err → DK → Prop} {r : R2} {f : D → D → DK → Prop} (o : RfOp K cl r f) (ha : RfX K cl i C ta p) (hb : RfX K cl i C tb q) : RfX K cl i C (fun a v d => tOp r (ta a v d) (tb a v d)) (xOp f p q) where
  mono := fun e P P' h z => ha.mono e _ _ (fun x z => hb.mono e _ _ (fun y z => o.mono x y _ _ h z) z) z
  ok := fun F H σ a dx e Q s hi hx z => by
    refine ha.ok F H σ a dx e _ s hi hx (ha.mono e _ _ (fun x z v F1 H1 g1 r1 => ?_) z)
    refine hb.ok F1 H1 σ a dx e _ g1.s hi (xd_grow g1.f hx) (hb.mono e _ _ (fun y z u F2 H2 g2 r2 => ?_) z)
    exact o.ok F2 H2 v u x y Q g2.s (r1.mono g2.f) r2 (o.mono x y _ _ (fun d z w F3 H3 g3 r3 => z w F3 H3 ((g1.trans g2).trans g3) r3) z)
theorem rfs_tryE {m : String} {os : List String} {W : WX} {th : Addr → Value → Option Addr → TE} {R : Err → DK → Prop} {tb : WX → TS} {b : DS} (hC : cl.nm m = some C) (hms : PySem.W.exmOne K (.ref C) (.ref C) = some true) (hos : ∀ m ∈ os, ∀ D, cl.nm m = some D → PySem.W.exmOne K (.ref D) (.ref C) = some false) (hf : cl.fr = false)
    (hR : RfX K cl i C th R) (hb : ∀ W : WX, RfS K cl W (tb W) b) : RfS K cl W (fun D σ H => tb (wAs K (.ref C) i (fun a v d => tRet (th a v d)) W D) D σ H) (sTryE m os i R b) where
  mono2 := fun E E' A B ρ hE l q => (hb W).mono2 _ _ A B ρ (fun e ρ' q => by
    have q : if e.cls = m then i < ρ'.length ∧ R e A.rt else e.cls ∈ os ∧ E e ρ' := q
    show if e.cls = m then i < ρ'.length ∧ R e B.rt else e.cls ∈ os ∧ E' e ρ'
    split
    · rename_i h
      rw [if_pos h] at q
      exact ⟨q.1, hR.mono e _ _ l.rt q.2⟩
    · rename_i h
      rw [if_neg h] at q
      exact ⟨q.1, hE _ _ q.2⟩) l q
  ok := fun F0 H0 F H σ ρ E B A hh le ld q => by
    refine (hb _).ok F0 H0 F H σ ρ _ B A hh (fun err ρ' σ' F' H' v dx h' q re => ?_) ld q
    have q : if err.cls = m then i < ρ'.length ∧ R err B.rt else err.cls ∈ os ∧ E err ρ' := q
    obtain ⟨C', n, rfl, hx⟩ := id re
    by_cases hm : err.cls = m
    · rw [if_pos hm] at q
      obtain ⟨qi, q⟩ := q
      rw [hm, hC] at n
      cases n
      refine ⟨true, hms, fun _ a ha => ?_, fun z => by cases z⟩
      refine hR.ok F' H' _ a dx err _ h'.g.s (List.getElem?_set_self (by rw [h'.len]; exact qi)) hx (hR.mono err _ _ (fun y q v F2 H2 g2 r2 => ?_) q)
      exact ld.rt F2 H2 v y (h'.g.trans g2) (fun _ => r2) (fun z => by rw [hf] at z; cases z) q
    · rw [if_neg hm] at q
      exact ⟨false, hos _ q.1 C' n, (fun z => by cases z), fun _ => le _ ρ' σ' F' H' _ dx h' q.2 re⟩
end
section
variable {X : Cx} {K : Fg} {cl : Cl} {W : WX}
/-- what is said of an exception: syntax, reading, words -/
structure VX (X : Cx) (K : Fg) (cl : Cl) (i : Nat) (C : Addr) (e : Expr) (th : Addr → Value → Option Addr → TE) (R : Err → DK → Prop) : Prop where
  pe : ∀ (a : Addr) (oe : Obj) (v : Value) (d : Option Addr) (pn : List (Addr × Obj)), Zc v d oe → (∃ vs, oe.data = .fields vs) → PE (X.suite a ((a, oe) :: pn)) e (th a v d)
  rf : RfX K cl i C th R
structure VXA (X : Cx) (K : Fg) (cl : Cl) (i : Nat) (C : Addr) (e : List Expr) (th : Addr → Value → Option Addr → TA) (R : Err → (List D → Prop) → Prop) : Prop where
  pe : ∀ (a : Addr) (oe : Obj) (v : Value) (d : Option Addr) (pn : List (Addr × Obj)), Zc v d oe → (∃ vs, oe.data = .fields vs) → PA (X.suite a ((a, oe) :: pn)) e (th a v d)
  rf : RfXA K cl i C th R
variable {i : Nat} {C : Addr}
theorem vx_fld {n f : Str} {np pos : Pos} (hi : X.N[i]? = some n) (hln : X.env.kindOf n = some .local) (T : XfC X.K C) (hno : PySem.W.findIn X.K (.ref C) f = some none) (hdb : (n == ("__debug__" : Str)) = false := by decide) (hcd : (n == ("__classdict__" : Str)) = false := by decide)
    (hab : attributeBase (.Name n np) f X.env (eval (.Name n np) X.env) = eval (.Name n np) X.env := by rfl) : VX X K cl i C (.Attribute (.Name n np) f pos) (fun a v d => tXf a v d C f (tVar i)) (xFld f) :=
  ⟨fun a oe v d pn hz hv => pe_xf T hno hz hv (pe_var hi (.inl hln) hdb hcd) hab, rx_fld⟩
theorem vx_str {x : Str} {j : Nat} {pos : Pos} : VX X K cl i C (.Constant (.str x) j pos) (fun _ _ _ => tC (.str x)) (xC (.str x)) := ⟨fun a oe v d pn hz hv => pe_str, rx_c fun _ => .str _⟩
theorem vx_nil : VXA X K cl i C [] (fun _ _ _ => tNil) xNil := ⟨fun a oe v d pn hz hv => pa_nil, rx_nil⟩
theorem vx_cons {e : Expr} {es : List Expr} {ta : Addr → Value → Option Addr → TE} {tr : Addr → Value → Option Addr → TA} {p : Err → DK → Prop} {r : Err → (List D → Prop) → Prop} (ha : VX X K cl i C e ta p) (hr : VXA X K cl i C es tr r) (hs : starEach (e :: es) X.env = (false, eval e X.env) :: starEach es X.env := by rfl) :
    VXA X K cl i C (e :: es) (fun a v d => tCons (ta a v d) (tr a v d)) (xCons p r) := ⟨fun a oe v d pn hz hv => pa_cons (ha.pe a oe v d pn hz hv) (hr.pe a oe v d pn hz hv) hs, rx_cons ha.rf hr.rf⟩
theorem vx_tup {es : List Expr} {x1} {pos : Pos} {tr : Addr → Value → Option Addr → TA} {r : Err → (List D → Prop) → Prop} (h : VXA X K cl i C es tr r) : VX X K cl i C (.Tuple es x1 pos) (fun a v d => tTup (tr a v d)) (xTup r) := ⟨fun a oe v d pn hz hv => pe_tup (h.pe a oe v d pn hz hv), rx_tup h.rf⟩
theorem vs_tryE {m : String} {os : List String} {n x : Str} {hx : Expr} {body : List Stmt} {np pr pos pos' : Pos} {th : Addr → Value → Option Addr → TE} {R : Err → DK → Prop} {tb : WX → TS} {b : DS} (hs : X.stack = X.env :: X.outer) (hf : X.env.frame = some X.env.locals) (hN : X.N.Nodup) (hi : X.N[i]? = some n) (hln : X.env.kindOf n = some .local) (hc : Names X x (.ref C)) (tk : Takes X W)
    (hC : cl.nm m = some C) (hms : PySem.W.exmOne K (.ref C) (.ref C) = some true) (hos : ∀ m ∈ os, ∀ D, cl.nm m = some D → PySem.W.exmOne K (.ref D) (.ref C) = some false) (hfr : cl.fr = false)
    (hR : VX X K cl i C hx th R)
    (hb : ∀ (W : WX) (pn : List (Addr × Obj)) (xe : Value → Shared → Prop), Takes (X.tr pn xe) W → PassesOwn (model X.prog X.w) X.A X.env xe → VSs (X.tr pn xe) K cl W body (tb W) b) (hK : X.K = K := by rfl) :
    VS X K cl W (.Try body [.ExceptHandler (some (.Name x np)) (some n) [.Return (some hx) pr] pos'] [] [] pos) (fun D σ H => tb (wAs K (.ref C) i (fun a v d => tRet (th a v d)) W D) D σ H) (sTryE m os i R b) := by
  obtain rfl := hK
  exact ⟨ps_try_as hs hf hN hi hln hc tk (fun W pn xe t p => (hb W pn xe t p).pe) (fun a oe v d pn hz hv => pss_one (ps_ret (hR.pe a oe v d pn hz hv))), rfs_tryE hC hms hos hfr hR.rf (fun W => (any_takes hs hf W).elim fun pn z => z.elim fun xe z => (hb W pn xe z.1 z.2).rf), rfl⟩
end
end DL

/-! DCall0: a def called without arguments. -/
namespace DL
open PySem L2 PyProof.Rows
variable [TN]
section
variable {X : Cx} {K : Fg} {cl : Cl} {W : WX} {pos : Pos}
theorem ve_call0 {Wf : DF} {k : Nat} {f : Addr} {fd : FuncData} {ps : List Str} {x : Str} {p : Pos} (F : FnOk X.prog X.w X.K X.mg X.base (L2.CX X.prog X.w) k f fd ps (spD X.K cl Wf)) (hr : Room k X.A) (hg : Gl X x) (mg : X.mg x = some (.ref f)) (hk : PySem.W.keepIn X.K (.ref f) = true)
    (hb : Binds X.K fd ps []) (tk : Takes X W) (hdb : (x == ("__debug__" : Str)) = false := by decide) : VE X X.K cl W (.Call (.Name x p) [] [] pos) (tCallSD (spD X.K cl Wf) [] (fun σ => WE W σ) tNil) (dCall Wf aNil) := by
  refine ⟨⟨fun pins s σ H Q I h => ?_⟩, rfe_call0 rfa_nil, rfl⟩
  refine wpAny_Call_Name_kw (ld_glob I hg mg ?_ hdb)
  exact PySem.W.callWith_K0 I.kIn hk (run_fnSD F hr hb .nil (passAt tk σ) I .nil h)
end
end DL

set_option maxHeartbeats 3000000
/-! DLam: several clauses with a name; a lambda given to a def that calls it and tells the error; defs that make lambdas. -/
namespace DL
open PySem L2 PyProof.Rows
variable [TN]
/-! ### clauses with a name, one behind the other -/
/-- what they wish of an exception: slot j is the name's -/
def wList (K : Fg) (j : Nat) (Wo : WX) (D : Ends) : List (Value × (Addr → Value → Option Addr → TS)) → WX
  | [] => Wo
  | (c, ts) :: r => fun k d σ H => ∃ b, PySem.W.exmOne K k c = some b ∧ (b = true → ∀ a, H a = none → ts a k d { nx := fun σ' H' => D.nx (σ'.set j none) H', rt := D.rt, bk := fun σ' H' => D.bk (σ'.set j none) H', ct := fun σ' H' => D.ct (σ'.set j none) H' } (σ.set j (some (.ref a))) H) ∧ (b = false → wList K j Wo D r k d σ H)
/-- the clauses, and what their suites do -/
inductive Cls' (X : Cx) (en : Str) : List ExceptHandler → List (Value × (Addr → Value → Option Addr → TS)) → Prop
  | nil : Cls' X en [] []
  | cons {x : Str} {c : Value} {ts : Addr → Value → Option Addr → TS} {b : Stmt} {bs : List Stmt} {p q : Pos} {hds : List ExceptHandler} {l : List (Value × (Addr → Value → Option Addr → TS))} (nm : Names X x c)
      (st : ∀ (a : Addr) (ob : Obj) (k : Value) (d : Option Addr) (pn : List (Addr × Obj)), Zc k d ob → (∃ vs, ob.data = .fields vs) → PSs (X.suite a ((a, ob) :: pn)) (b :: bs) (ts a k d)) (r : Cls' X en hds l) : Cls' X en (.ExceptHandler (some (.Name x p)) (some en) (b :: bs) q :: hds) ((c, ts) :: l)
section
variable {X : Cx} {en : Str} {j : Nat} {suite : List Stmt} {h1 : ExceptHandler} {hds : List ExceptHandler} {l : List (Value × (Addr → Value → Option Addr → TS))} {pos : Pos} {tb : WX → TS} {Wo : WX}
theorem ps_clauses (sk : X.stack = X.env :: X.outer) (fr : X.env.frame = some X.env.locals) (nd : X.N.Nodup) (ix : X.N[j]? = some en) (lo : X.env.kindOf en = some .local) (tk : Takes X Wo)
    (body : ∀ (W : WX) (pn : List (Addr × Obj)) (xe : Value → Shared → Prop), Takes (X.tr pn xe) W → PassesOwn (model X.prog X.w) X.A X.env xe → PSs (X.tr pn xe) suite (tb W)) (hh : Cls' X en (h1 :: hds) l) :
    PS X (.Try suite (h1 :: hds) [] [] pos) (fun D σ H => tb (wList X.K j Wo D l) D σ H) := by
  refine ⟨fun pins s0 σ0 H0 D I0 hq0 => ?_⟩
  have okX := I0.ok
  have frA : X.A.frames = some (X.env :: X.outer) := by rw [okX.frames, sk]
  have locE : Loc X.env.scope en := .inl lo
  refine wpAny_Try_except (wpAny_mono ((body (wList X.K j Wo D l) (X.pn ++ pins) (fun e t1 => wpAny (model X.prog X.w) X.A (noteFrame e X.env) (fun _ t2 => wpAny (model X.prog X.w) X.A (setFlight e none) (fun _ t3 => wpAny (model X.prog X.w) X.A (handleBy e X.env (h1 :: hds)) (SP X pins D) X.xe t3) X.xe t2) X.xe t1)
    (fun e t raised => ?_) PassesOwn.looking).run [] s0 σ0 H0 D (I0.toTry _) hq0) (fun fl t done => ?_) (fun _ _ z => z))
  · obtain ⟨a, B, tI, pins', σ, H, k, d, rfl, Jt, nb, up, sky, na, os, ag, wish⟩ := raised
    have J : Inv X pins σ H tI := Jt.ofTry okX
    rw [sk] at sky
    change wpAny (model X.prog X.w) X.A (noteFrame (.ref a) X.env) _ _ _
    refine Sky.land Zc.steady frA fr sky fun g3 fl3 up3 => ?_
    have J3 : Inv X pins σ H { t with heap := g3 } := J.landed nb fl3.1 (up.trans up3) os ag
    obtain ⟨ob, vs, ea, ez, ed⟩ := fl3.there
    have far : a ∉ frs (X.env :: X.outer) := fun hm => by
      obtain ⟨_, ob', e', hn⟩ := fl3.2.2.1.mem hm
      cases ea.symm.trans e'
      exact hn _ ed
    have nl : a ≠ X.env.locals := fun z => far (List.mem_filterMap.mpr ⟨X.env, List.mem_cons_self, by rw [fr, z]⟩)
    have nf : a ∉ X.fs := fun hm => (List.mem_filterMap.mp hm).elim fun e ⟨he, q⟩ => far (List.mem_filterMap.mpr ⟨e, List.mem_cons_of_mem _ he, q⟩)
    have S3 := J3.suite ea ed na nl nf
    have each : ∀ {hs' : List ExceptHandler} {l' : List (Value × (Addr → Value → Option Addr → TS))}, Cls' X en hs' l' → wList X.K j Wo D l' k d σ H → wpAny (model X.prog X.w) X.A (handleBy (.ref a) X.env hs') (SP X pins D) X.xe { t with heap := g3 } := by
      intro hs' l' cl
      induction cl with
      | nil =>
        intro out
        refine wpAny_handleBy_nil ?_
        obtain ⟨_, _, _, o2, vs2, T2, oT2, ts2, he2, _, hd2, h12, _⟩ := id fl3
        unfold PySem.passOn
        refine wpAny_bind (wpAny_field he2 hd2 h12 ?_)
        rw [if_neg (show ¬ ((Value.ref T2 == Value.none) = true) by simp)]
        have last : wpAny (model X.prog X.w) X.A (setFlight (.ref a) X.env.frame) (fun _ t4 => wpAny (model X.prog X.w) X.A (throw (.ref a) : Sem Flow) (SP X pins D) X.xe t4) X.xe { t with heap := g3 } := by
          rw [fr]
          exact HandSPX.setFlight_upZ fl3 fun g4 k4 up4 => wpAny_throw (tk _ _ ⟨a, B, tI, pins, σ, H, k, d, rfl, J, nb, (up.trans up3).trans up4, .inr (.inr (by rw [sk]; exact k4)), na, os, ag, out⟩)
        first | exact wpAny_bind (wpAny_pure (wpAny_bind last)) | exact wpAny_bind last
      | @cons x c ts b bs p q hds2 l2 nm st r ih =>
        rintro ⟨yes, em, hy, hn⟩
        refine wpAny_handleBy_cons (codeAny_handlers_test ?_) (fun z => by cases z)
        have lk : PySem.W.Looks (model X.prog X.w) g3 (typeOf (.ref a)) k := fun A Q E t' kp z => wpAny_typeOf_ref (kp _ _ ea) (by rw [ez.1]; exact z)
        have cm := PySem.W.exm_one (M := model X.prog X.w) J3.kIn lk em
        have read : ∀ {Q E : Value → Shared → Prop}, Q c { t with heap := g3 } → wpAny (model X.prog X.w) (X.A.mark (some (.ref a))) (eval (.Name x p) X.env) Q E { t with heap := g3 } := fun {Q E} z => by
          obtain ⟨n1, n2, n3⟩ := nm
          rcases n3 with n3 | ⟨n3, n4, n5⟩
          · exact ld_glob (X := X.suite a ((a, ob) :: (X.pn ++ pins))) S3 n1 n3 z n2
          · exact ld_blt (X := X.suite a ((a, ob) :: (X.pn ++ pins))) S3 n1 n3 n4 z n5 n2
        refine read (cm.here ?_)
        cases yes with
        | false => exact ih (hn rfl)
        | true =>
          refine codeAny_handlers_suite_as (HandSPX.lands_againZ fl3 fun g4 fl4 up4 => ?_)
          have J4 : Inv X pins σ H { t with heap := g4 } := J.landed nb fl4.1 ((up.trans up3).trans up4) os ag
          obtain ⟨o4, v4, ea4, ez4, ed4⟩ := fl4.there
          refine store_ok (X := X.suite a ((a, o4) :: (X.pn ++ pins))) (v := .ref a) (J4.suite ea4 ed4 na nl nf) nd ix locE rfl (fun t5 S5 => ?_) (.inr lo)
          refine wpAny_mono ((st a o4 k d (X.pn ++ pins) ez4 ⟨_, ed4⟩).run [] t5 _ H _ S5 (hy rfl a na)) (fun fl t6 z => ?_) (fun _ _ z => z.elim)
          have shut : ∀ {σ6 : L2.St} {H6 : Hp} {Q : Shared → Prop}, Inv (X.suite a ((a, o4) :: (X.pn ++ pins))) [] σ6 H6 t6 → (∀ t7, Inv X pins (σ6.set j none) H6 t7 → Q t7) → wpAny (model X.prog X.w) X.A (do bindName X.env en .none; unbindBehindTheSuite X.env en q) (fun _ t7 => Q t7) X.xe t6 :=
            fun {σ6 H6 Q} S6 z => gone_ok (S6.unsuite okX) nd ix lo z
          cases fl with
          | next => exact z.elim fun _ ⟨_, S6, z6⟩ => shut S6 fun _ J7 => ⟨_, _, J7, z6⟩
          | brk => exact z.elim fun _ ⟨_, S6, z6⟩ => shut S6 fun _ J7 => ⟨_, _, J7, z6⟩
          | cont => exact z.elim fun _ ⟨_, S6, z6⟩ => shut S6 fun _ J7 => ⟨_, _, J7, z6⟩
          | ret u => exact z.elim fun _ ⟨_, _, S6, r6, z6⟩ => shut S6 fun _ J7 => ⟨_, _, _, J7, r6, z6⟩
    exact each hh wish
  · cases fl with
    | next => exact done.elim fun _ ⟨_, J', z⟩ => wpAny_execs_nil ⟨_, _, J'.ofTry okX, z⟩
    | brk => exact done.elim fun _ ⟨_, J', z⟩ => ⟨_, _, J'.ofTry okX, z⟩
    | cont => exact done.elim fun _ ⟨_, J', z⟩ => ⟨_, _, J'.ofTry okX, z⟩
    | ret u => exact done.elim fun _ ⟨_, _, J', r, z⟩ => ⟨_, _, _, J'.ofTry okX, r, z⟩
end
/-! ### f(lambda: e), where f's body is: try: call() / except A as e: return .. / except B as e: return ..; return a text -/
/-- the clauses with their words -/
inductive Tells (X : Cx) (K : Fg) (cl : Cl) (os : List String) (j : Nat) (en : Str) : List ExceptHandler → List (Value × (Addr → Value → Option Addr → TS)) → List (String × (Err → DK → Prop)) → Prop
  | nil : Tells X K cl os j en [] [] []
  | cons {x : Str} {m : String} {C : Addr} {hx : Expr} {p q pr : Pos} {th : Addr → Value → Option Addr → TE} {R : Err → DK → Prop} {hds : List ExceptHandler} {l : List (Value × (Addr → Value → Option Addr → TS))} {r : List (String × (Err → DK → Prop))}
      (nm : Names X x (.ref C)) (hC : cl.nm m = some C) (me : PySem.W.exmOne K (.ref C) (.ref C) = some true) (no : ∀ m' ∈ os, m' ≠ m → ∀ D, cl.nm m' = some D → PySem.W.exmOne K (.ref D) (.ref C) = some false) (v : VX X K cl j C hx th R) (rest : Tells X K cl os j en hds l r) :
      Tells X K cl os j en (.ExceptHandler (some (.Name x p)) (some en) [.Return (some hx) pr] q :: hds) ((.ref C, fun a v d => tRet (th a v d)) :: l) ((m, R) :: r)
theorem Tells.cls {X : Cx} {K : Fg} {cl : Cl} {os : List String} {j : Nat} {en : Str} {hds : List ExceptHandler} {l : List (Value × (Addr → Value → Option Addr → TS))} {r : List (String × (Err → DK → Prop))} (h : Tells X K cl os j en hds l r) : Cls' X en hds l := by
  induction h with
  | nil => exact .nil
  | cons nm _ _ _ v _ ih => exact .cons nm (fun a ob k d pn hz hv => pss_one (ps_ret (v.pe a ob k d pn hz hv))) ih
theorem Tells.mono {X : Cx} {K : Fg} {cl : Cl} {os : List String} {j : Nat} {en : Str} {hds : List ExceptHandler} {l : List (Value × (Addr → Value → Option Addr → TS))} {r : List (String × (Err → DK → Prop))} (h : Tells X K cl os j en hds l r) (e : Err) (P P' : DK) (hP : ∀ d, P d → P' d) : pick os r e P → pick os r e P' := by
  induction h with
  | nil => exact fun z => z.elim
  | @cons x m C hx p q pr th R hds l r nm hC me no v _ ih =>
    intro z
    unfold pick at z ⊢
    split
    · rename_i c
      rw [if_pos c] at z
      exact v.rf.mono e _ _ hP z
    · rename_i c
      rw [if_neg c] at z
      exact ⟨z.1, ih z.2⟩
/-- the clauses are right -/
theorem Tells.ok {X : Cx} {K : Fg} {cl : Cl} {os : List String} {j : Nat} {en : Str} {hds : List ExceptHandler} {l : List (Value × (Addr → Value → Option Addr → TS))} {r : List (String × (Err → DK → Prop))} (h : Tells X K cl os j en hds l r) {F H : Hp} {e : Err} {c : Value} {dx : Option Addr} {Q : VK} {D : Ends} {σ : L2.St}
    (s : Same F H) (re : RepErr K cl F c dx e) (hj : j < σ.length) (rt : D.rt = Q) (q : pick os r e fun y => ∀ v F' H', Gr F H F' H' → Rep K cl F' v y → Q v H') : wList K j (fun _ _ _ _ => False) D l c dx σ H := by
  induction h with
  | nil => exact q.elim
  | @cons x m C hx p q2 pr th R hds l r nm hC me no v _ ih =>
    obtain ⟨C', n, rfl, hx'⟩ := id re
    unfold pick at q
    by_cases hm : e.cls = m
    · rw [if_pos hm] at q
      rw [hm, hC] at n
      cases n
      refine ⟨true, me, fun _ a ha => ?_, fun z => by cases z⟩
      change th a (.ref C) dx (σ.set j (some (.ref a))) H D.rt
      rw [rt]
      exact v.rf.ok F H _ a dx e Q s (List.getElem?_set_self hj) hx' q
    · rw [if_neg hm] at q
      exact ⟨false, no _ q.1 hm C' n, (fun z => by cases z), fun _ => ih q.2⟩
/-- what the reading of the lambda is asked -/
def TCode (K : Fg) (j n : Nat) (l : List (Value × (Addr → Value → Option Addr → TS))) (z : Str) : (XK → Hp → VK → Prop) → Hp → VK → Prop := fun tl H Q =>
  tl (fun c d H' => ∀ σ : L2.St, σ.length = n → wList K j (fun _ _ _ _ => False) { nx := fun _ H' => Q (.str z) H', rt := Q } l c d σ H') H fun _ H' => Q (.str z) H'
theorem takes_len {X : Cx} {W : WX} (tk : Takes X W) : Takes X fun c d σ H => σ.length = X.N.length → W c d σ H := fun u s' ⟨a, B, sI, ps, σ, H, k, d, e, J, nb, up, sky, na, os, ag, w⟩ =>
  tk u s' ⟨a, B, sI, ps, σ, H, k, d, e, J, nb, up, sky, na, os, ag, w J.len⟩
theorem code_gives {X : Cx} {x a q en z : Str} {j i0 : Nat} {sg : Scope} {g : Addr} {cdg : Value} {Ng : List Str} {h1 : ExceptHandler} {hds : List ExceptHandler} {l : List (Value × (Addr → Value → Option Addr → TS))} {p1 p2 p3 p4 p5 p6 : Pos}
    (nd : Ng.Nodup) (h0 : ∀ f : Addr, (L2.start Ng [V.ref f])[0]? = some (some (V.ref f)))
    (ix : Ng[j]? = some en) (lo : sg.names.lookup en = some .local)
    (hh : ∀ (s : Shared) (H : Hp), Cls' (cxOf C8.CX0 X.prog X.w X.K X.mg X.base Ng x sg g cdg X.A X.stack s H C8.E0).nox en (h1 :: hds) l) :
    LamX.GivesTo X Ng x sg g cdg [.Try [.Expr (.Call (.Name a p1) [] [] p2) p3] (h1 :: hds) [] [] p4, .Return (some (.Constant (.str z) i0 p5)) p6] a q (TCode X.K j Ng.length l z) := by
  intro f c' s H Q tl act hc h
  let Z : Cx := (cxOf C8.CX0 X.prog X.w X.K X.mg X.base Ng x sg g cdg X.A X.stack s H C8.E0).nox
  have kl : Z.env.kindOf en = some .local := lo
  refine ⟨_, pss_cons (ps_clauses (X := Z) (Wo := fun _ _ _ _ => False) (j := j)
    (tb := fun W D σ H => ∃ Ech : XK, (∀ cls d σ' H', Ech cls d H' → σ'.length = Ng.length → W cls d σ' H') ∧ σ[0]? = some (some (.ref f)) ∧ H c' = some (LamX.CodeO c' q) ∧ tl Ech H fun _ H' => D.nx σ H')
    rfl rfl nd ix kl LamX.takes0 (fun W pn xe tk _ => ?_) (hh s H)) (pss_one (ps_ret pe_str)), ?_⟩
  · refine ⟨fun pins s' σ H D I h' => ?_⟩
    obtain ⟨Ech, hW, e1, e2, e3⟩ := h'
    have hp := act (fun c d σ H => σ.length = Ng.length → W c d σ H) pn xe Ech p1 p2 (takes_len tk) (fun c d σ' H' z w => hW c d σ' H' z w)
    exact (pss_one (ps_expr (pos := p3) hp)).run pins s' σ H D I ⟨e1, e2, e3⟩
  · exact ⟨fun c d H' => ∀ σ : L2.St, σ.length = Ng.length → wList X.K j (fun _ _ _ _ => False) { nx := fun _ H' => Q (.str z) H', rt := Q } l c d σ H', fun c d σ' H' w e => w σ' e, h0 f, hc, h⟩
/-! ### the making of a lambda -/
/-- H1 is H, or H with one more code object, told by the table at P -/
def Made (H : Hp) (P : Addr) (q : Str) (H1 : Hp) (c : Addr) : Prop :=
  (H1 = H ∧ H c = some (LamX.CodeO c q)) ∨ ∃ (ps : Array Value) (pos : Pos), H P = some (.tbl ps) ∧ TriplesOk ps.toList ∧ H c = none ∧ H1 = upd (upd H P (.tbl (ps ++ #[rawInt pos.line, rawInt pos.col, .ref c]))) c (LamX.CodeO c q)
theorem Made.code {H H1 : Hp} {P c : Addr} {q : Str} (m : Made H P q H1 c) : H1 c = some (LamX.CodeO c q) := by
  rcases m with ⟨rfl, h⟩ | ⟨_, _, _, _, _, rfl⟩
  · exact h
  · exact upd_same
theorem Made.gr {F H H1 : Hp} {P c : Addr} (m : Made H P (TN.nm P) H1 c) (s : Same F H) (nf : F P = none) : Gr F H F H1 := by
  rcases m with ⟨rfl, _⟩ | ⟨ps, pos, hP, ht, nc, rfl⟩
  · exact Gr.refl s
  · have nP : P ≠ c := ne_of_none hP nc
    have at_ : ∀ b, b ≠ P → b ≠ c → upd (upd H P (.tbl (ps ++ #[rawInt pos.line, rawInt pos.col, .ref c]))) c (LamX.CodeO c (TN.nm P)) b = H b := fun b x y => by rw [upd_ne y, upd_ne x]
    have atP : upd (upd H P (.tbl (ps ++ #[rawInt pos.line, rawInt pos.col, .ref c]))) c (LamX.CodeO c (TN.nm P)) P = some (.tbl (ps ++ #[rawInt pos.line, rawInt pos.col, .ref c])) := by rw [upd_ne nP, upd_same]
    refine Gr.hk s ⟨fun b u e n => ?_, fun P' hm C hC t => ?_, fun b e => ?_, fun P' qs e => ?_⟩ fun b u e => ?_
    · rw [at_ b (fun z => by rw [z, hP] at e; exact n ps (Option.some.inj e).symm) (ne_of_none e nc)]
      exact e
    · by_cases hp : P' = P
      · subst hp
        obtain ⟨ps', h1, h2, h3⟩ := t
        cases hP.symm.trans h1
        have el : (ps ++ #[rawInt pos.line, rawInt pos.col, .ref c]).toList = ps.toList ++ [rawInt pos.line, rawInt pos.col, .ref c] := by simp
        refine ⟨_, atP, by rw [el]; exact PySem.TriplesOk_snoc _ _ _ _ ht, fun p cv hc => ?_⟩
        rw [el] at hc
        rcases LamX.among_app _ ht hc with z | z
        · exact h3 p cv z
        · exact ⟨c, z, hC c upd_same⟩
      · exact t.of fun qs e => by rw [at_ P' hp (ne_of_none e nc)]; exact e
    · by_cases h1 : b = c
      · rw [h1]; exact nc
      · by_cases h2 : b = P
        · rw [h2, atP] at e; cases e
        · rwa [at_ b h2 h1] at e
    · by_cases h1 : P' = c
      · rw [h1, upd_same] at e
        unfold LamX.CodeO at e
        cases e
      · by_cases h2 : P' = P
        · exact ⟨ps, by rw [h2]; exact hP⟩
        · rw [at_ P' h2 h1] at e
          exact ⟨qs, e⟩
    · have h1 := s b u e
      rw [at_ b (fun z => by rw [z, nf] at e; cases e) (ne_of_none h1 nc)]
      exact h1
section
variable {X : Cx} {σ : L2.St} {H : Hp} {s : Shared} {pins : List (Addr × Obj)}
theorem lam_new {c P : Addr} {ar : Arguments} {body : Expr} {sc : Scope} {pos : Pos} {E Q : Value → Shared → Prop} (I : Inv X pins σ H s) (B : LamX.TabB X.base X.mg c P) (hc : X.env.code = .ref c) (hT : LamX.TabS H P (X.env.qual ++ "<lambda>")) (nd : defaultsOf ar X.env = ([], []))
    (fr : ∀ y ∈ sc.names, y.2 = .free → ∃ c, X.env.cells.lookup y.1 = some c)
    (k : ∀ (f c' : Addr) (pm ctv : Value) (H1 : Hp) (s' : Shared), Inv X pins σ H1 s' → Made H P (X.env.qual ++ "<lambda>") H1 c' →
      s'.heap.get? f = some (PySem.W.kla_obj "<lambda>" (X.env.qual ++ "<lambda>") ar body sc (cloFrom X.env.cells sc.names []) pm c' ctv) → H1 f = none → f ∉ frs X.stack → Q (.ref f) s') : wpAny (model X.prog X.w) X.A (eval (.Lambda ar body sc pos) X.env) Q E s := by
  obtain ⟨ps, hP, ht, good⟩ := hT
  have atP : s.heap.get? P = some { cls := .none, data := .fields ps } := I.hok P _ hP
  have bm : s.heap.BuiltinsAt X.mg P := B.bm.keeps I.bk
  have new : ∀ f, s.heap.objs.size ≤ f → f ∉ frs X.stack := fun f hf z => by
    have z2 := List.mem_cons.mp (I.stkSub _ z)
    rcases z2 with e | e
    · have lt := I.lt
      rw [← e] at lt
      exact absurd lt (Nat.not_lt.mpr hf)
    · exact I.nofs hf e
  refine PySem.W.kla_eval nd ?_
  cases am : codeAmong pos ps.toList with
  | some cv =>
    obtain ⟨c', rfl, hco⟩ := good pos cv am
    exact PySem.W.kla_makeFunctionHit (mg := X.mg) (c := c) (P := P) (ps := ps) (closure_ok fr) I.ok.glob (I.mod.glob.keeps I.bk) hc (B.code.keeps I.bk) atP ht am bm fun ctv h' tk kp sz =>
      k h'.objs.size c' ((X.mg "__name__").getD .none) ctv H _ (I.kept fun b o e => Heap.get?_push_of_some _ (kp b o e)) (.inl ⟨rfl, hco⟩) (Heap.get?_push_size _ rfl) (I.hok.fresh sz) (new _ sz)
  | none =>
    refine PySem.W.kla_makeFunction (mg := X.mg) (c := c) (P := P) (ps := ps) (closure_ok fr) I.ok.glob (I.mod.glob.keeps I.bk) hc (B.code.keeps I.bk) atP ht am B.gP bm fun c' ctv h' tk kp ge lt rec_ tb => ?_
    obtain ⟨c2, oc, vs, t, e2, hoc, hd, hv⟩ := rec_
    cases e2
    have nC : H c' = none := I.hok.fresh ge
    have sz : s.heap.objs.size ≤ h'.objs.size := by omega
    have J := LamX.inv_table (t' := tk) (more := #[rawInt pos.line, rawInt pos.col, .ref c']) (q := X.env.qual ++ "<lambda>") (h' := h'.push (PySem.W.kla_obj "<lambda>" (X.env.qual ++ "<lambda>") ar body sc (cloFrom X.env.cells sc.names []) ((X.mg "__name__").getD .none) c' ctv)) I hP
      (fun b o hb e => Heap.get?_push_of_some _ (kp b o hb e)) (Heap.get?_push_of_some _ tb) ge ⟨oc, vs, t, Heap.get?_push_of_some _ hoc, hd, hv⟩
    refine k h'.objs.size c' ((X.mg "__name__").getD .none) ctv _ _ J (.inr ⟨ps, pos, hP, ht, nC, rfl⟩) (Heap.get?_push_size _ rfl) ?_ (new _ sz)
    have lP : P < s.heap.objs.size := Heap.lt_size atP
    rw [upd_ne (Nat.ne_of_gt lt), upd_ne (Nat.ne_of_gt (Nat.lt_of_lt_of_le lP sz))]
    exact I.hok.fresh sz
/-- f(lambda: body) -/
def tLamC (P : Addr) (q : Str) (TT : (XK → Hp → VK → Prop) → Hp → VK → Prop) (t : XK → TE) : TE := fun σ H Q => LamX.TabS H P q ∧ ∀ H1 c, Made H P q H1 c → TT (fun E H' Q' => t E σ H' Q') H1 Q
theorem pe_lam {TT : (XK → Hp → VK → Prop) → Hp → VK → Prop} {x a : Str} {g c P : Addr} {k : Nat} {st : Stmt} {fd : FuncData} {Ng : List Str} {ar : Arguments} {body : Expr} {sc : Scope} {t : XK → TE} {p lp pos : Pos} (hg : Gl X x) (hm : X.mg x = some (.ref g)) (Fn : Fun X.K x x st g fd) (hb : L2.Binds X.K fd [a] []) (Sg : FnScope Ng [a] (defScope st)) (h0 : Ng[0]? = some a) (va : Vis (defScope st) a)
    (hG : ∀ cdg, LamX.GivesTo X Ng x (defScope st) g cdg (defBody st) a (X.env.qual ++ "<lambda>") TT) (B : LamX.TabB X.base X.mg c P) (hc : X.env.code = .ref c) (hr : Room (k + 2) X.A) (L : LamX.LamS X.env.scope sc) (nd : defaultsOf ar X.env = ([], []))
    (hbind : ∀ (q : Str) (cl : List (Str × Addr)) (pm cv ctv : Value), bindArgs (PySem.W.kla_fn "<lambda>" q ar body sc cl pm cv ctv) ⟨[], []⟩ = pure [])
    (hbody : ∀ (A : Around) (outer : List PySem.Env) (s : Shared) (H : Hp) (E : XK) (f c' : Addr), Room k (A.deeper (LamX.lamEnv X sc s.heap.objs.size f c')) → PE (LamX.lamCx X A outer s H E sc f c') body (t E))
    (hdb : (x == ("__debug__" : Str)) = false := by decide) (hd : (a == ("__debug__" : Str)) = false := by decide) (hcd : (a == ("__classdict__" : Str)) = false := by decide) : PE X (.Call (.Name x p) [.Lambda ar body sc lp] [] pos) (tLamC P (X.env.qual ++ "<lambda>") TT t) := by
  obtain ⟨⟨oc, od, kV, doc, pm, an, cdg, ct, osl, rfl, lk, hcg⟩, hk⟩ := Fn
  refine ⟨fun pins s σ H Q I ⟨hT, h⟩ => ?_⟩
  refine wpAny_Call_Name_kw (ld_glob I hg hm (PySem.W.callWith_K (h₀ := X.base) I.ok.mod.kin hk ?_ (by rfl) (by rfl)) hdb)
  change wpAny _ _ (spliced ((false, eval (.Lambda ar body sc lp) X.env) :: backTo pos (starEach [] X.env))) _ _ s
  refine Calls.spliced_cons (lam_new I B hc hT nd (L.has I.ok) fun f c' pm' ctv H1 s1 J md hf hfn hfr => Calls.spliced_nil ⟨J.kIn, wpAny_call (codeAny_mono (R := CR C8.CX0 X.stack X.prog X.w H1 s1 Q C8.E0) ?_ fun r s2 z => ?_)⟩)
  · refine LamX.run_ofS (N := Ng) (ps := [a]) (us := [.ref f]) (vs := [.ref f]) lk hcg Sg hr J.env0 (hb s1 [.ref f] J.kIn rfl) (.cons rfl .nil) rfl fun hr' => ?_
    obtain ⟨t', ht', hq'⟩ := hG cdg f c' s1 H1 Q (fun E H' Q' => t E σ H' Q') (fun W pn xe E p1 p2 tk hW => LamX.pe_act (i := 0) J L hf hfn hfr (hbind _ _ _ _ _) tk hW hr' (fun A outer s H hr2 => hbody A outer s H E f c' hr2) h0 va hd hcd) md.code (h H1 c' md)
    exact ⟨t', ht'.nox, hq'⟩
  · cases r with
    | error e => exact (show False from z).elim
    | ok fl => cases fl with
      | ret u => exact J.after z
      | next => exact False.elim z
      | brk => exact False.elim z
      | cont => exact False.elim z
end
/-! ### its reading -/
section
variable {X Z : Cx} {K : Fg} {cl : Cl} {W : WX} {os : List String} {j n : Nat} {en z : Str} {hds : List ExceptHandler} {l : List (Value × (Addr → Value → Option Addr → TS))} {r : List (String × (Err → DK → Prop))} {P : Addr} {t : XK → TE} {d : DT}
theorem rfe_lam (hh : Tells Z K cl os j en hds l r) (hj : j < n) (hP : P ∈ cl.tabs) (ht : ∀ E : XK, RfE K cl (fun c dx _ H => E c dx H) (t E) d) : RfE K cl W (tLamC P (TN.nm P) (TCode K j n l z) t) (dCode os r z d) where
  mono2 := fun E E' ρ A A' hE hA q => (ht fun _ _ _ => False).mono2 _ _ (noOwn ρ) _ _ (fun e _ w => hh.mono e _ _ hA w) (fun _ w => hA _ w) q
  ok := fun F0 H0 F H σ ρ E Q hh0 le q => by
    obtain ⟨ts, nf, _⟩ := hh0.tb P hP
    refine ⟨ts, fun H1 c md => ?_⟩
    have g := md.gr hh0.g.s nf
    have hb := (hh0.grow g).wipe (vs := [])
    refine (ht _).ok F H1 F H1 σ (noOwn ρ) (fun e _ => pick os r e fun y => ∀ v F' H', Gr F H F' H' → Rep K cl F' v y → Q v H') _ hb (fun err ρ' σ' F' H' cc dx h e re => ?_) ((ht fun _ _ _ => False).mono _ _ _ _ (fun y w v F' H' g' r' => ?_) q)
    · exact fun σ2 hσ => hh.ok h.g.s re (by rw [hσ]; exact hj) rfl (hh.mono err _ _ (fun y w v F2 H2 g2 r2 => w v F2 H2 ((g.trans h.g).trans g2) r2) e)
    · exact w (.str z) F' H' (g.trans g') (.str z)
end
section
variable {X : Cx} {K : Fg} {cl : Cl} {W : WX}
theorem ve_lam {x a en z : Str} {g c P : Addr} {k j i0 : Nat} {st : Stmt} {fd : FuncData} {Ng : List Str} {ar : Arguments} {body : Expr} {sc : Scope} {t : XK → TE} {d : DT} {p lp pos : Pos} {os : List String} {h1 : ExceptHandler} {hds : List ExceptHandler} {l : List (Value × (Addr → Value → Option Addr → TS))}
    {r : List (String × (Err → DK → Prop))} {p1 p2 p3 p4 p5 p6 : Pos} (hg : Gl X x) (hm : X.mg x = some (.ref g)) (Fn : Fun K x x st g fd) (hb : L2.Binds K fd [a] []) (Sg : FnScope Ng [a] (defScope st)) (h0 : Ng[0]? = some a) (va : Vis (defScope st) a) (bd : defBody st = [.Try [.Expr (.Call (.Name a p1) [] [] p2) p3] (h1 :: hds) [] [] p4, .Return (some (.Constant (.str z) i0 p5)) p6])
    (ix : Ng[j]? = some en) (lo : (defScope st).names.lookup en = some .local) (hh : ∀ (cdg : Value) (s : Shared) (H : Hp), Tells (cxOf C8.CX0 X.prog X.w X.K X.mg X.base Ng x (defScope st) g cdg X.A X.stack s H C8.E0).nox K cl os j en (h1 :: hds) l r)
    (B : LamX.TabB X.base X.mg c P) (hc : X.env.code = .ref c) (hP : P ∈ cl.tabs) (hq : X.env.qual ++ "<lambda>" = TN.nm P) (hr : Room (k + 2) X.A) (L : LamX.lamSB X.env.scope sc = true) (nd : defaultsOf ar X.env = ([], []))
    (hbind : ∀ (q : Str) (cl : List (Str × Addr)) (pm cv ctv : Value), bindArgs (PySem.W.kla_fn "<lambda>" q ar body sc cl pm cv ctv) ⟨[], []⟩ = pure [])
    (hbody : ∀ (A : Around) (outer : List PySem.Env) (s : Shared) (H : Hp) (E : XK) (f c' : Addr), Room k (A.deeper (LamX.lamEnv X sc s.heap.objs.size f c')) → VE (LamX.lamCx X A outer s H E sc f c') K cl (fun c dx _ H => E c dx H) body (t E) d)
    (hdb : (x == ("__debug__" : Str)) = false := by decide) (hd : (a == ("__debug__" : Str)) = false := by decide) (hcd : (a == ("__classdict__" : Str)) = false := by decide) (hK : X.K = K := by rfl) :
    VE X K cl W (.Call (.Name x p) [.Lambda ar body sc lp] [] pos) (tLamC P (TN.nm P) (TCode K j Ng.length l z) t) (dCode os r z d) := by
  obtain rfl := hK
  have hj : j < Ng.length := (List.getElem?_eq_some_iff.mp ix).1
  refine ⟨hq ▸ pe_lam hg hm Fn hb Sg h0 va (fun cdg => ?_) B hc hr (LamX.lamS_by L) nd hbind (fun A outer s H E f c' hr => (hbody A outer s H E f c' hr).pe) hdb hd hcd, rfe_lam (hh .none X.s_0 X.H_0) hj hP (fun E => (hbody X.A X.stack X.s_0 X.H_0 E 0 0 ((hr.deeper _).mono (by omega))).rf), rfl⟩
  rw [bd]
  exact code_gives Sg.nd (fun f => by
    cases Ng with
    | nil => cases h0
    | cons y ys => rfl) ix lo fun s H => (hh cdg s H).cls
end
/-! ### defs that make lambdas, and their callers -/
def spL (K : Fg) (cl : Cl) (Wf : DF) : Sp := fun vs H Q E => ∃ F ds Q' E', Same F H ∧ TabF cl F H ∧ Reps K cl F vs ds ∧ Wf ds Q' E' ∧ (∀ d, Q' d → ∀ v F' H', Gr F H F' H' → Rep K cl F' v d → Q v H') ∧ ∀ err, E' err → ∀ c dx F' H', Gr F H F' H' → RepErr K cl F' c dx err → E c dx H'
section
variable {P : Program} {w : World} {K : Fg} {cl : Cl} {mg : Str → Option Value} {base : Heap}
/-- a def whose code object is told -/
structure FunC (K : Fg) (x qual : Str) (st : Stmt) (f : Addr) (fd : FuncData) (c : Addr) : Prop where
  ex : ∃ (oc : Value) (od : Option Addr) (kV doc pm : Value) (an : Option Addr) (ct : Value) (osl : Array (Option Value)), fd = PySem.W.fnOf x qual (defArgs st) (defBody st) (defScope st) .none kV doc pm an (.ref c) ct ∧ K.lookup f = some ⟨oc, od, .func fd, osl⟩ ∧ PySem.W.codeIn K (.ref c) qual = true
theorem fn_okL {x qual : Str} {st : Stmt} {f c : Addr} {fd : FuncData} {N ps : List Str} {k : Nat} {b : DS} (F : FunC K x qual st f fd c) (S : FnScope N ps (defScope st)) (hp : ps.length ≤ N.length)
    (hb : ∀ (A : Around) (outer : List PySem.Env) (s : Shared) (H : Hp) (E : XK), Room k (A.deeper (envOfC qual (defScope st) s.heap.objs.size f (.ref c))) →
      ∃ t, VSs (cxOf (L2.CX P w) P w K mg base N qual (defScope st) f (.ref c) A outer s H E) K cl (fun c d _ H' => E c d H') (defBody st) t b) (hf : cl.fr = false := by rfl) : FnOk P w K mg base (L2.CX P w) (k + 1) f fd ps (spL K cl (defT ps.length N.length b)) := by
  obtain ⟨oc, od, kV, doc, pm, an, ct, osl, rfl, lk, hcd⟩ := F.ex
  refine fn_of lk hcd S (fun vs H Q E h => ?_) fun A outer s H vs Q E hr h => ?_
  · obtain ⟨F0, ds, Q', E', _, _, r, ⟨hl, _⟩, _⟩ := h
    rw [r.length, hl]
  · obtain ⟨F0, ds, Q', E', s0, tb, r, ⟨hl, q⟩, hQ, hE⟩ := h
    obtain ⟨t, v⟩ := hb A outer s H E hr
    have hn : vs.length ≤ N.length := by rw [r.length, hl]; exact hp
    exact ⟨t, v.pe, v.rf.ok F0 H F0 H _ _ (fun e _ => E' e) { nx := fun _ => Q' .non, rt := Q' } { nx := fun _ H' => Q .non H', rt := Q } (start_hold s0 tb r hn) (fun err ρ σ F' H' c dx h e re => hE err e c dx F' H' h.g re)
      ⟨fun F' H' σ ρ h q => hQ _ q .non F' H' h.g .non, fun _ _ _ _ _ z => z.elim, fun _ _ _ _ _ z => z.elim, fun F' H' v d g r _ q => hQ d q v F' H' g (r hf), fun _ _ _ _ _ _ _ _ z => z.elim⟩ q⟩
/-- the same where the code object is of no interest -/
theorem fn_okLX {x qual : Str} {st : Stmt} {f : Addr} {fd : FuncData} {N ps : List Str} {k : Nat} {b : DS} (F : Fun K x qual st f fd) (S : FnScope N ps (defScope st)) (hp : ps.length ≤ N.length)
    (hb : ∀ (cdv : Value) (A : Around) (outer : List PySem.Env) (s : Shared) (H : Hp) (E : XK), Room k (A.deeper (envOfC qual (defScope st) s.heap.objs.size f cdv)) →
      ∃ t, VSs (cxOf (L2.CX P w) P w K mg base N qual (defScope st) f cdv A outer s H E) K cl (fun c d _ H' => E c d H') (defBody st) t b) (hf : cl.fr = false := by rfl) : FnOk P w K mg base (L2.CX P w) (k + 1) f fd ps (spL K cl (defT ps.length N.length b)) := by
  refine F.okX S (fun vs H Q E h => h.elim fun F0 ⟨ds, Q', E', _, _, r, ⟨hl, _⟩, _⟩ => by rw [r.length, hl]) (fun cdv A outer s H vs Q E hr h => ?_)
  obtain ⟨F0, ds, Q', E', s0, tb, r, ⟨hl, q⟩, hQ, hE⟩ := h
  obtain ⟨t, v⟩ := hb cdv A outer s H E hr
  exact ⟨t, v.pe, v.rf.ok F0 H F0 H _ _ (fun e _ => E' e) { nx := fun _ => Q' .non, rt := Q' } { nx := fun _ H' => Q .non H', rt := Q } (start_hold s0 tb r (by rw [r.length, hl]; exact hp)) (fun err ρ σ F' H' c dx h e re => hE err e c dx F' H' h.g re)
    ⟨fun F' H' σ ρ h q => hQ _ q .non F' H' h.g .non, fun _ _ _ _ _ z => z.elim, fun _ _ _ _ _ z => z.elim, fun F' H' v d g r _ q => hQ d q v F' H' g (r hf), fun _ _ _ _ _ _ _ _ z => z.elim⟩ q⟩
theorem rfe_callL {W : WX} {Wf : DF} {ta : TA} {t : DA} (ha : RfA K cl W ta t) : RfE K cl W (tCallSD (spL K cl Wf) [] (fun σ => WE W σ) ta) (dCall Wf t) where
  mono2 := fun E E' ρ P P' hE h q => ha.mono2 E E' ρ _ _ hE (fun xs q => q.mono h fun e z => hE e ρ z) q
  ok := fun F0 H0 F H σ ρ E Q hh le q => by
    refine ha.ok F0 H0 F H σ ρ E _ hh le (ha.mono E ρ _ _ (fun xs q vs F1 H1 g1 r1 => ?_) q)
    obtain ⟨Q', E', q, a, b⟩ := q
    exact ⟨F1, xs, Q', E', g1.s, (hh.grow g1).tb, by rw [List.append_nil]; exact r1, q, fun d z v F' H' g r => a d z v F' H' (g1.trans g) r, fun e z c dx F' H' g r => le e ρ σ F' H' c dx ((hh.grow g1).grow g) (b e z) r⟩
end
section
variable {X : Cx} {K : Fg} {cl : Cl} {W : WX}
theorem ve_callL {Wf : DF} {k : Nat} {f : Addr} {fd : FuncData} {ps : List Str} {x : Str} {p pos : Pos} {e : Expr} {es : List Expr} {t : TA} {q : DA} (F : FnOk X.prog X.w K X.mg X.base (L2.CX X.prog X.w) k f fd ps (spL K cl Wf)) (hr : Room k X.A) (hg : Gl X x) (mg : X.mg x = some (.ref f)) (hk : PySem.W.keepIn K (.ref f) = true)
    (hb : Binds K fd ps []) (tk : Takes X W) (ha : VA X K cl W (e :: es) t q) (hdb : (x == ("__debug__" : Str)) = false := by decide) (he : starEach (e :: es) X.env = (false, eval e X.env) :: starEach es X.env := by rfl) (hpl : (backTo pos (starEach es X.env)).any (·.1) = false := by rfl) :
    VE X K cl W (.Call (.Name x p) (e :: es) [] pos) (tCallSD (spL K cl Wf) [] (fun σ => WE W σ) t) (dCall Wf q) := by
  obtain rfl := ha.hK
  exact ⟨pe_callSD F hr hg mg hk hb .nil (passAt tk) ha.pe hdb he hpl, rfe_callL ha.rf, rfl⟩
theorem ve_callL0 {Wf : DF} {k : Nat} {f : Addr} {fd : FuncData} {ps : List Str} {x : Str} {p pos : Pos} (F : FnOk X.prog X.w X.K X.mg X.base (L2.CX X.prog X.w) k f fd ps (spL X.K cl Wf)) (hr : Room k X.A) (hg : Gl X x) (mg : X.mg x = some (.ref f)) (hk : PySem.W.keepIn X.K (.ref f) = true)
    (hb : Binds X.K fd ps []) (tk : Takes X W) (hdb : (x == ("__debug__" : Str)) = false := by decide) : VE X X.K cl W (.Call (.Name x p) [] [] pos) (tCallSD (spL X.K cl Wf) [] (fun σ => WE W σ) tNil) (dCall Wf aNil) := by
  refine ⟨⟨fun pins s σ H Q I h => ?_⟩, rfe_callL rfa_nil, rfl⟩
  exact wpAny_Call_Name_kw (ld_glob I hg mg (PySem.W.callWith_K0 I.kIn hk (run_fnSD F hr hb .nil (passAt tk σ) I .nil h)) hdb)
theorem vx_add {a b : Expr} {pos : Pos} {i : Nat} {C : Addr} {ta tb : Addr → Value → Option Addr → TE} {p q : Err → DK → Prop} (ha : VX X K cl i C a ta p) (hb : VX X K cl i C b tb q) (hK : X.K = K := by rfl) : VX X K cl i C (.BinOp a .Add b pos) (fun y v d => tOp (rAddU K) (ta y v d) (tb y v d)) (xOp oAdd p q) := by
  obtain rfl := hK
  exact ⟨fun y oe v d pn hz hv => pe_op op_addU (ha.pe y oe v d pn hz hv) (hb.pe y oe v d pn hz hv), rx_op rf_add ha.rf hb.rf⟩
end
end DL

/-! DLamT: a law with defs that make lambdas. -/
namespace DL
open PySem L2 PyProof.Rows
section
variable [TN]
def spLawT (K : Fg) (T : List Addr) : Sp := fun vs H Q _ => ∃ (a : Addr) (ns : List Int), vs = [.ref a] ∧ SqL K H a (ns.map V.int) ∧ ns.length ≤ 63 ∧ (∀ P ∈ T, H P = some (.tbl #[])) ∧ ∀ H', Q (.bl true) H'
theorem law_okL {P : Program} {w : World} {K : Fg} {cl : Cl} {mg : Str → Option Value} {base : Heap} {k : Nat} {f : Addr} {fd : FuncData} {W : DF} (F : FnOk P w K mg base (L2.CX P w) k f fd ["script"] (spL K cl W)) (h : ∀ ns : List Int, ns.length ≤ 63 → W [.scr ns] (fun d => d = .bl true) fun _ => False) (hm : ∀ P ∈ cl.tabs, P ∈ TN.ts) :
    FnOk P w K mg base (L2.CX P w) k f fd ["script"] (spLawT K cl.tabs) :=
  F.imp fun vs H Q E ⟨a, ns, e, hS, hl, ht, q⟩ => by
    have key : ∃ F : Hp, Same F H ∧ (∀ P ∈ cl.tabs, F P = none) ∧ SqL K F a (ns.map V.int) := by
      rcases hS with hS | hS
      · refine ⟨fun b => if b = a then H b else none, fun b u z => ?_, fun P hP => ?_, .inl ?_⟩
        · have z : (if b = a then H b else none) = some u := z
          by_cases hb : b = a
          · rwa [if_pos hb] at z
          · rw [if_neg hb] at z; cases z
        · refine if_neg fun z => ?_
          have := ht P hP
          rw [z] at this
          rcases hS with hS | ⟨o, hS⟩ <;> (rw [hS] at this; cases this)
        · rcases hS with hS | ⟨o, hS⟩
          · exact .inl ((if_pos rfl).trans hS)
          · exact .inr ⟨o, (if_pos rfl).trans hS⟩
      · exact ⟨fun _ => none, fun b u z => absurd z (by simp), fun _ _ => rfl, Or.inr hS⟩
    obtain ⟨F0, s, nf, sq⟩ := key
    exact ⟨F0, [.scr ns], _, _, s, fun P hP => ⟨LamX.TabS.nil (ht P hP), nf P hP, hm P hP⟩, by rw [e]; exact .cons (.scr sq) .nil, h ns hl, fun d z v F' H' g r => by
      subst z
      cases r
      exact q H', fun _ z => z.elim⟩
end
/-- tables, one of each maker -/
@[reducible] def tnOf (ts : List (Addr × Str)) : TN := ⟨ts.map (·.1), fun P => (ts.lookup P).getD default⟩
theorem walkL {l : PySem.W.OpenLaw} {k : Nat} {q : Program} {loose : List Str} {XP : (Str → Option Value) → Heap → Prop} {YP : World → Heap → Prop} {d : DefRec} {K : Params → PySem.W.Frag}
    (hn : l.most = some 63) (hdf : d.params.defaults = []) (hr : Room k callerA) (hY : ∀ (w : World) (h : Heap), YP w h → (K w.params).In h)
    (F : ∀ (w : World) (mg : Str → Option Value) (fa : Addr) (h : Heap), YP w h → (K w.params).In h → h.Ns mainGlobals mg → mg d.name = some (.ref fa) → ∃ (fd : FuncData) (cs : List (Addr × Addr)), (∀ p ∈ cs, h.get? p.2 = some { cls := .none, data := .fields #[] }) ∧ (∀ p ∈ cs, (K w.params).lookup p.2 = none) ∧ (∀ p ∈ cs, PySem.W.CodeHd h p.1 p.2) ∧
      (∀ (s : Shared) (u : Value), BindsTo s fd ⟨[u], []⟩ [("script", u)]) ∧ ∀ base : Heap, (K w.params).In base → base.Ns mainGlobals mg → (∀ p ∈ cs, LamX.TabB base mg p.1 p.2) → FnOk l.prog w (K w.params) mg base (L2.CX l.prog w) k fa fd ["script"] (spLawT (K w.params) (cs.map (·.2)))) :
    PySem.W.WalkO q loose XP YP l.row.toRowW d [] (fun g us => PySem.call g us) :=
  LamX.walk_ofTs (n := 63) (k := k) (x := "script") (CX := fun w => L2.CX l.prog w) hn (by decide) hdf hr hY (fun w mg fa h Y KX G hmg => by
    obtain ⟨fd, cs, h1, h2, h3, hb, hF⟩ := F w mg fa h Y KX G hmg
    exact ⟨fd, cs, spLawT (K w.params) (cs.map (·.2)), h1, h2, h3, hb, fun H a ns hl _ ht hS => ⟨a, ns, rfl, hS, hl, fun P hP => (List.mem_map.mp hP).elim fun p ⟨hp, e⟩ => e ▸ ht p hp, fun _ => rfl⟩, hF⟩) fun _ _ _ _ _ z => by
    obtain ⟨_, _, _, _, _, _, _, _, _, _, _, _, z⟩ := z
    exact z
end DL

set_option maxHeartbeats 2000000
/-! DLamV: lambdas that stand in a tuple and are handed on by a loop. -/
namespace DL
open PySem L2 PyProof.Rows
variable [TN]
/-- the object of a lambda, tracked -/
def FnO (q : Str) (ar : Arguments) (bd : Expr) (sc : Scope) (cells : List (Str × Addr)) (c' f : Addr) : HO := .ext fun h => ∃ pm ctv, h.get? f = some (PySem.W.kla_obj "<lambda>" q ar bd sc cells pm c' ctv)
theorem fnO_ne {q : Str} {ar : Arguments} {bd : Expr} {sc : Scope} {cells : List (Str × Addr)} {c' f : Addr} (ps : Array Value) : FnO q ar bd sc cells c' f ≠ .tbl ps := fun z => by
  unfold FnO at z
  cases z
section
variable {X : Cx} {σ : L2.St} {H : Hp} {s : Shared} {pins : List (Addr × Obj)}
theorem fnO_ok {P : Program} {w : World} {H : Hp} {h : Heap} {q : Str} {ar : Arguments} {bd : Expr} {sc : Scope} {cells : List (Str × Addr)} {c' f : Addr} {pm ctv : Value} (e : h.get? f = some (PySem.W.kla_obj "<lambda>" q ar bd sc cells pm c' ctv)) : ObjOk P w H h f (FnO q ar bd sc cells c' f) :=
  ⟨⟨pm, ctv, e⟩, ⟨_, e⟩, fun h1 h2 ⟨a, b, y⟩ st => ⟨a, b, st _ y⟩⟩
theorem lam_track {c P : Addr} {ar : Arguments} {bd : Expr} {sc : Scope} {pos : Pos} {E Q : Value → Shared → Prop} (I : Inv X pins σ H s) (B : LamX.TabB X.base X.mg c P) (hc : X.env.code = .ref c) (hT : LamX.TabS H P (X.env.qual ++ "<lambda>")) (nd : defaultsOf ar X.env = ([], []))
    (fr : ∀ y ∈ sc.names, y.2 = .free → ∃ c, X.env.cells.lookup y.1 = some c)
    (k : ∀ (f c' : Addr) (H1 : Hp) (z : Shared), Made H P (X.env.qual ++ "<lambda>") H1 c' → H1 f = none → Inv X pins σ (upd H1 f (FnO (X.env.qual ++ "<lambda>") ar bd sc (cloFrom X.env.cells sc.names []) c' f)) z → Q (.ref f) z) : wpAny (model X.prog X.w) X.A (eval (.Lambda ar bd sc pos) X.env) Q E s := by
  obtain ⟨ps, hP, tr, good⟩ := hT
  have atP := I.hok P _ hP
  have bm := B.bm.keeps I.bk
  refine PySem.W.kla_eval nd ?_
  cases am : codeAmong pos ps.toList with
  | some cv =>
    obtain ⟨c', rfl, co⟩ := good pos cv am
    refine PySem.W.kla_makeFunctionHit (mg := X.mg) (c := c) (P := P) (ps := ps) (closure_ok fr) I.ok.glob (I.mod.glob.keeps I.bk) hc (B.code.keeps I.bk) atP tr am bm fun ctv g tk kp sz => ?_
    have J : Inv X pins σ H { s with heap := g, toks := tk } := I.kept kp
    have free := J.hok.fresh (Nat.le_refl g.objs.size)
    exact k g.objs.size c' H _ (.inl ⟨rfl, co⟩) free (J.laid (t' := tk) (fun b u e => Heap.get?_push_of_some _ e) (Nat.le_refl _) (fnO_ok (Heap.get?_push_size _ rfl)))
  | none =>
    refine PySem.W.kla_makeFunction (mg := X.mg) (c := c) (P := P) (ps := ps) (closure_ok fr) I.ok.glob (I.mod.glob.keeps I.bk) hc (B.code.keeps I.bk) atP tr am B.gP bm fun c' ctv g tk kp ge lt rec_ tb => ?_
    obtain ⟨c2, oc, vs, t, e2, hoc, hd, hv⟩ := rec_
    cases e2
    have J := LamX.inv_table (t' := tk) (more := #[rawInt pos.line, rawInt pos.col, .ref c']) (q := X.env.qual ++ "<lambda>") I hP kp tb ge ⟨oc, vs, t, hoc, hd, hv⟩
    have free := J.hok.fresh (Nat.le_refl g.objs.size)
    exact k g.objs.size c' _ _ (.inr ⟨ps, pos, hP, tr, I.hok.fresh ge, rfl⟩) free (J.laid (t' := tk) (fun b u e => Heap.get?_push_of_some _ e) (Nat.le_refl _) (fnO_ok (Heap.get?_push_size _ rfl)))
end
/-- what a lambda is: its parts, what its reading does -/
structure LamI where
  ar : Arguments
  bd : Expr
  sc : Scope
  t : XK → TE
def LamI.o (i : LamI) (q : Str) (cells : List (Str × Addr)) (c' f : Addr) : HO := FnO q i.ar i.bd i.sc (cloFrom cells i.sc.names []) c' f
structure LamOk (X : Cx) (k : Nat) (i : LamI) : Prop where
  L : LamX.LamS X.env.scope i.sc
  nd : defaultsOf i.ar X.env = ([], [])
  bind : ∀ (q : Str) (cl : List (Str × Addr)) (pm cv ctv : Value), bindArgs (PySem.W.kla_fn "<lambda>" q i.ar i.bd i.sc cl pm cv ctv) ⟨[], []⟩ = pure []
  body : ∀ (A : Around) (outer : List PySem.Env) (s : Shared) (H : Hp) (E : XK) (f c' : Addr), Room k (A.deeper (LamX.lamEnv X i.sc s.heap.objs.size f c')) → PE (LamX.lamCx X A outer s H E i.sc f c') i.bd (i.t E)
def tLamV (P : Addr) (q : Str) (cells : List (Str × Addr)) (i : LamI) : TE := fun σ H Q => LamX.TabS H P q ∧ ∀ H1 c' f, Made H P q H1 c' → H1 f = none → Q (.ref f) (upd H1 f (i.o q cells c' f))
def tLamsV (P : Addr) (q : Str) (cells : List (Str × Addr)) : List LamI → TA
  | [] => tNil
  | i :: r => tCons (tLamV P q cells i) (tLamsV P q cells r)
section
variable {X : Cx}
theorem pe_lamV {c P : Addr} {k : Nat} {i : LamI} {lp : Pos} (B : LamX.TabB X.base X.mg c P) (hc : X.env.code = .ref c) (h : LamOk X k i) : PE X (.Lambda i.ar i.bd i.sc lp) (tLamV P (X.env.qual ++ "<lambda>") X.env.cells i) := by
  refine ⟨fun pins s σ H Q I ⟨ts, w⟩ => lam_track I B hc ts h.nd (h.L.has I.ok) fun f c' H1 z md nf J => ?_⟩
  exact ⟨.ref f, _, J, rfl, w H1 c' f md nf⟩
/-- lambdas side by side -/
inductive Lams (X : Cx) (k : Nat) : List Expr → List LamI → Prop
  | nil : Lams X k [] []
  | cons {i : LamI} {lp : Pos} {es : List Expr} {is : List LamI} (h : LamOk X k i) (hs : starEach (.Lambda i.ar i.bd i.sc lp :: es) X.env = (false, eval (.Lambda i.ar i.bd i.sc lp) X.env) :: starEach es X.env) (r : Lams X k es is) : Lams X k (.Lambda i.ar i.bd i.sc lp :: es) (i :: is)
theorem Lams.pa {c P : Addr} {k : Nat} (B : LamX.TabB X.base X.mg c P) (hc : X.env.code = .ref c) : ∀ {es : List Expr} {is : List LamI}, Lams X k es is → PA X es (tLamsV P (X.env.qual ++ "<lambda>") X.env.cells is)
  | _, _, .nil => pa_nil
  | _, _, .cons h hs r => pa_cons (pe_lamV B hc h) (Lams.pa B hc r) hs
theorem Lams.ok {k : Nat} : ∀ {es : List Expr} {is : List LamI}, Lams X k es is → ∀ i ∈ is, LamOk X k i
  | _, _, .nil, i, h => by cases h
  | _, _, .cons h _ r, i, m => by
    rcases List.mem_cons.mp m with rfl | z
    · exact h
    · exact Lams.ok r i z
end
/-! ### its call -/
section
variable {X : Cx} {pins : List (Addr × Obj)} {σ : L2.St} {H : Hp} {s : Shared}
/-- y(), in the def that got the lambda at f -/
theorem pe_actV {CXg : CXT} {Eg : XK} {Ng : List Str} {qg : Str} {sg : Scope} {g f c' : Addr} {cdg : Value} {L : LamI} {k i : Nat} {a : Str} {pn : List (Addr × Obj)} {xe : Value → Shared → Prop} {W : WX} {E : XK} {p1 p2 : Pos} (I : Inv X pins σ H s) (ok : LamOk X k L)
    (tk : Takes ((cxOf CXg X.prog X.w X.K X.mg X.base Ng qg sg g cdg X.A X.stack s H Eg).tr pn xe) W) (hW : ∀ cls d σ' H', E cls d H' → W cls d σ' H') (hr : Room (k + 1) (X.A.deeper (envOfC qg sg s.heap.objs.size g cdg)))
    (ix : Ng[i]? = some a) (va : Vis sg a) (hd : (a == ("__debug__" : Str)) = false := by decide) (hcd : (a == ("__classdict__" : Str)) = false := by decide) :
    PE ((cxOf CXg X.prog X.w X.K X.mg X.base Ng qg sg g cdg X.A X.stack s H Eg).tr pn xe) (.Call (.Name a p1) [] [] p2)
      (fun τ G Q => τ[i]? = some (some (.ref f)) ∧ G c' = some (LamX.CodeO c' (X.env.qual ++ "<lambda>")) ∧ (G f = some (L.o (X.env.qual ++ "<lambda>") X.env.cells c' f) ∧ L.t E σ G Q)) := by
  refine ⟨fun ps z τ G Q J ⟨e1, e2, e3, w⟩ => ?_⟩
  refine wpAny_Call_Name_kw (thn ((pe_var (pos := p1) (i := i) ix va hd hcd).run ps z τ G (fun v G1 => v = .ref f ∧ G1 = G) J ⟨.ref f, e1, rfl, rfl⟩) fun u z1 ⟨v, G1, J1, r1, v1, v2⟩ => ?_)
  subst v1 v2
  obtain rfl : u = Value.ref f := r1
  obtain ⟨⟨pm, ctv, fo⟩, _, _⟩ : ObjOk X.prog X.w G1 z1.heap f (FnO (X.env.qual ++ "<lambda>") L.ar L.bd L.sc (cloFrom X.env.cells L.sc.names []) c' f) := J1.hok f _ e3
  refine PySem.W.callWith_F0 ⟨_, _, _, _, fo⟩ ?_
  obtain ⟨⟨oc, vs, t, o1, o2, o3⟩, _, _⟩ := J1.hok c' _ e2
  have un : Un (frs X.stack) [] H G1 s.heap z1.heap := J1.base
  have rc : codeAny (model X.prog X.w) (X.A.deeper (envOfC qg sg s.heap.objs.size g cdg)) (.call (.ref f) ⟨[], []⟩) (CR (L2.CX X.prog X.w) (envOfC qg sg s.heap.objs.size g cdg :: X.stack) X.prog X.w G1 z1 Q E) z1 := by
    refine PySem.W.kla_callFunE hr.depth fo rfl ok.L.co ok.L.gen rfl ⟨c', oc, vs, t, rfl, o1, o2, o3⟩ ?_
    rw [ok.bind]
    refine wpAny_pure (wpAny_newFunctionEnv (fun y hy => (ok.L.own y hy).2) (fun y hy => (by simp at hy)) (fun h1 ns sb => ⟨J1.nolimit.fresh _ sb, ?_⟩) ok.L.kind)
    have kp : ∀ b o, z1.heap.get? b = some o → h1.get? b = some o := fun b o e => sb.extBut b o (Nat.ne_of_lt (Heap.lt_size e)) (Heap.get?_push_of_some _ e)
    have M := LamX.lam_start2 (A := X.A.deeper (envOfC qg sg s.heap.objs.size g cdg)) (outer := envOfC qg sg s.heap.objs.size g cdg :: X.stack) (E := E) (scope := L.sc) (f := f) (c' := c') (tk := z1.toks + ([] : List (Str × Value)).length) I ok.L J1.env0 hr.hd un ns kp
    refine PySem.W.kla_codeExpr (wpAny_mono ((ok.body _ _ z1 G1 E f c' (hr.deeper _)).run [] _ _ G1 Q M w) (fun v s' ⟨w', H', M', rv, q⟩ => ?_) fun e s' hq => hq)
    exact ⟨w', H', M'.os, M'.bare, M'.base, M'.hok, rv, q⟩
  refine wpAny_call (codeAny_mono rc fun r s' hq => ?_)
  cases r with
  | error e => exact passes_call tk hW ps τ G1 z1 e s' J1 hq
  | ok fl =>
    cases fl with
    | ret u => exact J1.after hq
    | next | brk | cont => exact False.elim hq
end
/-- what the reading is asked, the last value any -/
def TCodeV (K : Fg) (j n : Nat) (l : List (Value × (Addr → Value → Option Addr → TS))) (z : V) : (XK → Hp → VK → Prop) → Hp → VK → Prop := fun tl H Q =>
  tl (fun c d H' => ∀ σ : L2.St, σ.length = n → wList K j (fun _ _ _ _ => False) { nx := fun _ H' => Q z H', rt := Q } l c d σ H') H fun _ H' => Q z H'
theorem code_givesV {X : Cx} {x a q en : Str} {z : V} {ez : Expr} {j : Nat} {sg : Scope} {g : Addr} {cdg : Value} {Ng : List Str} {h1 : ExceptHandler} {hds : List ExceptHandler} {l : List (Value × (Addr → Value → Option Addr → TS))} {p1 p2 p3 p4 p6 : Pos}
    (nd : Ng.Nodup) (h0 : ∀ f : Addr, (L2.start Ng [V.ref f])[0]? = some (some (V.ref f))) (ix : Ng[j]? = some en) (lo : sg.names.lookup en = some .local) (hz : ∀ Y : Cx, PE Y ez (tC z))
    (hh : ∀ (s : Shared) (H : Hp), Cls' (cxOf C8.CX0 X.prog X.w X.K X.mg X.base Ng x sg g cdg X.A X.stack s H C8.E0).nox en (h1 :: hds) l) :
    LamX.GivesTo X Ng x sg g cdg [.Try [.Expr (.Call (.Name a p1) [] [] p2) p3] (h1 :: hds) [] [] p4, .Return (some ez) p6] a q (TCodeV X.K j Ng.length l z) := by
  intro f c' s H Q tl act hc h
  let Z : Cx := (cxOf C8.CX0 X.prog X.w X.K X.mg X.base Ng x sg g cdg X.A X.stack s H C8.E0).nox
  have kl : Z.env.kindOf en = some .local := lo
  refine ⟨_, pss_cons (ps_clauses (X := Z) (Wo := fun _ _ _ _ => False) (j := j)
    (tb := fun W D σ H => ∃ Ech : XK, (∀ cls d σ' H', Ech cls d H' → σ'.length = Ng.length → W cls d σ' H') ∧ σ[0]? = some (some (.ref f)) ∧ H c' = some (LamX.CodeO c' q) ∧ tl Ech H fun _ H' => D.nx σ H')
    rfl rfl nd ix kl LamX.takes0 (fun W pn xe tk _ => ?_) (hh s H)) (pss_one (ps_ret (hz Z))), ?_⟩
  · refine ⟨fun pins s' σ H D I ⟨Ech, hW, e1, e2, e3⟩ => ?_⟩
    have hp := act (fun c d σ H => σ.length = Ng.length → W c d σ H) pn xe Ech p1 p2 (takes_len tk) (fun c d σ' H' z w => hW c d σ' H' z w)
    exact (pss_one (ps_expr (pos := p3) hp)).run pins s' σ H D I ⟨e1, e2, e3⟩
  · exact ⟨fun c d H' => ∀ σ : L2.St, σ.length = Ng.length → wList X.K j (fun _ _ _ _ => False) { nx := fun _ H' => Q z H', rt := Q } l c d σ H', fun c d σ' H' w e => w σ' e, h0 f, hc, h⟩
/-- x(y), y the loop's name -/
def tCallV (q : Str) (cells : List (Str × Addr)) (i : Nat) (is : List LamI) (TT : (XK → Hp → VK → Prop) → Hp → VK → Prop) : TE := fun σ H Q => ∃ L ∈ is, ∃ f c' : Addr, σ[i]? = some (some (.ref f)) ∧ H f = some (L.o q cells c' f) ∧ H c' = some (LamX.CodeO c' q) ∧
  TT (fun E G R => G f = some (L.o q cells c' f) ∧ L.t E σ G R) H Q
section
variable {X : Cx}
theorem pe_callV {TT : (XK → Hp → VK → Prop) → Hp → VK → Prop} {x a y : Str} {g : Addr} {k i : Nat} {st : Stmt} {fd : FuncData} {Ng : List Str} {is : List LamI} {p py pos : Pos} (hg : Gl X x) (hm : X.mg x = some (.ref g)) (Fn : Fun X.K x x st g fd) (hb : L2.Binds X.K fd [a] []) (Sg : FnScope Ng [a] (defScope st)) (h0 : Ng[0]? = some a) (va : Vis (defScope st) a)
    (hG : ∀ cdg, LamX.GivesTo X Ng x (defScope st) g cdg (defBody st) a (X.env.qual ++ "<lambda>") TT) (hr : Room (k + 2) X.A) (ok : ∀ L ∈ is, LamOk X k L) (ix : X.N[i]? = some y) (vy : Vis X.env.scope y)
    (hdb : (x == ("__debug__" : Str)) = false := by decide) (hd : (a == ("__debug__" : Str)) = false := by decide) (hcd : (a == ("__classdict__" : Str)) = false := by decide) (hy : (y == ("__debug__" : Str)) = false := by decide) (hcy : (y == ("__classdict__" : Str)) = false := by decide) :
    PE X (.Call (.Name x p) [.Name y py] [] pos) (tCallV (X.env.qual ++ "<lambda>") X.env.cells i is TT) := by
  obtain ⟨⟨oc, od, kV, doc, pm, an, cdg, ct, osl, rfl, lk, hcg⟩, hk⟩ := Fn
  refine ⟨fun pins s σ H Q I ⟨L, hL, f, c', e1, e2, e3, h⟩ => ?_⟩
  refine wpAny_Call_Name_kw (ld_glob I hg hm (PySem.W.callWith_K (h₀ := X.base) I.ok.mod.kin hk ?_ (by rfl) (by rfl)) hdb)
  change wpAny _ _ (spliced ((false, eval (.Name y py) X.env) :: backTo pos (starEach [] X.env))) _ _ s
  refine Calls.spliced_cons (thn ((pe_var (pos := py) (i := i) ix vy hy hcy).run pins s σ H (fun v G => v = .ref f ∧ G = H) I ⟨.ref f, e1, rfl, rfl⟩) fun u s1 ⟨v, G, J, r1, v1, v2⟩ => ?_)
  subst v1 v2
  obtain rfl : u = Value.ref f := r1
  refine Calls.spliced_nil ⟨J.kIn, wpAny_call (codeAny_mono (R := CR C8.CX0 X.stack X.prog X.w G s1 Q C8.E0) ?_ fun r s2 z => ?_)⟩
  · refine LamX.run_ofS (N := Ng) (ps := [a]) (us := [.ref f]) (vs := [.ref f]) lk hcg Sg hr J.env0 (hb s1 [.ref f] J.kIn rfl) (.cons rfl .nil) rfl fun hr' => ?_
    obtain ⟨t', ht', hq'⟩ := hG cdg f c' s1 G Q _ (fun W pn xe E p1 p2 tk hW => pe_actV (i := 0) (E := E) J (ok L hL) tk hW hr' h0 va hd hcd) e3 h
    exact ⟨t', ht'.nox, hq'⟩
  · cases r with
    | error e => exact (show False from z).elim
    | ok fl => cases fl with
      | ret u => exact J.after z
      | next | brk | cont => exact False.elim z
end
/-! ### the loop, read -/
section
variable {K : Fg} {cl : Cl} {W : WX} {F0 H0 F H F' H' : Hp} {σ σ' : L2.St} {ρ ρ' : DL.Env}
/-- the ground of a loop: what was there, and the code objects -/
noncomputable def grd (F H0 H : Hp) : Hp := fun b => open Classical in if ∃ q, H b = some (LamX.CodeO b q) then H b else un F H0 b
theorem grd_code {b : Addr} {q : Str} (h : H b = some (LamX.CodeO b q)) : grd F H0 H b = some (LamX.CodeO b q) := by
  unfold grd
  rw [if_pos ⟨q, h⟩]
  exact h
theorem grd_tbl {b : Addr} {ps : Array Value} (h : H b = some (.tbl ps)) : grd F H0 H b = un F H0 b := by
  unfold grd
  refine if_neg ?_
  rintro ⟨q, e⟩
  rw [h] at e
  exact LamX.codeO_ne ps (Option.some.inj e).symm
theorem grd_none {b : Addr} (h : H b = none) : grd F H0 H b = un F H0 b := by
  unfold grd
  refine if_neg ?_
  rintro ⟨q, e⟩
  rw [h] at e
  cases e
theorem grd_or (b : Addr) : grd F H0 H b = un F H0 b ∨ grd F H0 H b = H b := by
  unfold grd
  split
  · exact .inr rfl
  · exact .inl rfl
/-- the ground lies below -/
theorem Gr.ground (g : Gr F0 H0 F H) : Gr F (grd F H0 H) F H := by
  have r := g.rebase
  refine ⟨Same.refl _, ⟨fun p o e n => ?_, fun P hm C hC t => ?_, fun p e => ?_, fun P ps e => ?_⟩, g.s, fun p a b => absurd b a, fun p ps e => ?_, fun _ _ e => e⟩
  · rcases grd_or (F := F) (H0 := H0) (H := H) p with z | z
    · exact r.k.o p o (z ▸ e) n
    · exact z ▸ e
  · refine r.k.t P hm C hC ?_
    obtain ⟨ps, e, t⟩ := t
    refine ⟨ps, ?_, t⟩
    rcases grd_or (F := F) (H0 := H0) (H := H) P with z | z
    · exact z ▸ e
    · rw [← grd_tbl (F := F) (H0 := H0) (z ▸ e)]
      exact e
  · rw [grd_none e]
    exact r.k.f p e
  · rw [grd_tbl e]
    exact r.k.b P ps e
  · rw [grd_tbl (g.s _ _ e)]
    exact r.w p ps e
/-- what grew on the ground grew -/
theorem Gr.unground (g : Gr F0 H0 F H) (b : Gr F (grd F H0 H) F' H') : Gr F0 H0 F' H' := by
  refine g.back ?_
  have r := g.rebase
  have up : ∀ p o, un F H0 p = some o → (∀ ps, o ≠ .tbl ps) → grd F H0 H p = some o := fun p o e n => by
    rcases grd_or (F := F) (H0 := H0) (H := H) p with z | z
    · rw [z]
      exact e
    · rw [z]
      exact r.k.o p o e n
  have low : ∀ p, grd F H0 H p = none → un F H0 p = none := fun p e => by
    rcases grd_or (F := F) (H0 := H0) (H := H) p with z | z
    · exact z ▸ e
    · exact r.k.f p (z ▸ e)
  refine ⟨b.f, ⟨fun p o e n => b.k.o p o (up p o e n) n, fun P hm C hC t => b.k.t P hm C hC ?_, fun p e => low p (b.k.f p e), fun P ps e => ?_⟩, b.s, fun p x y => low p (b.n p x y), fun p ps x => ?_, b.v⟩
  · obtain ⟨ps, e, t⟩ := t
    refine ⟨ps, ?_, t⟩
    rcases grd_or (F := F) (H0 := H0) (H := H) P with z | z
    · rw [z]
      exact e
    · have t1 : TabC (fun _ => True) (un F H0) P := ⟨ps, e, t.1, fun pos cv hc => by
        obtain ⟨c, x, _⟩ := t.2 pos cv hc
        exact ⟨c, x, trivial⟩⟩
      obtain ⟨ps', x, _⟩ := r.k.t P hm (fun _ => True) (fun _ _ => trivial) t1
      rw [grd_tbl x]
      exact e
  · obtain ⟨ps0, x⟩ := b.k.b P ps e
    rcases grd_or (F := F) (H0 := H0) (H := H) P with z | z
    · exact ⟨ps0, z ▸ x⟩
    · exact r.k.b P ps0 (z ▸ x)
  · rcases b.w p ps x with y | y
    · exact .inl (low p y)
    · refine .inr ?_
      rcases grd_or (F := F) (H0 := H0) (H := H) p with z | z
      · exact z ▸ y
      · rw [← grd_tbl (F := F) (H0 := H0) (z ▸ y)]
        exact y
theorem own_code {a b : Addr} {d : D} {q : Str} (w : Own K cl F H a d) (e : H a = some (LamX.CodeO b q)) : False := by
  unfold LamX.CodeO at e
  cases d with
  | lst ds => obtain ⟨_, x, _⟩ := w; rw [e] at x; cases x
  | dk ds => obtain ⟨_, x, _⟩ := w; rw [e] at x; cases x
  | dt ds => obtain ⟨_, x, _⟩ := w; rw [e] at x; cases x
  | ins c ds => obtain ⟨_, ⟨_, _, _, x, _⟩, _⟩ := w; rw [e] at x; cases x
  | _ => exact w
theorem Hold.ground (h : Hold K cl F0 H0 F H σ ρ) : Hold K cl F (grd F H0 H) F H σ ρ := by
  obtain ⟨θ, hs, hd⟩ := h.sl
  refine ⟨h.g.ground, h.tb, h.len, θ, fun i s e => ?_, hd⟩
  have q := hs i s e
  cases s with
  | no => trivial
  | v d => exact q
  | o d =>
    obtain ⟨e1, n0, nf, w⟩ := q
    refine ⟨e1, ?_, nf, w⟩
    unfold grd
    rw [if_neg (fun ⟨q, z⟩ => own_code w z)]
    exact un_none.mpr ⟨nf, n0⟩
theorem Hold.unground (g : Gr F0 H0 F H) (h : Hold K cl F (grd F H0 H) F' H' σ ρ) : Hold K cl F0 H0 F' H' σ ρ := by
  obtain ⟨θ, hs, hd⟩ := h.sl
  have low : ∀ p, grd F H0 H p = none → un F H0 p = none := fun p e => by
    rcases grd_or (F := F) (H0 := H0) (H := H) p with z | z
    · exact z ▸ e
    · exact g.rebase.k.f p (z ▸ e)
  refine ⟨g.unground h.g, h.tb, h.len, θ, fun i s e => ?_, hd⟩
  have q := hs i s e
  cases s with
  | no => trivial
  | v d => exact q
  | o d =>
    obtain ⟨e1, n0, nf, w⟩ := q
    exact ⟨e1, (un_none.mp (low _ n0)).2, nf, w⟩
theorem LinkE.ground {E : EK} (g : Gr F0 H0 F H) (le : LinkE K cl F0 H0 W E) : LinkE K cl F (grd F H0 H) W E := fun err ρ σ F' H' c dx h e r => le err ρ σ F' H' c dx (h.unground g) e r
theorem LinkD.ground {A : Ends} {B : DE} (g : Gr F0 H0 F H) (l : LinkD K cl F0 H0 A B) : LinkD K cl F (grd F H0 H) A B := by
  have low : ∀ p, grd F H0 H p = none → H0 p = none := fun p e => by
    rcases grd_or (F := F) (H0 := H0) (H := H) p with z | z
    · exact (un_none.mp (z ▸ e)).2
    · exact g.k.f p (z ▸ e)
  exact ⟨fun F' H' σ ρ h q => l.nx F' H' σ ρ (h.unground g) q, fun F' H' σ ρ h q => l.bk F' H' σ ρ (h.unground g) q, fun F' H' σ ρ h q => l.ct F' H' σ ρ (h.unground g) q, fun F' H' v d h r r2 q => l.rt F' H' v d (g.unground h) r (fun z => by
    obtain ⟨p, e, n, f, o⟩ := r2 z
    exact ⟨p, e, low p n, f, o⟩) q, fun F' H' σ ρ v d h r q => l.ro F' H' σ ρ v d (h.unground g) r q⟩
/-- a name of which nothing is known may hold anything -/
theorem Hold.any {i : Nat} {v : V} (h : Hold K cl F0 H0 F H σ ρ) : Hold K cl F0 H0 F H (σ.set i (some v)) (ρ.set i .no) := by
  have h := h.drop (i := i)
  obtain ⟨θ, hs, hd⟩ := h.sl
  refine ⟨h.g, h.tb, by simpa using h.len, θ, fun j s e => ?_, hd⟩
  by_cases hj : i = j
  · subst hj
    have hl : i < (ρ.set i .no).length := (List.getElem?_eq_some_iff.mp e).1
    rw [List.getElem?_set_self (by simpa using hl)] at e
    cases e
    trivial
  · rw [List.getElem?_set_ne hj]
    exact hs j s e
end
/-! ### the lambdas stand side by side -/
/-- where they stand -/
inductive LamsAt (q : Str) (cells : List (Str × Addr)) (F H : Hp) : List V → List LamI → Prop
  | nil : LamsAt q cells F H [] []
  | cons {f c' : Addr} {i : LamI} {vs : List V} {is : List LamI} (a : F f = some (i.o q cells c' f)) (b : H c' = some (LamX.CodeO c' q)) (r : LamsAt q cells F H vs is) : LamsAt q cells F H (.ref f :: vs) (i :: is)
theorem LamsAt.len {q : Str} {cells : List (Str × Addr)} {F H : Hp} : ∀ {vs : List V} {is : List LamI}, LamsAt q cells F H vs is → vs.length = is.length
  | _, _, .nil => rfl
  | _, _, .cons _ _ r => by rw [List.length_cons, List.length_cons, r.len]
theorem LamsAt.grow {q : Str} {cells : List (Str × Addr)} {F H F' H' : Hp} (f : Same F F') (k : ∀ c, H c = some (LamX.CodeO c q) → H' c = some (LamX.CodeO c q)) : ∀ {vs : List V} {is : List LamI}, LamsAt q cells F H vs is → LamsAt q cells F' H' vs is
  | _, _, .nil => .nil
  | _, _, .cons a b r => .cons (f _ _ a) (k _ b) (LamsAt.grow f k r)
theorem LamsAt.get {q : Str} {cells : List (Str × Addr)} {F H : Hp} : ∀ {vs : List V} {is : List LamI} {j : Nat} {v : V}, LamsAt q cells F H vs is → vs[j]? = some v → ∃ i f c', is[j]? = some i ∧ v = .ref f ∧ F f = some (i.o q cells c' f) ∧ H c' = some (LamX.CodeO c' q)
  | _, _, _, _, .nil, e => by simp at e
  | _, _, 0, _, .cons a b _, e => by
    simp only [List.getElem?_cons_zero, Option.some.injEq] at e
    exact ⟨_, _, _, rfl, e.symm, a, b⟩
  | _, _, j + 1, _, .cons _ _ r, e => by
    obtain ⟨i, f, c', x⟩ := LamsAt.get (j := j) r (by simpa using e)
    exact ⟨i, f, c', by simpa using x⟩
section
variable {K : Fg} {cl : Cl} {W : WX}
theorem lams_run {P : Addr} {cells : List (Str × Addr)} {σ : L2.St} (hP : P ∈ cl.tabs) : ∀ (is : List LamI) {F H : Hp} {Q : List V → Hp → Prop}, Same F H → TabF cl F H → (∀ vs F1 H1, Gr F H F1 H1 → LamsAt (TN.nm P) cells F1 H1 vs is → Q vs H1) → tLamsV P (TN.nm P) cells is σ H Q
  | [], F, H, Q, s, _, q => q [] F H (Gr.refl s) .nil
  | i :: r, F, H, Q, s, tb, q => by
    obtain ⟨ts, nf, _⟩ := tb P hP
    refine ⟨ts, fun H1 c' f md hf => ?_⟩
    have g1 := md.gr s nf
    have g2 := g1.trans (Gr.new g1.s hf (o := i.o (TN.nm P) cells c' f) fnO_ne)
    refine lams_run hP r g2.s (tb.grow g2) fun vs F2 H2 g3 at_ => ?_
    refine q _ F2 H2 (g2.trans g3) (.cons (g3.f _ _ upd_same) (g3.k.get ?_ LamX.codeO_ne) at_)
    rw [upd_ne (ne_of_none md.code hf)]
    exact md.code
/-- a call whose lambda is known -/
def tKnown (t : TE) (i : Nat) (f c' : Addr) (q : Str) (o : HO) : TE := fun σ H Q => σ[i]? = some (some (.ref f)) → H f = some o → H c' = some (LamX.CodeO c' q) → t σ H Q
variable {Z : Cx} {os : List String} {j n : Nat} {en : Str} {hds : List ExceptHandler} {l : List (Value × (Addr → Value → Option Addr → TS))} {r : List (String × (Err → DK → Prop))}
theorem rfe_known {q : Str} {cells : List (Str × Addr)} {i : Nat} {is : List LamI} {L : LamI} {f c' : Addr} {z : V} {zd : D} {d : DT} (hh : Tells Z K cl os j en hds l r) (hj : j < n) (hL : L ∈ is) (hz : ∀ F, Rep K cl F z zd) (ht : ∀ E : XK, RfE K cl (fun c dx _ H => E c dx H) (L.t E) d) :
    RfE K cl W (tKnown (tCallV q cells i is (TCodeV K j n l z)) i f c' q (L.o q cells c' f)) (dCodeV os r zd d) where
  mono2 := fun E E' ρ A A' hE hA w => (ht fun _ _ _ => False).mono2 _ _ (noOwn ρ) _ _ (fun e _ w => hh.mono e _ _ hA w) (fun _ w => hA _ w) w
  ok := fun F0 H0 F H σ ρ E Q h0 le w e1 e2 e3 => by
    refine ⟨L, hL, f, c', e1, e2, e3, e2, ?_⟩
    have hb := h0.wipe (vs := [])
    refine (ht _).ok F H F H σ (noOwn ρ) (fun e _ => pick os r e fun y => ∀ v F' H', Gr F H F' H' → Rep K cl F' v y → Q v H') _ hb (fun err ρ' σ' F' H' cc dx h e re => ?_) ((ht fun _ _ _ => False).mono _ _ _ _ (fun y w v F' H' g' r' => ?_) w)
    · exact fun σ2 hσ => hh.ok h.g.s re (by rw [hσ]; exact hj) rfl (hh.mono err _ _ (fun y w v F2 H2 g2 r2 => w v F2 H2 (h.g.trans g2) r2) e)
    · exact w z F' H' g' (hz F')
/-- the loop's suites: the call's reading is all that differs -/
theorem rfs_forLam {P : Addr} {cells : List (Str × Addr)} {i : Nat} {is : List LamI} {ds : List DT} {z : V} {zd : D} {tb : TE → TS} {db : DT → DS} (hP : P ∈ cl.tabs) (hh : Tells Z K cl os j en hds l r) (hj : j < n) (hz : ∀ F, Rep K cl F z zd)
    (hU : ∀ (t t' : TE) (A : Ends) (σ : L2.St) (H : Hp), (∀ k, t σ H k → t' σ H k) → tb t A σ H → tb t' A σ H) (hb : ∀ t d, RfE K cl W t d → RfS K cl W (tb t) (db d)) (ht : ∀ (k : Nat) L d, is[k]? = some L → ds[k]? = some d → ∀ E : XK, RfE K cl (fun c dx _ H => E c dx H) (L.t E) d) (hl : ds.length = is.length) (hs : is.length ≤ 1000) :
    RfS K cl W (tFor (iTup K (tTup (tLamsV P (TN.nm P) cells is))) (L2.gName i) (tb (tCallV (TN.nm P) cells i is (TCodeV K j n l z)))) (sForLam i (ds.map fun d => db (dCodeV os r zd d))) where
  mono2 := fun E E' A B ρ hE le q => by
    have key : ∀ (l : List DT), (∀ d ∈ l, ∃ L ∈ is, ∀ E : XK, RfE K cl (fun c dx _ H => E c dx H) (L.t E) d) → ∀ ρ : DL.Env, sForLam i (l.map fun d => db (dCodeV os r zd d)) E A ρ → sForLam i (l.map fun d => db (dCodeV os r zd d)) E' B ρ := by
      intro l
      induction l with
      | nil => exact fun _ ρ q => le.nx _ q
      | cons d l ih =>
        intro hd ρ q
        obtain ⟨L, hL, hLd⟩ := hd d (by simp)
        have ih := ih fun d m => hd d (by simp [m])
        exact ⟨q.1, (hb _ _ (rfe_known (cells := cells) (q := TN.nm P) (i := i) (f := 0) (c' := 0) hh hj hL hz hLd)).mono2 E E' { nx := sForLam i (l.map fun d => db (dCodeV os r zd d)) E A, ct := sForLam i (l.map fun d => db (dCodeV os r zd d)) E A, bk := A.nx, rt := A.rt, ro := A.ro } { nx := sForLam i (l.map fun d => db (dCodeV os r zd d)) E' B, ct := sForLam i (l.map fun d => db (dCodeV os r zd d)) E' B, bk := B.nx, rt := B.rt, ro := B.ro } _ hE ⟨ih, le.rt, le.nx, ih, le.ro⟩ q.2⟩
    refine key ds (fun d hd => ?_) ρ q
    obtain ⟨k, hk, e⟩ := List.getElem_of_mem hd
    have e2 : is[k]? = some (is[k]'(by omega)) := List.getElem?_eq_getElem (by omega)
    exact ⟨_, List.mem_of_getElem? e2, ht k _ _ e2 (by rw [List.getElem?_eq_getElem hk, e])⟩
  ok := fun F0 H0 F H σ ρ E B A hho le ld q => by
    refine lams_run hP is hho.g.s hho.tb fun vs F1 H1 g1 at1 => ⟨by rw [at1.len, sizeLine_eq]; omega, fun p hp => ⟨p, rfl, ⟨vs, SqT.of upd_same⟩, ?_⟩⟩
    have g2 := g1.trans (Gr.new g1.s hp (o := .tup vs))
    have at2 : LamsAt (TN.nm P) cells (upd F1 p (.tup vs)) (upd H1 p (.tup vs)) vs is := at1.grow (same_upd (g1.s.free hp)) fun c e => by
      rw [upd_ne (ne_of_none e hp)]
      exact e
    have h2 := hho.grow g2
    have hg := h2.ground
    have le2 := le.ground h2.g
    have ld2 := ld.ground h2.g
    refine for_tup (fun k σ' H' => ∃ F' ρ', Hold K cl (upd F1 p (.tup vs)) (grd (upd F1 p (.tup vs)) H0 (upd H1 p (.tup vs))) F' H' σ' ρ' ∧ sForLam i ((ds.drop k).map fun d => db (dCodeV os r zd d)) E B ρ') ⟨_, ρ, hg, q⟩ (fun k σ' H' _ ⟨F', ρ', h', _⟩ => SqT.of ((h'.g.f.trans h'.g.s) _ _ upd_same)) (fun k x σ' H' hx ⟨F', ρ', h', q'⟩ => ?_) fun σ' H' ⟨F', ρ', h', q'⟩ => ?_
    · obtain ⟨L, f, c', hk, rfl, eF, eC⟩ := at2.get hx
      have kl : k < is.length := (List.getElem?_eq_some_iff.mp hk).1
      have ed : ds[k]? = some (ds[k]'(by omega)) := List.getElem?_eq_getElem (by omega)
      rw [List.drop_eq_getElem_cons (by omega), List.map_cons] at q'
      obtain ⟨hi, q'⟩ := q'
      have h3 := h'.any (i := i) (v := .ref f)
      change tb (tCallV (TN.nm P) cells i is (TCodeV K j n l z)) _ (σ'.set i (some (.ref f))) H'
      refine hU (tKnown (tCallV (TN.nm P) cells i is (TCodeV K j n l z)) i f c' (TN.nm P) (L.o (TN.nm P) cells c' f)) _ _ _ _ (fun R w => w (List.getElem?_set_self (by rw [h'.len]; exact hi)) ((h'.g.f.trans h'.g.s) _ _ eF) (h'.g.k.get (grd_code eC) LamX.codeO_ne)) ?_
      exact (hb _ _ (rfe_known hh hj (List.mem_of_getElem? hk) hz (ht k L _ hk ed))).ok _ _ F' H' _ _ E { nx := sForLam i ((ds.drop (k + 1)).map fun d => db (dCodeV os r zd d)) E B, ct := sForLam i ((ds.drop (k + 1)).map fun d => db (dCodeV os r zd d)) E B, bk := B.nx, rt := B.rt, ro := B.ro } _ h3 le2
        ⟨fun F5 H5 σ5 ρ5 h5 q5 => ⟨F5, ρ5, h5, q5⟩, ld2.nx, fun F5 H5 σ5 ρ5 h5 q5 => ⟨F5, ρ5, h5, q5⟩, ld2.rt, ld2.ro⟩ q'
    · rw [at2.len, ← hl, List.drop_length] at q'
      exact ld2.nx _ _ _ _ h' q'
end
theorem qual_as {x : Str} {sc : Scope} {n m : Nat} {f g : Addr} {c d : Value} {z q : Str} (h : q = (envOfC x sc m g d).qual ++ z) : (envOfC x sc n f c).qual ++ z = q := h.symm
theorem hu_sub {A : Around} {k : Nat} (hr : Room (k + 1) A) (env : PySem.Env) (m : Option Value) : ((A.deeper env).mark m).units + 65 < cLine := by
  have := (hr.deeper env).un
  show (A.deeper env).units + 65 < cLine
  omega
/-! ### rules -/
/-- lambdas as they are written, with what they do -/
inductive LamsV (X : Cx) (K : Fg) (cl : Cl) (k : Nat) : List Expr → List LamI → List DT → Prop
  | nil : LamsV X K cl k [] [] []
  | cons {ar : Arguments} {bd : Expr} {sc : Scope} {t : XK → TE} {d : DT} {lp : Pos} {es : List Expr} {is : List LamI} {ds : List DT} (L : LamX.lamSB X.env.scope sc = true) (nd : defaultsOf ar X.env = ([], []))
      (bind : ∀ (q : Str) (cl : List (Str × Addr)) (pm cv ctv : Value), bindArgs (PySem.W.kla_fn "<lambda>" q ar bd sc cl pm cv ctv) ⟨[], []⟩ = pure [])
      (body : ∀ (A : Around) (outer : List PySem.Env) (s : Shared) (H : Hp) (E : XK) (f c' : Addr), Room k (A.deeper (LamX.lamEnv X sc s.heap.objs.size f c')) → VE (LamX.lamCx X A outer s H E sc f c') K cl (fun c dx _ H => E c dx H) bd (t E) d)
      (hs : starEach (.Lambda ar bd sc lp :: es) X.env = (false, eval (.Lambda ar bd sc lp) X.env) :: starEach es X.env) (r : LamsV X K cl k es is ds) : LamsV X K cl k (.Lambda ar bd sc lp :: es) (⟨ar, bd, sc, t⟩ :: is) (d :: ds)
section
variable {X : Cx} {K : Fg} {cl : Cl} {W : WX}
theorem LamsV.lams {k : Nat} : ∀ {es : List Expr} {is : List LamI} {ds : List DT}, LamsV X K cl k es is ds → Lams X k es is
  | _, _, _, .nil => .nil
  | _, _, _, .cons (ar := ar) (bd := bd) (sc := sc) (t := t) L nd bind body hs r => .cons (i := ⟨ar, bd, sc, t⟩) ⟨LamX.lamS_by L, nd, bind, fun A outer s H E f c' hr => (body A outer s H E f c' hr).pe⟩ hs r.lams
theorem LamsV.len {k : Nat} : ∀ {es : List Expr} {is : List LamI} {ds : List DT}, LamsV X K cl k es is ds → ds.length = is.length
  | _, _, _, .nil => rfl
  | _, _, _, .cons _ _ _ _ _ r => by rw [List.length_cons, List.length_cons, r.len]
theorem LamsV.rf {k : Nat} (hr : Room (k + 2) X.A) : ∀ {es : List Expr} {is : List LamI} {ds : List DT}, LamsV X K cl k es is ds → ∀ (m : Nat) L d, is[m]? = some L → ds[m]? = some d → ∀ E : XK, RfE K cl (fun c dx _ H => E c dx H) (L.t E) d
  | _, _, _, .nil, m, L, d, e, _ => by simp at e
  | _, _, _, .cons _ _ _ body _ _, 0, L, d, e1, e2 => by
    simp only [List.getElem?_cons_zero, Option.some.injEq] at e1 e2
    subst e1 e2
    exact fun E => (body X.A X.stack X.s_0 X.H_0 E 0 0 ((hr.deeper _).mono (by omega))).rf
  | _, _, _, .cons _ _ _ _ _ r, m + 1, L, d, e1, e2 => LamsV.rf hr r m L d (by simpa using e1) (by simpa using e2)
variable {x a y en : Str} {g c P : Addr} {k i j : Nat} {st : Stmt} {fd : FuncData} {Ng : List Str} {es : List Expr} {is : List LamI} {ds : List DT} {ez : Expr} {z : V} {zd : D} {os : List String} {h1 : ExceptHandler} {hds : List ExceptHandler} {l : List (Value × (Addr → Value → Option Addr → TS))}
  {hr' : List (String × (Err → DK → Prop))} {p p1 p2 p3 p4 p6 py pc yp tp rp cp ip pos : Pos} {tx cj : Nat}
/-- the def that is handed the lambdas -/
structure Teller (X : Cx) (K : Fg) (cl : Cl) (x a en : Str) (g : Addr) (st : Stmt) (fd : FuncData) (Ng : List Str) (ez : Expr) (z : V) (zd : D) (os : List String) (j : Nat) (h1 : ExceptHandler) (hds : List ExceptHandler) (l : List (Value × (Addr → Value → Option Addr → TS))) (r : List (String × (Err → DK → Prop))) : Prop where
  gl : Gl X x
  mg : X.mg x = some (.ref g)
  fn : Fun K x x st g fd
  bi : L2.Binds K fd [a] []
  sc : FnScope Ng [a] (defScope st)
  h0 : Ng[0]? = some a
  va : Vis (defScope st) a
  ix : Ng[j]? = some en
  lo : (defScope st).names.lookup en = some .local
  hz : ∀ Y : Cx, PE Y ez (tC z)
  rz : ∀ F, Rep K cl F z zd
  bd : ∃ p1 p2 p3 p4 p6 : Pos, defBody st = [.Try [.Expr (.Call (.Name a p1) [] [] p2) p3] (h1 :: hds) [] [] p4, .Return (some ez) p6]
  hh : ∀ (cdg : Value) (s : Shared) (H : Hp), Tells (cxOf C8.CX0 X.prog X.w X.K X.mg X.base Ng x (defScope st) g cdg X.A X.stack s H C8.E0).nox K cl os j en (h1 :: hds) l r
theorem Teller.call (T : Teller X K cl x a en g st fd Ng ez z zd os j h1 hds l hr') (hr : Room (k + 2) X.A) (lams : LamsV X K cl k es is ds) (iy : X.N[i]? = some y) (vy : Vis X.env.scope y) (hK : X.K = K) (hdb : (x == ("__debug__" : Str)) = false) (hd : (a == ("__debug__" : Str)) = false) (hcd : (a == ("__classdict__" : Str)) = false) (hy : (y == ("__debug__" : Str)) = false) (hcy : (y == ("__classdict__" : Str)) = false) :
    PE X (.Call (.Name x p) [.Name y py] [] pc) (tCallV (X.env.qual ++ "<lambda>") X.env.cells i is (TCodeV K j Ng.length l z)) := by
  subst hK
  refine pe_callV T.gl T.mg T.fn T.bi T.sc T.h0 T.va (fun cdg => ?_) hr lams.lams.ok iy vy hdb hd hcd hy hcy
  obtain ⟨p1, p2, p3, p4, p6, e⟩ := T.bd
  rw [e]
  exact code_givesV T.sc.nd (fun f => by
    have := T.h0
    cases Ng with
    | nil => cases this
    | cons y ys => rfl) T.ix T.lo T.hz fun s H => (T.hh cdg s H).cls
theorem vs_forLam {tt : TE → TT} {dt : DT → DB} {test : Expr} (pas : PassesOwn (model X.prog X.w) X.A X.env X.xe) (calm : X.calm = true) (T : Teller X K cl x a en g st fd Ng ez z zd os j h1 hds l hr') (B : LamX.TabB X.base X.mg c P) (hc : X.env.code = .ref c) (hP : P ∈ cl.tabs) (hq : X.env.qual ++ "<lambda>" = TN.nm P) (hr : Room (k + 2) X.A)
    (lams : LamsV X K cl k es is ds) (hl : is.length ≤ 1000) (hN : X.N.Nodup) (iy : X.N[i]? = some y) (ly : Loc X.env.scope y) (fy : X.fn y = true ∨ X.env.scope.names.lookup y = some .local) (hp : ∀ t : TE, (t = tCallV (X.env.qual ++ "<lambda>") X.env.cells i is (TCodeV K j Ng.length l z)) → PT X test (tt t)) (hf : ∀ t d, RfE K cl W t d → RfB K cl W (tt t) (dt d))
    (hU : ∀ (t t' : TE) (σ : L2.St) (H : Hp) (Q : Bool → Hp → Prop), (∀ k, t σ H k → t' σ H k) → tt t σ H Q → tt t' σ H Q) (hK : X.K = K) (fr : cl.fr = false)
    (hs : ∀ w, foldedSetIterable (.Tuple es tx tp) X.env w = pure w) :
    VS X K cl W (.For (.Name y yp) (.Tuple es tx tp) [.If test [.Return (some (.Constant (.bool false) cj cp)) rp] [] ip] [] pos)
      (tFor (iTup K (tTup (tLamsV P (TN.nm P) X.env.cells is))) (L2.gName i) (tIfS (tt (tCallV (TN.nm P) X.env.cells i is (TCodeV K j Ng.length l z))) (tRet (tC (.bl false))) L2.tNext))
      (sForLam i (ds.map fun d => sIf (dt (dCodeV os hr' zd d)) (sRet (dC (.bl false))) sNext)) := by
  subst hK
  refine ⟨hq ▸ ps_for pas calm (pi_tup (pe_tup (lams.lams.pa B hc))) (pg_name hN iy ly fy) (pss_one (ps_if (hp _ rfl) (pss_one (ps_ret pe_bl)) pss_nil)) hs, ?_, rfl⟩
  exact rfs_forLam (tb := fun t => tIfS (tt t) (tRet (tC (.bl false))) L2.tNext) (db := fun d => sIf (dt d) (sRet (dC (.bl false))) sNext) hP (T.hh .none X.s_0 X.H_0) (List.getElem?_eq_some_iff.mp T.ix).1 T.rz (fun t t' A σ H m h => hU t t' σ H _ m h) (fun t d h => rfs_if (hf t d h) (rfs_ret fr (rfe_c fun _ => .bl _)) rfs_next) (lams.rf hr) lams.len hl
/-- if x(y) != e: return False -/
theorem vs_forLamN {op : CmpOp} {r : R2} {f : D → D → DK → Prop} {e2 : Expr} {t2 : TE} {q2 : DT} {pt : Pos} (cm : Cm X K cl op r f) (h2 : VE X K cl W e2 t2 q2) (pas : PassesOwn (model X.prog X.w) X.A X.env X.xe) (calm : X.calm = true) (T : Teller X K cl x a en g st fd Ng ez z zd os j h1 hds l hr') (B : LamX.TabB X.base X.mg c P) (hc : X.env.code = .ref c) (hP : P ∈ cl.tabs) (hq : X.env.qual ++ "<lambda>" = TN.nm P) (hr : Room (k + 2) X.A)
    (lams : LamsV X K cl k es is ds) (hN : X.N.Nodup) (hl : is.length ≤ 1000 := by exact Nat.le_of_ble_eq_true rfl) (iy : X.N[i]? = some y := by rfl) (ly : Loc X.env.scope y := by first | exact Or.inl rfl | exact Or.inr rfl) (fy : X.fn y = true ∨ X.env.scope.names.lookup y = some .local := by first | exact .inl rfl | exact .inr rfl) (vy : Vis X.env.scope y := by first | exact .inl rfl | exact .inr (.inl rfl))
    {bs : List DS} (fr : cl.fr = false := by rfl) (hs : ∀ w, foldedSetIterable (.Tuple es tx tp) X.env w = pure w := by intro _; rfl) (hm : behindInMarks op e2 = false := by rfl) (hdb : (x == ("__debug__" : Str)) = false := by decide) (hd : (a == ("__debug__" : Str)) = false := by decide) (hcd : (a == ("__classdict__" : Str)) = false := by decide) (hy : (y == ("__debug__" : Str)) = false := by decide) (hcy : (y == ("__classdict__" : Str)) = false := by decide) (hb : bs = ds.map fun d => sIf (bT (dOp f (dCodeV os hr' zd d) q2)) (sRet (dC (.bl false))) sNext := by rfl) :
    VS X K cl W (.For (.Name y yp) (.Tuple es tx tp) [.If (.Compare (.Call (.Name x p) [.Name y py] [] pc) [op] [e2] pt) [.Return (some (.Constant (.bool false) cj cp)) rp] [] ip] [] pos)
      (tFor (iTup K (tTup (tLamsV P (TN.nm P) X.env.cells is))) (L2.gName i) (tIfS (tTest (tOp r (tCallV (TN.nm P) X.env.cells i is (TCodeV K j Ng.length l z)) t2)) (tRet (tC (.bl false))) L2.tNext))
      (sForLam i bs) :=
  hb ▸ vs_forLam (tt := fun t => tTest (tOp r t t2)) (dt := fun d => bT (dOp f d q2)) pas calm T B hc hP hq hr lams hl hN iy ly fy (fun t e => pt_cmpR cm.o (e ▸ T.call hr lams iy vy cm.hK hdb hd hcd hy hcy) h2.pe hm) (fun t d h => rfb_T (rfe_op cm.f h h2.rf)) (fun t t' σ H Q m h => m _ h) cm.hK fr hs
/-- if not x(y): return False -/
theorem vs_forLamT {pt : Pos} (pas : PassesOwn (model X.prog X.w) X.A X.env X.xe) (calm : X.calm = true) (T : Teller X K cl x a en g st fd Ng ez z zd os j h1 hds l hr') (B : LamX.TabB X.base X.mg c P) (hc : X.env.code = .ref c) (hP : P ∈ cl.tabs) (hq : X.env.qual ++ "<lambda>" = TN.nm P) (hr : Room (k + 2) X.A)
    (lams : LamsV X K cl k es is ds) (hN : X.N.Nodup) (hK : X.K = K := by rfl) (hl : is.length ≤ 1000 := by exact Nat.le_of_ble_eq_true rfl) (iy : X.N[i]? = some y := by rfl) (ly : Loc X.env.scope y := by first | exact Or.inl rfl | exact Or.inr rfl) (fy : X.fn y = true ∨ X.env.scope.names.lookup y = some .local := by first | exact .inl rfl | exact .inr rfl) (vy : Vis X.env.scope y := by first | exact .inl rfl | exact .inr (.inl rfl))
    {bs : List DS} (fr : cl.fr = false := by rfl) (hs : ∀ w, foldedSetIterable (.Tuple es tx tp) X.env w = pure w := by intro _; rfl) (he : ∀ whole, isTrue (.Call (.Name x p) [.Name y py] [] pc) X.env whole = (do let v ← whole; standAt (Expr.Call (.Name x p) [.Name y py] [] pc).pos; holding [v] (truthy v)) := by intro _; rfl) (hdb : (x == ("__debug__" : Str)) = false := by decide) (hd : (a == ("__debug__" : Str)) = false := by decide) (hcd : (a == ("__classdict__" : Str)) = false := by decide) (hy : (y == ("__debug__" : Str)) = false := by decide) (hcy : (y == ("__classdict__" : Str)) = false := by decide) (hb : bs = ds.map fun d => sIf (bNot (bTruth (dCodeV os hr' zd d))) (sRet (dC (.bl false))) sNext := by rfl) :
    VS X K cl W (.For (.Name y yp) (.Tuple es tx tp) [.If (.UnaryOp .Not (.Call (.Name x p) [.Name y py] [] pc) pt) [.Return (some (.Constant (.bool false) cj cp)) rp] [] ip] [] pos)
      (tFor (iTup K (tTup (tLamsV P (TN.nm P) X.env.cells is))) (L2.gName i) (tIfS (tNot (tTruA K (tCallV (TN.nm P) X.env.cells i is (TCodeV K j Ng.length l z)))) (tRet (tC (.bl false))) L2.tNext))
      (sForLam i bs) := by
  subst hK hb
  exact vs_forLam (tt := fun t => tNot (tTruA X.K t)) (dt := fun d => bNot (bTruth d)) pas calm T B hc hP hq hr lams hl hN iy ly fy (fun t e => pt_not (pt_truth (e ▸ T.call hr lams iy vy rfl hdb hd hcd hy hcy) he)) (fun t d h => rfb_not (rfb_truth h)) (fun t t' σ H Q m h => m _ h) rfl fr hs
/-- e.f == .. in a clause -/
theorem vx_cmp {b d : Expr} {ta tb : Addr → Value → Option Addr → TE} {q1 q2 : Err → DK → Prop} {op : CmpOp} {r : R2} {f : D → D → DK → Prop} {n : Nat} {C : Addr} {pt : Pos} (cm : ∀ (a : Addr) (oe : Obj) (pn : List (Addr × Obj)), Cm (X.suite a ((a, oe) :: pn)) K cl op r f) (ha : VX X K cl n C b ta q1) (hb : VX X K cl n C d tb q2) (hm : behindInMarks op d = false := by rfl) :
    VX X K cl n C (.Compare b [op] [d] pt) (fun y v d => tOp r (ta y v d) (tb y v d)) (xOp f q1 q2) :=
  ⟨fun y oe v d pn hz hv => pe_cmpR (cm y oe pn).o (ha.pe y oe v d pn hz hv) (hb.pe y oe v d pn hz hv) hm, rx_op (cm 0 default []).f ha.rf hb.rf⟩
end
end DL

set_option maxHeartbeats 2000000
/-! DLc2: [e for x in xs if .. for y in ys if ..]. -/
namespace DL
open PySem L2 PyProof.Rows
variable [TN]
section
variable {K : Fg} {cl : Cl} {W : WX} {F0 H0 F H : Hp} {σ : L2.St} {ρ : DL.Env}
theorem wipeE_at (vs : List Nat) : ∀ (ρ : DL.Env) (i : Nat) (s : Sl), (wipeE ρ vs)[i]? = some s → s = .no ∨ (i ∉ vs ∧ ρ[i]? = some s) := by
  induction vs with
  | nil => exact fun ρ i s q => .inr ⟨by simp, q⟩
  | cons v r ih =>
    intro ρ i s q
    rcases ih (ρ.set v .no) i s q with h | ⟨h1, h2⟩
    · exact .inl h
    · by_cases hv : v = i
      · subst hv
        have lt : v < ρ.length := by
          have := (List.getElem?_eq_some_iff.mp h2).1
          simpa using this
        rw [List.getElem?_set_self lt] at h2
        exact .inl (Option.some.inj h2).symm
      · rw [List.getElem?_set_ne hv] at h2
        exact .inr ⟨by simp [h1, Ne.symm hv], h2⟩
theorem wipeE_len (vs : List Nat) : ∀ ρ : DL.Env, (wipeE ρ vs).length = ρ.length := by
  induction vs with
  | nil => exact fun ρ => rfl
  | cons v r ih => exact fun ρ => (ih _).trans (by simp)
/-- some slots are emptied, the ground stays -/
theorem Hold.empty {vs : List Nat} (h : Hold K cl F0 H0 F H σ ρ) : Hold K cl F0 H0 F H (L2.wipe σ vs) (wipeE ρ vs) := by
  obtain ⟨θ, hs, hd, hp⟩ := h.sl
  have own : ∀ {i : Nat} {d : D}, (wipeE ρ vs)[i]? = some (.o d) → ρ[i]? = some (.o d) := fun {i d} e => by
    rcases wipeE_at vs ρ i _ e with z | z
    · cases z
    · exact z.2
  refine ⟨h.g, h.tb, by rw [wipe_length, h.len, wipeE_len], θ, fun i s e => ?_, fun i j di dj e1 e2 => hd i j di dj (own e1) (own e2), fun i a d e1 e2 => hp i a d e1 (own e2)⟩
  rcases wipeE_at vs ρ i s e with rfl | ⟨z1, z2⟩
  · trivial
  · rw [wipe_out z1]
    exact hs i s z2
theorem noO_wipe {vs : List Nat} (h : ∀ (i : Nat) (d : D), ρ[i]? ≠ some (Sl.o d)) (i : Nat) (d : D) : (wipeE ρ vs)[i]? ≠ some (Sl.o d) := fun e => by
  rcases wipeE_at vs ρ i _ e with z | z
  · cases z
  · exact h i d z.2
theorem lcL_mono {js : List Nat} {g : TG} {d : DG} {tt : TT} {t : DB} {te : TE} {e : DT} (hg : RfG K cl js g d) (ht : RfB K cl (fun _ _ _ _ => False) tt t) (he : RfE K cl (fun _ _ _ _ => False) te e) : ∀ (xs : List D) (ρ : DL.Env) (acc : List D) (Q Q' : List D → Prop), (∀ r, Q r → Q' r) → lcL d t e ρ xs acc Q → lcL d t e ρ xs acc Q' := by
  intro xs
  induction xs with
  | nil => exact fun ρ acc Q Q' hQ q => hQ _ q
  | cons x r ih =>
    intro ρ acc Q Q' hQ q
    refine hg.mono x ρ _ _ (fun ρ' q => ht.mono noE ρ' _ _ (fun k q => ?_) q) q
    cases k with
    | true => exact he.mono noE ρ' _ _ (fun y q => ⟨q.1, ih ρ _ Q Q' hQ q.2⟩) q
    | false => exact ih ρ _ Q Q' hQ q
theorem lc2_mono {js js1 : List Nat} {g g1 : TG} {d d1 : DG} {tt tt1 : TT} {t t1 : DB} {wi1 : TI} {it1 : DI} {te : TE} {e : DT} {vs1 : List Nat} (hg : RfG K cl js g d) (ht : RfB K cl (fun _ _ _ _ => False) tt t) (hi1 : RfI K cl (fun _ _ _ _ => False) wi1 it1) (hg1 : RfG K cl js1 g1 d1) (ht1 : RfB K cl (fun _ _ _ _ => False) tt1 t1) (he : RfE K cl (fun _ _ _ _ => False) te e) :
    ∀ (xs : List D) (ρ : DL.Env) (acc : List D) (Q Q' : List D → Prop), (∀ r, Q r → Q' r) → lc2L d t it1 d1 t1 e vs1 ρ xs acc Q → lc2L d t it1 d1 t1 e vs1 ρ xs acc Q' := by
  intro xs
  induction xs with
  | nil => exact fun ρ acc Q Q' hQ q => hQ _ q
  | cons x r ih =>
    intro ρ acc Q Q' hQ q
    refine hg.mono x ρ _ _ (fun ρ' q => ht.mono noE ρ' _ _ (fun k q => ?_) q) q
    cases k with
    | true => exact hi1.mono noE ρ' _ _ (fun ys q => lcL_mono hg1 ht1 he ys _ _ _ _ (fun a q => ih ρ a Q Q' hQ q) q) q
    | false => exact ih ρ _ Q Q' hQ q
theorem rfn_lc2 {js js1 vs vs1 : List Nat} {wi wi1 : TI} {it it1 : DI} {g g1 : TG} {d d1 : DG} {tt tt1 : TT} {t t1 : DB} {te : TE} {e : DT} (hi : RfI K cl W wi it) (hg : RfG K cl js g d) (hn : NoO d) (hjs : ∀ j ∈ js, j ∈ vs) (ht : RfB K cl (fun _ _ _ _ => False) tt t)
    (hi1 : RfI K cl (fun _ _ _ _ => False) wi1 it1) (hg1 : RfG K cl js1 g1 d1) (hn1 : NoO d1) (hjs1 : ∀ j ∈ js1, j ∈ vs1) (ht1 : RfB K cl (fun _ _ _ _ => False) tt1 t1) (he : RfE K cl (fun _ _ _ _ => False) te e) : RfN K cl W (tLc2 wi g tt wi1 g1 tt1 te vs vs1) (dLc2 it d t it1 d1 t1 e vs vs1) where
  mono2 := fun E E' ρ P P' hE h q => hi.mono2 E E' ρ _ _ hE (fun xs q => lc2_mono hg ht hi1 hg1 ht1 he xs _ _ _ _ (fun r q => h _ q) q) q
  ok := fun F0 H0 F H σ ρ E Q hh le q => by
    refine hi.ok F0 H0 F H σ ρ E _ hh le (hi.mono E ρ _ _ (fun xs q J F1 H1 g1' wk D0 hD => ?_) q)
    have hh1 := hh.grow g1'
    have hb := hh1.wipe (vs := vs)
    have hF1 : F1 D0 = none := g1'.s.free hD
    have leN : ∀ {A B : Hp}, LinkE K cl A B (fun _ _ _ _ => False) noE := fun {A B} err ρ σ F H c dx _ z _ => z.elim
    have q := lc2_mono hg ht hi1 hg1 ht1 he xs _ _ _ (fun r => ∀ p F' H', Gr F1 H1 F' H' → H1 p = none → F' p = none → Own K cl F' H' p (.lst r) → Q (.ref p) H') (fun r q p F' H' g2 h1 h2 h3 => q p F' H' (g1'.trans g2) (g1'.k.free h1) h2 h3) q
    refine ⟨fun i m H => m = xs.length - i ∧ i ≤ xs.length ∧ ∃ F acc accd, Hold K cl F1 H1 F H (L2.wipe σ vs) (noOwn (wipeE ρ vs)) ∧ F D0 = none ∧ H D0 = some (.lst acc) ∧ Reps K cl F acc accd ∧
      lc2L d t it1 d1 t1 e vs1 (noOwn (wipeE ρ vs)) (xs.drop i) accd (fun r => ∀ p F' H', Gr F1 H1 F' H' → H1 p = none → F' p = none → Own K cl F' H' p (.lst r) → Q (.ref p) H'),
      ⟨xs.length, by simp, Nat.zero_le _, F1, [], [], hb.list (fun i d => noOwn_o i d) hF1 hD (.free hD), hF1, upd_same, .nil, q⟩, ?_⟩
    rintro i m H2 ⟨rfl, hi2, F2, acc, accd, h2, hF2, hD2, ra, q2⟩
    have w2 := wk F2 H2 h2.g.f h2.g.s
    by_cases hlt : i < xs.length
    · have ed : xs.drop i = xs[i] :: xs.drop (i + 1) := List.drop_eq_getElem_cons hlt
      rw [ed] at q2
      obtain ⟨wg, wy⟩ := w2.2 i xs[i] (List.getElem?_eq_getElem hlt)
      refine .inr ⟨wg, fun H' => ∃ F acc accd, Hold K cl F1 H1 F H' (L2.wipe σ vs) (noOwn (wipeE ρ vs)) ∧ F D0 = none ∧ H' D0 = some (.lst acc) ∧ Reps K cl F acc accd ∧
        lc2L d t it1 d1 t1 e vs1 (noOwn (wipeE ρ vs)) (xs.drop (i + 1)) accd (fun r => ∀ p F' H', Gr F1 H1 F' H' → H1 p = none → F' p = none → Own K cl F' H' p (.lst r) → Q (.ref p) H'), fun H' ⟨F', a', ad', x1, x2, x3, x4, x5⟩ => ⟨xs.length - (i + 1), by omega, rfl, hlt, F', a', ad', x1, x2, x3, x4, x5⟩, fun x H3 hy => ?_⟩
      obtain ⟨F3, g3, r3⟩ := wy x H3 hy
      have h3 := h2.grow g3
      have n3 : F3 D0 = none := g3.keepNone hD2 hF2
      have q2' := hn.k _ _ _ (fun i d => noOwn_o i d) q2
      refine hg.ok F1 H1 F3 H3 _ _ x xs[i] _ h3 r3 (hg.mono _ _ _ _ (fun ρ4 q4 σ4 h4 ag => ?_) q2')
      obtain ⟨no4, q4⟩ := q4
      refine ⟨(wipe_same ag hjs).trans (wipe_same (vs := vs) (js := vs) (σ := σ) (σ' := L2.wipe σ vs) ⟨wipe_length _ _, fun i hi => wipe_out hi⟩ fun j hj => hj), ?_⟩
      refine ht.ok F1 H1 F3 H3 σ4 ρ4 noE _ h4 leN (ht.mono noE ρ4 _ _ (fun k q F4 H4 g4 => ?_) q4)
      have h4' := h3.grow g4
      have k4 := h4.grow g4
      have n4 : F4 D0 = none := g4.keepNone (g3.k.get hD2) n3
      have e4 : H4 D0 = some (.lst acc) := g4.k.get (g3.k.get hD2)
      have ra4 := (ra.mono g3.f).mono g4.f
      cases k with
      | false => exact ⟨F4, acc, accd, h4', n4, e4, ra4, q⟩
      | true =>
        change wi1 σ4 H4 _
        refine hi1.ok F1 H1 F4 H4 σ4 ρ4 noE _ k4 leN (hi1.mono noE ρ4 _ _ (fun ys q J1 F5 H5 g5 wk1 => ?_) q)
        have h5 := h4'.grow g5
        have k5 := (k4.grow g5).empty (vs := vs1)
        have n5 : F5 D0 = none := g5.keepNone e4 n4
        have e5 : H5 D0 = some (.lst acc) := g5.k.get e4
        refine ⟨fun j k H => k = ys.length - j ∧ j ≤ ys.length ∧ ∃ F acc accd, Hold K cl F1 H1 F H (L2.wipe σ vs) (noOwn (wipeE ρ vs)) ∧ Hold K cl F1 H1 F H (L2.wipe σ4 vs1) (wipeE ρ4 vs1) ∧ Same F5 F ∧ F D0 = none ∧ H D0 = some (.lst acc) ∧ Reps K cl F acc accd ∧
          lcL d1 t1 e (wipeE ρ4 vs1) (ys.drop j) accd fun a => lc2L d t it1 d1 t1 e vs1 (noOwn (wipeE ρ vs)) (xs.drop (i + 1)) a fun r => ∀ p F' H', Gr F1 H1 F' H' → H1 p = none → F' p = none → Own K cl F' H' p (.lst r) → Q (.ref p) H',
          ⟨ys.length, by simp, Nat.zero_le _, F5, acc, accd, h5, k5, Same.refl _, n5, e5, ra4.mono g5.f, q⟩, ?_⟩
        rintro j k H6 ⟨rfl, hj2, F6, acc6, ad6, h6, k6, sm6, n6, e6, r6, q6⟩
        have w6 := wk1 F6 H6 sm6 h6.g.s
        by_cases hlt1 : j < ys.length
        · rw [List.drop_eq_getElem_cons hlt1] at q6
          obtain ⟨wg6, wy6⟩ := w6.2 j ys[j] (List.getElem?_eq_getElem hlt1)
          refine .inr ⟨wg6, fun H => ∃ F acc accd, Hold K cl F1 H1 F H (L2.wipe σ vs) (noOwn (wipeE ρ vs)) ∧ Hold K cl F1 H1 F H (L2.wipe σ4 vs1) (wipeE ρ4 vs1) ∧ Same F5 F ∧ F D0 = none ∧ H D0 = some (.lst acc) ∧ Reps K cl F acc accd ∧
            lcL d1 t1 e (wipeE ρ4 vs1) (ys.drop (j + 1)) accd fun a => lc2L d t it1 d1 t1 e vs1 (noOwn (wipeE ρ vs)) (xs.drop (i + 1)) a fun r => ∀ p F' H', Gr F1 H1 F' H' → H1 p = none → F' p = none → Own K cl F' H' p (.lst r) → Q (.ref p) H',
            fun H' ⟨F', a', ad', x1, x2, x3, x4, x5, x6, x7⟩ => ⟨ys.length - (j + 1), by omega, rfl, hlt1, F', a', ad', x1, x2, x3, x4, x5, x6, x7⟩, fun y H7 hy1 => ?_⟩
          obtain ⟨F7, g7, r7⟩ := wy6 y H7 hy1
          have h7 := h6.grow g7
          have k7 := k6.grow g7
          have n7 : F7 D0 = none := g7.keepNone e6 n6
          have q6' := hn1.k _ _ _ (fun i d => noO_wipe no4 i d) q6
          refine hg1.ok F1 H1 F7 H7 _ _ y ys[j] _ k7 r7 (hg1.mono _ _ _ _ (fun ρ8 q8 σ8 k8 ag1 => ?_) q6')
          obtain ⟨no8, q8⟩ := q8
          refine ⟨(wipe_same ag1 hjs1).trans (wipe_same (vs := vs1) (js := vs1) (σ := σ4) (σ' := L2.wipe σ4 vs1) ⟨wipe_length _ _, fun i hi => wipe_out hi⟩ fun j hj => hj), ?_⟩
          refine ht1.ok F1 H1 F7 H7 σ8 ρ8 noE _ k8 leN (ht1.mono noE ρ8 _ _ (fun b q F9 H9 g9 => ?_) q8)
          have h9 := h7.grow g9
          have k9 := k7.grow g9
          have n9 : F9 D0 = none := g9.keepNone (g7.k.get e6) n7
          have e9 : H9 D0 = some (.lst acc6) := g9.k.get (g7.k.get e6)
          have r9 := (r6.mono g7.f).mono g9.f
          have sm9 := (sm6.trans g7.f).trans g9.f
          cases b with
          | false => exact ⟨F9, acc6, ad6, h9, k9, sm9, n9, e9, r9, q⟩
          | true =>
            change te σ8 H9 _
            refine he.ok F1 H1 F9 H9 σ8 ρ8 noE _ (k8.grow g9) leN (he.mono noE ρ8 _ _ (fun u q v FA HA gA rA => ?_) q)
            have nA : FA D0 = none := gA.keepNone e9 n9
            have eA : HA D0 = some (.lst acc6) := gA.k.get e9
            exact ⟨acc6, eA, by rw [r9.length, ← line_eq]; exact q.1, FA, acc6 ++ [v], ad6 ++ [u], (h9.grow gA).list (fun i d => noOwn_o i d) nA hD (.at eA), (k9.grow gA).list (fun i d => noO_wipe no4 i d) nA hD (.at eA), sm9.trans gA.f, nA, upd_same, (r9.mono gA.f).append (.cons rA .nil), q.2⟩
        · have e0 : j = ys.length := by omega
          subst e0
          rw [List.drop_length] at q6
          exact .inl ⟨w6.1, F6, acc6, ad6, h6, n6, e6, r6, q6⟩
    · have e : i = xs.length := by omega
      subst e
      rw [List.drop_length] at q2
      exact .inl ⟨w2.1, q2 D0 F2 H2 h2.g hD hF2 ⟨acc, hD2, ra⟩⟩
end
section
variable {X : Cx} {K : Fg} {cl : Cl} {W : WX}
theorem vn_lc2 {js js1 : List Nat} {elt tg iter tg1 iter1 : Expr} {ifs ifs1 : List Expr} {scope : Scope} {own : List (Str × Nat)} {vs vs1 : List Nat} {wi wi1 : TI} {it it1 : DI} {g g1 : TG} {d d1 : DG} {tt tt1 : TT} {t t1 : DB} {te : TE} {e : DT} {pos : Pos} (hc : X.calm = true) (hN : X.N.Nodup) (hi : VI X K cl W tg iter wi it) (ok : BlkOk X.N X.env.scope scope own) (hv : ∀ i ∈ vs1, i ∈ own.map (·.2))
    (hg : ∀ (s : Shared) (H : Hp) (C : Addr) (l : List (Str × Addr)) (fp : List Addr), VT (X.blk s H scope (compEnvC scope l C X.env) fp) K cl js tg g d) (ht : ∀ (s : Shared) (H : Hp) (C : Addr) (l : List (Str × Addr)) (fp : List Addr), VP (X.blk s H scope (compEnvC scope l C X.env) fp) K cl WF ifs tt t)
    (hi1 : ∀ (s : Shared) (H : Hp) (C : Addr) (l : List (Str × Addr)) (fp : List Addr), VI (X.blk s H scope (compEnvC scope l C X.env) fp) K cl WF tg1 iter1 wi1 it1) (hg1 : ∀ (s : Shared) (H : Hp) (C : Addr) (l : List (Str × Addr)) (fp : List Addr), VT (X.blk s H scope (compEnvC scope l C X.env) fp) K cl js1 tg1 g1 d1)
    (ht1 : ∀ (s : Shared) (H : Hp) (C : Addr) (l : List (Str × Addr)) (fp : List Addr), VP (X.blk s H scope (compEnvC scope l C X.env) fp) K cl WF ifs1 tt1 t1) (he : ∀ (s : Shared) (H : Hp) (C : Addr) (l : List (Str × Addr)) (fp : List Addr), VE (X.blk s H scope (compEnvC scope l C X.env) fp) K cl WF elt te e)
    (hvs : own.map (·.2) = vs := by rfl) (hjs : ∀ j ∈ js, j ∈ own.map (·.2) := by decide) (hjs1 : ∀ j ∈ js1, j ∈ vs1 := by decide) (hs : ∀ x, foldedSetIterable iter X.env x = pure x := by intro _; rfl) (hs1 : ∀ env x, foldedSetIterable iter1 env x = pure x := by intro _ _; rfl) :
    VN X K cl W (.ListComp elt [⟨tg, iter, ifs, 0⟩, ⟨tg1, iter1, ifs1, 0⟩] scope pos) (tLc2 wi g tt wi1 g1 tt1 te vs vs1) (dLc2 it d t it1 d1 t1 e vs vs1) := by
  obtain rfl := hi.hK
  exact hvs ▸ ⟨pe_lc2 hc hN hi.pe ok hv (fun s H C l fp => (hg s H C l fp).pe) (fun s H C l fp => (ht s H C l fp).pe) (fun s H C l fp => (hi1 s H C l fp).pe) (fun s H C l fp => (hg1 s H C l fp).pe) (fun s H C l fp => (ht1 s H C l fp).pe) (fun s H C l fp => (he s H C l fp).pe) hs hs1,
    rfn_lc2 hi.rf (hg X.s_0 X.H_0 0 [] []).rf (hg X.s_0 X.H_0 0 [] []).no hjs (ht X.s_0 X.H_0 0 [] []).rf (hi1 X.s_0 X.H_0 0 [] []).rf (hg1 X.s_0 X.H_0 0 [] []).rf (hg1 X.s_0 X.H_0 0 [] []).no hjs1 (ht1 X.s_0 X.H_0 0 [] []).rf (he X.s_0 X.H_0 0 [] []).rf, rfl⟩
theorem vs_lc2 {i : Nat} {y : Str} {py spos : Pos} {js js1 : List Nat} {elt tg iter tg1 iter1 : Expr} {ifs ifs1 : List Expr} {scope : Scope} {own : List (Str × Nat)} {vs vs1 : List Nat} {wi wi1 : TI} {it it1 : DI} {g g1 : TG} {d d1 : DG} {tt tt1 : TT} {t t1 : DB} {te : TE} {e : DT} {pos : Pos} (hc : X.calm = true) (hN : X.N.Nodup) (hi : VI X K cl W tg iter wi it) (ok : BlkOk X.N X.env.scope scope own) (hv : ∀ i ∈ vs1, i ∈ own.map (·.2))
    (hg : ∀ (s : Shared) (H : Hp) (C : Addr) (l : List (Str × Addr)) (fp : List Addr), VT (X.blk s H scope (compEnvC scope l C X.env) fp) K cl js tg g d) (ht : ∀ (s : Shared) (H : Hp) (C : Addr) (l : List (Str × Addr)) (fp : List Addr), VP (X.blk s H scope (compEnvC scope l C X.env) fp) K cl WF ifs tt t)
    (hi1 : ∀ (s : Shared) (H : Hp) (C : Addr) (l : List (Str × Addr)) (fp : List Addr), VI (X.blk s H scope (compEnvC scope l C X.env) fp) K cl WF tg1 iter1 wi1 it1) (hg1 : ∀ (s : Shared) (H : Hp) (C : Addr) (l : List (Str × Addr)) (fp : List Addr), VT (X.blk s H scope (compEnvC scope l C X.env) fp) K cl js1 tg1 g1 d1)
    (ht1 : ∀ (s : Shared) (H : Hp) (C : Addr) (l : List (Str × Addr)) (fp : List Addr), VP (X.blk s H scope (compEnvC scope l C X.env) fp) K cl WF ifs1 tt1 t1) (he : ∀ (s : Shared) (H : Hp) (C : Addr) (l : List (Str × Addr)) (fp : List Addr), VE (X.blk s H scope (compEnvC scope l C X.env) fp) K cl WF elt te e)
    (hsw : swapsWith (.ListComp elt [⟨tg, iter, ifs, 0⟩, ⟨tg1, iter1, ifs1, 0⟩] scope pos) (some (.Name y py)) spos.line X.env = pure true) (hy : X.N[i]? = some y := by rfl) (hyl : X.env.scope.names.lookup y = some .local := by rfl)
    (hvs : own.map (·.2) = vs := by rfl) (hjs : ∀ j ∈ js, j ∈ own.map (·.2) := by decide) (hjs1 : ∀ j ∈ js1, j ∈ vs1 := by decide) (hs : ∀ x, foldedSetIterable iter X.env x = pure x := by intro _; rfl) (hs1 : ∀ env x, foldedSetIterable iter1 env x = pure x := by intro _ _; rfl) :
    VS X K cl W (.Assign [.Name y py] (.ListComp elt [⟨tg, iter, ifs, 0⟩, ⟨tg1, iter1, ifs1, 0⟩] scope pos) spos) (tAsg (tLc2 wi g tt wi1 g1 tt1 te vs vs1) (L2.gName i)) (sSet i (dLc2 it d t it1 d1 t1 e vs vs1)) := by
  obtain rfl := hi.hK
  exact hvs ▸ ⟨ps_setLc2 hc hN hy hyl hsw hi.pe ok hv (fun s H C l fp => (hg s H C l fp).pe) (fun s H C l fp => (ht s H C l fp).pe) (fun s H C l fp => (hi1 s H C l fp).pe) (fun s H C l fp => (hg1 s H C l fp).pe) (fun s H C l fp => (ht1 s H C l fp).pe) (fun s H C l fp => (he s H C l fp).pe) hs hs1,
    rfs_set (rfn_lc2 hi.rf (hg X.s_0 X.H_0 0 [] []).rf (hg X.s_0 X.H_0 0 [] []).no hjs (ht X.s_0 X.H_0 0 [] []).rf (hi1 X.s_0 X.H_0 0 [] []).rf (hg1 X.s_0 X.H_0 0 [] []).rf (hg1 X.s_0 X.H_0 0 [] []).no hjs1 (ht1 X.s_0 X.H_0 0 [] []).rf (he X.s_0 X.H_0 0 [] []).rf).e, rfl⟩
end
end DL

set_option maxHeartbeats 4000000
/-! DSet: sorted(set(xs)) of a list of whole numbers. -/
namespace DL
open PySem PySem.Spec L2 PyProof.Rows
variable [TN]
/-- the empty set, as it is laid -/
abbrev nS (w : World) : Obj := { cls := .type "set", dict := none, data := .set #[] 0 (.fresh 0 0 (!w.params.followText "set-order")) }
section
variable {P : Program} {w : World} {A : Around} {E : Value → Shared → Prop} {s : Shared}
/-- what set.__init__ leaves -/
def MadeOf (w : World) (s : Shared) (ns : List Int) (r : Value) (s2 : Shared) : Prop :=
  r = .none ∧ ∃ h' tk c, s2 = { s with heap := h', toks := tk } ∧ SetR w h' s.heap.objs.size (fun j => decide (j ∈ ns)) c ∧ c ≤ ns.length ∧ ∀ b o, s.heap.get? b = some o → h'.get? b = some o
theorem set_of_list {l : Addr} {items : Array Value} {ns : List Int} {Q : Value → Shared → Prop} (hh : A.handled = none) (hl : s.heap.IsList l items) (hi : IntsAre items.toList ns) (hb : ns.length + 1 < scanBound)
    (k : ∀ s2, MadeOf w s ns .none s2 → Q (.ref s.heap.objs.size) s2) : wpAny (model P w) A (call (.type "set") [.ref l]) Q E s := by
  have hz : items.size = ns.length := by
    have q := hi.length
    rwa [Array.length_toList] at q
  have C := F.called_set
  obtain ⟨mc, mt, hmro⟩ := C.mro
  have g1 := C.made
  have g2 := C.sub
  refine wpAny_call (codeAny_of_tree ?_)
  show wpAny _ _ (callAny (.type "set") _) _ _ _
  refine wpAny_pure ⟨Code.quiet_builtin _ (by decide +kernel), codeAny_builtin F.entry_type_call ?_⟩
  rw [Around.under_plain (weight_type_call_type "set" [.ref l] []) rfl]
  have g3 := C.notType
  have g4 := C.canCreate
  have g5 := F.typeCall_set_1 (.ref l)
  repeat (any_goals (first | assumption | wp_step))
  refine codeAny_mono (code_set_led1 (.ref l) (E := E) (Q₁ := fun v t => v = .ref s.heap.objs.size ∧ t = { s with heap := s.heap.push (nS w) }) ⟨rfl, rfl⟩) fun r s₁ hr => ?_
  match r, hr with
  | .error e, hr => exact hr
  | .ok (.ret v), hr =>
    obtain ⟨rfl, rfl⟩ := hr
    have at0 : (s.heap.push (nS w)).get? s.heap.objs.size = some (nS w) := Heap.get?_push_size _ rfl
    have ty0 : Shared.TypeIs { s with heap := s.heap.push (nS w) } (.ref s.heap.objs.size) "set" := ⟨_, at0, rfl⟩
    have g6 := C.init.lookup
    have g7 := C.init.bind (.ref s.heap.objs.size)
    repeat (any_goals (first | assumption | wp_step))
    refine codeAny_mono (codeAny_call_builtin (R := wants (MadeOf w s ns) E) C.init.plain F.entry_set_init (check_set_init_1 ty0 ?_)) fun r2 s2 h2 => ?_
    · obtain ⟨⟨_, od, _, osl⟩, ho, hc, n, hd⟩ := hl
      dsimp only at hc hd
      subst hc
      subst hd
      have a1 := F.sub_list_set
      have a2 := F.sub_list_frozenset
      have a3 : (Value.type "list" == Value.type "dict") = false := by decide
      have a4 : (s.heap.push (nS w)).get? l = some { cls := .type "list", dict := od, data := .seq items n, slots := osl } := Heap.get?_push_of_some _ ho
      have isl : (s.heap.push (nS w)).IsList l items := ⟨_, a4, rfl, n, rfl⟩
      unfold Builtin.«set.__init__» noKeywords Builtin.Frozenset.updateFrom
      generalize hp : pyIter = PI
      wp_walk
      subst hp
      refine wpAny_pyIter_list isl (wpAny_bind (wpAny_runValue ?_))
      have lt : l < s.heap.objs.size := Heap.lt_size ho
      have sz : (s.heap.push (nS w)).objs.size = s.heap.objs.size + 1 := Heap.size_push ..
      have hv : ∀ (i : Nat) (v : Value), items[i]? = some v → ∃ k t, ns[i]? = some k ∧ v = .int k t := fun i v hv => by
        have h1 : i < ns.length := by rw [← hz]; exact (Array.getElem?_eq_some_iff.mp hv).1
        obtain ⟨t, e⟩ := hi.int_at i v (by rw [Array.getElem?_toList]; exact hv)
        exact ⟨ns[i], t, List.getElem?_eq_getElem h1, by rw [e, List.getD_eq_getElem?_getD, List.getElem?_eq_getElem h1] <;> rfl⟩
      refine set_update_ints ((Walks.list (show A.in1.in1.in1.handled = none by simp [hh]) _ l (by rw [sz]; exact Nat.ne_of_lt (Nat.lt_succ_of_lt lt)) items).toS) s.heap.objs.size (by rw [sz]; simp; exact Nat.ne_of_gt lt) ns hz hb hv (items.size - 0) 0 _ (by omega) (Nat.zero_le _)
        ⟨⟨_, Heap.get?_push_size _ rfl, rfl, rfl⟩, isl.push _⟩ ⟨0, Nat.le_refl 0, setR_new_at (Heap.get?_push_of_some _ at0)⟩ fun s' c' hm hc' hS' => ?_
      obtain ⟨h', g', d', tk', os'⟩ := s'
      cases (show g' = s.gens from hm.gens)
      cases (show d' = s.drawn from hm.drawn)
      cases (show os' = s.os from hm.os)
      show wpAny _ _ _ _ _ _
      refine wpAny_pure ?_
      show wpAny _ _ (ret Value.none) _ _ _
      rw [hz] at hc'
      refine wpAny_pure ⟨rfl, h', tk', c', rfl, hS', hc', fun b o e => ?_⟩
      have b0 : b < s.heap.objs.size := Heap.lt_size e
      refine hm.heap b o ?_ (Heap.get?_push_of_some _ (Heap.get?_push_of_some _ e))
      rw [sz]
      simp
      exact ⟨Nat.ne_of_lt b0, Nat.ne_of_lt (Nat.lt_succ_of_lt b0)⟩
    · match r2, h2 with
      | .error e, h2 => exact h2
      | .ok (.ret r), h2 =>
        obtain ⟨rfl, m⟩ := h2
        repeat (any_goals (first | assumption | wp_step))
        exact k _ ⟨rfl, m⟩
      | .ok .next, h2 => exact h2.elim
      | .ok .brk, h2 => exact h2.elim
      | .ok .cont, h2 => exact h2.elim
  | .ok .next, hr => exact hr.elim
  | .ok .brk, hr => exact hr.elim
  | .ok .cont, hr => exact hr.elim
end
end DL

set_option maxHeartbeats 4000000
/-! DSet: sorted(set(xs)), the rules. -/
namespace DL
open PySem PySem.Spec L2 PyProof.Rows
variable [TN]
/-- the set of the numbers ns at a -/
def SetIO (w : World) (a : Addr) (ns : List Int) : HO := .ext fun h => ∃ c, SetR w h a (fun j => decide (j ∈ ns)) c ∧ c ≤ ns.length
theorem setIO_ok {P : Program} {w : World} {H : Hp} {h : Heap} {a : Addr} {ns : List Int} {c : Nat} (R : SetR w h a (fun j => decide (j ∈ ns)) c) (hc : c ≤ ns.length) : ObjOk P w H h a (SetIO w a ns) := by
  have ⟨o, es, ep, t, ho, _⟩ := R
  refine ⟨⟨c, R, hc⟩, ⟨o, ho⟩, fun h1 h2 p k => ?_⟩
  obtain ⟨c', R', hc'⟩ := p
  exact ⟨c', R'.at k, hc'⟩
def rSetL (K : Fg) (w : World) : List V → Hp → VK → Prop := fun vs H Q => ∃ (l : Addr) (ns : List Int), vs = [V.ref l] ∧ SqL K H l (ns.map V.int) ∧ ns.length ≤ 4000 ∧ ∀ a, H a = none → Q (.ref a) (upd H a (SetIO w a ns))
def rSortedSet (w : World) : List V → Hp → VK → Prop := fun vs H Q => ∃ (a : Addr) (ns : List Int), vs = [V.ref a] ∧ H a = some (SetIO w a ns) ∧ ns.length ≤ 4000 ∧
  ∀ (ys : List Int) (p : Addr), ys.Pairwise (· < ·) → (∀ j, j ∈ ys ↔ j ∈ ns) → H p = none → Q (.ref p) (upd H p (.lst (ys.map V.int)))
theorem set_scan {n : Nat} (h : n ≤ 4000) : n + 1 < scanBound := by unfold scanBound; omega
section
variable {X : Cx}
theorem cr_setL (hc : X.calm = true) : CallR X (.type "set") (rSetL X.K X.w) := by
  intro pins s σ H vs us Q I r h
  obtain ⟨l, ns, rfl, hs, hn, q⟩ := h
  obtain ⟨its, rv, hl, hz⟩ := I.list hs
  rw [Vals.ref1 r]
  have free : H s.heap.objs.size = none := I.hok.fresh (Nat.le_refl _)
  refine set_of_list (I.ok.hd hc) hl.isList (ints_of_vals rv) (set_scan hn) fun s2 m => ?_
  obtain ⟨_, h', tk, c, rfl, R, hcl, kp⟩ := m
  exact ⟨.ref _, _, I.laid (t' := tk) kp (Nat.le_refl _) (setIO_ok R hcl), rfl, q _ free⟩
theorem cr_sortedSet (hc : X.calm = true) : CallR X (.builtin "sorted") (rSortedSet X.w) := by
  intro pins s σ H vs us Q I r h
  obtain ⟨a, ns, rfl, ha, hn, q⟩ := h
  obtain ⟨c, R, hcl⟩ := (I.hok a _ ha).1
  obtain ⟨o, es, ep, t, ho, hex, hdt, g, nd, mem, hb, hf, hn2, hr, hl2⟩ := R
  rw [Vals.ref1 r]
  refine Calls.call_function_entry kind_sorted plain_sorted entry_sorted (args_sorted1 _) ?_
  unfold Builtin.«sorted»
  refine wpAny_bind (m := checkCount "sorted" 1 1 _) (wpAny_pure ?_)
  refine wpAny_bind (collect_set (A := X.A.in1) (I.ok.hd hc) ⟨o, ho, hex.1, hdt⟩ hf hb hr hl2 fun s1 vs k1 hz g1 o1 pm => ?_)
  have hv : ∀ v ∈ vs, ∃ k t, v = Value.int k t := fun v hv => by
    obtain ⟨e, he, ev⟩ := List.mem_map.mp (pm.mem_iff.mp hv)
    obtain ⟨kk, tt, e2, _⟩ := g e he
    exact ⟨kk, tt, ev.symm.trans e2⟩
  have hi : IntsAre vs (vs.map SrtO.iv) := SrtO.ints_iv hv
  have pk : (vs.map SrtO.iv).Perm (es.toList.map L2.keyOf) := by
    have z := pm.map SrtO.iv
    rw [List.map_map] at z
    have ee : es.toList.map (SrtO.iv ∘ fun x => x.2) = es.toList.map L2.keyOf := List.map_congr_left fun e he => by
      obtain ⟨kk, tt, e2, _⟩ := g e he
      show SrtO.iv e.2 = L2.keyOf e
      unfold L2.keyOf
      rw [e2] <;> rfl
    rw [ee] at z
    exact z
  have lv : vs.length ≤ 4000 := by
    rw [pm.length_eq, List.length_map, Array.length_toList, hn2]
    exact Nat.le_trans hcl hn
  have lz : vs.length ≤ sizeLine := by rw [sizeLine_eq]; omega
  refine wpAny_bind (wpAny_newList ?_ lz)
  have hoL : (s1.heap.push (seqObj "list" vs.toArray 0)).get? s1.heap.objs.size = some (seqObj "list" vs.toArray 0) := Heap.get?_push_size _ rfl
  refine wpAny_bind (wpAny_holding (wpAny_call_entry slot_list_sort ⟨_, hoL, rfl⟩ entry_list_sort
    (SrtO.list_sort_ord (s := { s1 with heap := s1.heap.push (seqObj "list" vs.toArray 0) }) SrtO.swo_int hoL lz (fun h2 => SrtO.ints_sortable hi h2) fun out h1 h2 => ⟨.none, rfl, ?_⟩) (args_list_sort _)))
  obtain ⟨q1, q2, q3⟩ := SrtO.ints_out hi h1 h2
  obtain ⟨c, hc2⟩ := sortedHeap_at (vs := vs) (out := out.toArray) hoL
  have np : ((out.map SrtO.iv).map V.int).length ≤ sizeLine := by
    rw [List.length_map, q2.length_eq, List.length_map]
    exact lz
  have pk2 := q2.trans pk
  have hp : H s1.heap.objs.size = none := I.hok.fresh hz
  have kp : ∀ b u, s.heap.get? b = some u → (sortedHeap (s1.heap.push (seqObj "list" vs.toArray 0)) s1.heap.objs.size vs out.toArray).get? b = some u := fun b u e => by
    have q := k1 b u e
    have hlt := Heap.lt_size q
    rw [sortedHeap_old (Nat.ne_of_lt hlt) (by rw [size_push']; exact Nat.lt_succ_of_lt hlt)]
    exact Heap.get?_push_of_some _ q
  refine wpAny_pure ⟨_, rfl, ?_⟩
  have J : Inv X pins σ (upd H s1.heap.objs.size (.lst ((out.map SrtO.iv).map V.int))) { s with heap := sortedHeap (s1.heap.push (seqObj "list" vs.toArray 0)) s1.heap.objs.size vs out.toArray, gens := s1.gens, drawn := s1.drawn, toks := s1.toks } :=
    I.call (ch := []) (Un.laid kp hz hp) (I.hok.laid kp hz ⟨np, out, c, vals_of_ints q1, hc2⟩) (by rw [g1]; exact I.bare) (fun _ z => nomatch z)
  have e : ({ s1 with heap := sortedHeap (s1.heap.push (seqObj "list" vs.toArray 0)) s1.heap.objs.size vs out.toArray } : Shared) = { s with heap := sortedHeap (s1.heap.push (seqObj "list" vs.toArray 0)) s1.heap.objs.size vs out.toArray, gens := s1.gens, drawn := s1.drawn, toks := s1.toks } := by
    cases s1
    cases s
    cases o1
    rfl
  have asc : (out.map SrtO.iv).Pairwise (· < ·) := (q3.and (pk2.nodup_iff.mpr nd)).imp fun h => by have := h.1; have := h.2; omega
  have fin := q (out.map SrtO.iv) s1.heap.objs.size asc (fun j => by rw [pk2.mem_iff, ← mem j, decide_eq_true_eq]) hp
  have J2 := e ▸ J
  exact ⟨.ref s1.heap.objs.size, _, J2, rfl, fin⟩
end
section
variable {K : Fg} {cl : Cl} {W : WX} {w : World}
theorem rfn_setSorted {tr : TA} {r : DA} (hr : RfA K cl W tr r) : RfN K cl W (tCB (rSortedSet w) (tCons (tCB (rSetL K w) tr) tNil)) (dBlt fSetSorted r) where
  mono2 := fun E E' ρ P P' hE h q => hr.mono2 E E' ρ _ _ hE (fun x q => by
    match x, q with
    | [.lst l], q =>
      simp only [fSetSorted] at q ⊢
      cases e : intsOf l with
      | none => rw [e] at q; exact q.elim
      | some ns => rw [e] at q; exact ⟨q.1, fun ys h1 h2 => h _ (q.2 ys h1 h2)⟩) q
  ok := fun F0 H0 F H σ ρ E Q hh le q => by
    refine hr.ok F0 H0 F H σ ρ E _ hh le (hr.mono E ρ _ _ (fun x q v F1 H1 g1 r1 => ?_) q)
    match x, q, r1 with
    | [.lst l], q, .cons (.lst e rr) .nil =>
      simp only [fSetSorted] at q
      cases e1 : intsOf l with
      | none => rw [e1] at q; exact q.elim
      | some ns =>
        rw [e1] at q
        have ev := ints_reps e1 rr
        subst ev
        refine ⟨_, ns, rfl, SqL.of (g1.s _ _ e), q.1, fun a ha => ⟨a, ns, rfl, upd_same, q.1, fun ys p h1 h2 hp => ?_⟩⟩
        have hp1 : H1 p = none := by
          by_cases z : p = a
          · rw [z]; exact ha
          · rw [upd_ne z] at hp; exact hp
        have k1 : Nx H1 (upd H1 a (SetIO w a ns)) := nx_upd ha (fun ps z => by unfold SetIO at z; cases z)
        have s2 : Same F1 (upd H1 a (SetIO w a ns)) := g1.s.trans k1.s
        exact q.2 ys h1 h2 p F1 _ (g1.trans (Gr.h g1.s (k1.trans (nx_upd hp)))) (g1.k.free hp1) (s2.free hp) ⟨_, upd_same, reps_ints ys⟩
end
section
variable {X : Cx} {K : Fg} {cl : Cl} {W : WX} {pos : Pos}
theorem vn_setSorted {p p2 pos2 : Pos} {e : Expr} {t : TA} {q : DA} (hc : X.calm = true) (hg : Gl X "sorted") (hm : X.mg "sorted" = none) (hg2 : Gl X "set") (hm2 : X.mg "set" = none) (ha : VA X K cl W [e] t q)
    (he : starEach [e] X.env = (false, eval e X.env) :: starEach [] X.env := by rfl) (hpl : (backTo pos2 (starEach [] X.env)).any (·.1) = false := by rfl)
    (he2 : starEach [Expr.Call (.Name "set" p2) [e] [] pos2] X.env = (false, eval (Expr.Call (.Name "set" p2) [e] [] pos2) X.env) :: starEach [] X.env := by rfl) (hpl2 : (backTo pos (starEach [] X.env)).any (·.1) = false := by rfl) :
    VN X K cl W (.Call (.Name "sorted" p) [.Call (.Name "set" p2) [e] [] pos2] [] pos) (tCB (rSortedSet X.w) (tCons (tCB (rSetL K X.w) t) tNil)) (dBlt fSetSorted q) := by
  obtain rfl := ha.hK
  have h1 : PE X (.Call (.Name "set" p2) [e] [] pos2) (tCB (rSetL X.K X.w) t) := pe_callTy (cr_setL hc) hg2 hm2 (by decide +kernel) ha.pe (by decide) (by decide) he hpl
  exact ⟨pe_callB (cr_sortedSet hc) hg hm (by decide +kernel) (pa_cons h1 pa_nil) (by decide) (by decide) he2 hpl2, rfn_setSorted ha.rf, rfl⟩
end
end DL

set_option maxHeartbeats 400000
/-! DObj: instances of the def's own that change behind their making. -/
namespace DL
open PySem L2 PyProof.Rows
variable [TN]
theorem gIO_out {c : String} {o : Option Sl} {Q : List (Str × D) → Prop} (h : gIO c o Q) : ∃ fs, o = some (.o (.ins c fs)) ∧ Q fs := by
  unfold gIO at h
  split at h
  · obtain ⟨rfl, q⟩ := h
    exact ⟨_, rfl, q⟩
  · exact h.elim
theorem gIO_in {c : String} {o : Option Sl} {Q : List (Str × D) → Prop} {fs : List (Str × D)} (e : o = some (.o (.ins c fs))) (h : Q fs) : gIO c o Q := by
  rw [e]
  exact ⟨rfl, h⟩
section
variable {K : Fg} {cl cl' : Cl} {W : WX}
/-! ### making one -/
/-- the promise of an __init__ whose instance stays the caller's own -/
def spMI (K : Fg) (cl : Cl) (c : String) (Wf : DF) : Sp := fun vs H Q E => ∃ x dx C us Hb F ds Q' E', vs = .ref x :: us ∧ cl.nm c = some C ∧ H = upd (upd Hb dx (.own x)) x (.ins C dx []) ∧ Hb x = none ∧ Hb dx = none ∧ dx ≠ x ∧ Same F Hb ∧ Reps K cl F us ds ∧ Wf ds Q' E' ∧
  (∀ d, Q' d → ∀ F' H', Gr F Hb F' H' → F' x = none → Own K cl F' H' x d → Q .non H') ∧ ∀ err, E' err → False
theorem rfn_makeI {c : String} {C : Addr} {Wf : DF} {tr : TA} {r : DA} (hC : cl.nm c = some C) (hr : RfA K cl W tr r) : RfN K cl W (tMake C (spMI K cl c Wf) [] (fun _ _ _ => False) tr) (dMake Wf r) where
  mono2 := fun E E' ρ P P' hE h q => hr.mono2 E E' ρ _ _ hE (fun xs q => q.mono h fun e z => z) q
  ok := fun F0 H0 F H σ ρ E Q hh le q => by
    refine hr.ok F0 H0 F H σ ρ E _ hh le (hr.mono E ρ _ _ (fun xs q vs F1 H1 g1 r1 => ?_) q)
    obtain ⟨Q', E', q, a, b⟩ := q
    intro x dx hx hdx ne
    exact ⟨x, dx, C, vs ++ [], H1, F1, xs, Q', E', rfl, hC, rfl, hx, hdx, ne, g1.s, by rw [List.append_nil]; exact r1, q, fun d z F' H' g nf w => ⟨rfl, a d z x F' H' (g1.trans g) (g1.k.free hx) nf w⟩, b⟩
/-! ### expressions that change what is own -/
structure RfEX (K : Fg) (cl : Cl) (W : WX) (te : TE) (t : DX) : Prop where
  mono2 : ∀ E E' ρ (P P' : D → DL.Env → Prop), (∀ e ρ, E e ρ → E' e ρ) → (∀ d ρ, P d ρ → P' d ρ) → t E ρ P → t E' ρ P'
  ok : ∀ F0 H0 F H σ ρ E (Q : VK), Hold K cl F0 H0 F H σ ρ → LinkE K cl F0 H0 W E → t E ρ (fun d ρ' => ∀ v F' H', Hold K cl F0 H0 F' H' σ ρ' → Rep K cl F' v d → Q v H') → te σ H Q
theorem rfx_meth {c : String} {C : Addr} {m : Str} {i : Nat} {Wf : DF} {tr : TA} {r : DA} (hC : cl.nm c = some C) (hr : RfA K cl W tr r) : RfEX K cl W (tMeth C m (spX K cl 0 Wf) [] (fun _ _ _ => False) (tVar i) tr) (xMeth c m i Wf r) where
  mono2 := fun E E' ρ P P' hE h q => by
    obtain ⟨fs, e, n, q⟩ := gIO_out q
    exact gIO_in e ⟨n, hr.mono2 E E' ρ _ _ hE (fun xs q => q.mono (fun d z => gPair_mono (fun _ _ z => h _ _ z) z) fun e z => z) q⟩
  ok := fun F0 H0 F H σ ρ E Q hh le q => by
    obtain ⟨fs, e, hm, q⟩ := gIO_out q
    obtain ⟨a, ea, n0, nf, ws, ⟨C', dx, nC, ho, hd, me⟩, rr⟩ := hh.ownAt e
    rw [hC] at nC
    cases nC
    rcases rr.look m with ⟨_, hm2⟩ | ⟨v, d, z1, _⟩
    rotate_left
    · rw [z1] at hm; cases hm
    refine ⟨.ref a, ea, a, dx, ws, rfl, ho, hm2, ?_⟩
    refine hr.ok F0 H0 F H σ ρ E _ hh le (hr.mono E ρ _ _ (fun xs q vs F1 H1 g1 r1 => ?_) q)
    obtain ⟨Q', E', q, p1, p2⟩ := q
    have h1 := hh.grow g1
    have nf1 := g1.keepNone ho nf
    have w : Own K cl F1 H1 a (.ins c fs) := Own.mono g1.f (fun o e n => g1.k.o _ _ e n) ⟨ws, ⟨_, dx, hC, ho, hd, me⟩, rr⟩
    refine ⟨F1, .ins c fs :: xs, Q', E', a, g1.s, nf1, ⟨by simp [r1.length], ⟨.ins c fs, rfl, rfl, w⟩, fun k v x ne e1 e2 => ?_⟩, q, fun r z => gPair_mono (fun d o y v F' H' g nf' w rv => y v F' H' (h1.mutG ea e g nf' w) rv) (p1 r z), fun err z => (p2 err z).elim⟩
    cases k with
    | zero => exact absurd rfl ne
    | succ k =>
      obtain ⟨v', e3, r3⟩ := r1.get (j := k) (by simpa using e2)
      have e1' : vs[k]? = some v := by simpa using e1
      rw [e1'] at e3
      cases e3
      exact r3
theorem flat_all {v : V} {d : D} {F : Hp} (h : isFlat d = true) (r : Rep K cl F v d) : ∀ F' : Hp, Rep K cl F' v d := fun F' => by
  cases r with
  | non => exact .non
  | bl b => exact .bl b
  | int b => exact .int b
  | str b => exact .str b
  | _ => cases h
theorem rfs_first {tx : TE} {t : DX} {ts : TE → TS} {s : DT → DS} (hx : RfEX K cl W tx t) (hc : ∀ A σ H, tx σ H (fun v H' => ts (tC v) A σ H') → ts tx A σ H) (hs : ∀ v d, (∀ F, Rep K cl F v d) → RfS K cl W (ts (tC v)) (s (dC d))) (some_ : ∀ d, isFlat d = true → ∃ v, ∀ F, Rep K cl F v d) : RfS K cl W (ts tx) (sFirst t s) where
  mono2 := fun E E' A B ρ hE l q => hx.mono2 E E' ρ _ _ hE (fun d ρ' q => ⟨q.1, by
    obtain ⟨v, hv⟩ := some_ d q.1
    exact (hs v d hv).mono2 E E' A B ρ' hE l q.2⟩) q
  ok := fun F0 H0 F H σ ρ E B A hh le ld q => by
    refine hc _ _ _ (hx.ok F0 H0 F H σ ρ E _ hh le (hx.mono2 E E ρ _ _ (fun _ _ z => z) (fun d ρ' q v F' H' h' rv => ?_) q))
    exact (hs v d (flat_all q.1 rv)).ok F0 H0 F' H' σ ρ' E B A h' le ld q.2
theorem flat_some (d : D) (h : isFlat d = true) : ∃ v, ∀ F, Rep K cl F v d := by
  cases d <;> first | exact ⟨_, fun F => .non⟩ | exact ⟨_, fun F => .bl _⟩ | exact ⟨_, fun F => .int _⟩ | exact ⟨_, fun F => .str _⟩ | cases h
/-! ### self.f op= value -/
theorem rfs_fldA {c : String} {i : Nat} {f : Str} {op : D → D → DK → Prop} {rd : V → V → Hp → VK → Prop} {ta : TE} {t : DT} (hC : ∀ C, cl.nm c = some C → L2.Cls K C ∧ NoAttr K C f) (o : RfOp K cl rd op) (ha : RfE K cl W ta t) : RfS K cl W (sFldAug K (tVar i) ta rd f) (sFldA c i f op t) where
  mono2 := fun E E' A B ρ hE l q => by
    obtain ⟨fs, e, q⟩ := gIO_out q
    refine gIO_in e ?_
    cases z : fs.lookup f with
    | none => rw [z] at q; exact q.elim
    | some x =>
      rw [z] at q
      exact ha.mono2 E E' ρ _ _ hE (fun y q => o.mono x y _ _ (fun d q => ⟨q.1, l.nx _ q.2⟩) q) q
  ok := fun F0 H0 F H σ ρ E B A hh le ld q => by
    obtain ⟨fs, e, q⟩ := gIO_out q
    obtain ⟨a, ea, n0, nf, ws, ⟨C, dx, nC, ho, hd, me⟩, rr⟩ := hh.ownAt e
    obtain ⟨h1, h2⟩ := hC _ nC
    rcases rr.look f with ⟨z, _⟩ | ⟨v, x, z1, z2, z3⟩
    · rw [z] at q
      exact q.elim
    · rw [z1] at q
      refine ⟨.ref a, ea, a, C, dx, ws, v, rfl, ho, h1, h2, z2, ?_⟩
      refine ha.ok F0 H0 F H σ ρ E _ hh le (ha.mono E ρ _ _ (fun y q u F1 H1 g1 r1 => ?_) q)
      refine o.ok F1 H1 v u x y _ g1.s (z3.mono g1.f) r1 (o.mono x y _ _ (fun d q v' F' H' g2 r2 => ?_) q)
      have g := g1.trans g2
      refine ⟨dx, ws, g.k.get ho, by rw [rr.length]; exact q.1, ?_⟩
      exact ld.nx _ _ _ _ ((hh.grow g).mut (d' := .ins c (putFD f d fs)) ea e ⟨_, ⟨C, dx, nC, upd_same, g.f _ _ hd, me⟩, (rr.mono g.f).put f r2⟩) q.2
end
end DL

set_option maxHeartbeats 400000
/-! DObjV: the rules for instances that change. -/
namespace DL
open PySem L2 PyProof.Rows
variable [TN]
section
variable {P : Program} {w : World} {K : Fg} {cl cl' : Cl} {mg : Str → Option Value} {base : Heap}
theorem fn_clMI {k : Nat} {f : Addr} {fd : FuncData} {ps : List Str} {Wf : DF} {c : String} (F : FnOk P w K mg base (L2.CX P w) k f fd ps (spMI K cl c Wf)) (n : cl'.nm = cl.nm) (o : cl'.so = cl.so) (m : cl'.me = cl.me) : FnOk P w K mg base (L2.CX P w) k f fd ps (spMI K cl' c Wf) :=
  F.imp fun vs H Q E ⟨x, dx, C, us, Hb, F0, ds, Q', E', e1, e2, e3, e4, e5, e6, e7, r, q, a, b⟩ => ⟨x, dx, C, us, Hb, F0, ds, Q', E', e1, by rw [← n]; exact e2, e3, e4, e5, e6, e7, r.toCl n.symm o.symm, q, fun d z F' H' g nf r => a d z F' H' g nf (r.toCl n o m), b⟩
/-- THE RULE for an __init__ whose instance stays the caller's own -/
theorem fn_okMI {x qual : Str} {st : Stmt} {f : Addr} {fd : FuncData} {N ps : List Str} {k : Nat} {b : DS} {c : String} (F : Fun K x qual st f fd) (S : FnScope N ps (defScope st)) (hp : ps.length ≤ N.length)
    (hb : ∀ (me : Addr) (cdv : Value) (A : Around) (outer : List PySem.Env) (s : Shared) (H : Hp) (E : XK), Room k (A.deeper (envOfC qual (defScope st) s.heap.objs.size f cdv)) →
      ∃ t, VSs (cxOf (L2.CX P w) P w K mg base N qual (defScope st) f cdv A outer s H E) K { cl with me := some me } (fun c d _ H' => E c d H') (defBody st) t b) (hpn : cl.pin 0 = none := by rfl) (ht : cl.tabs = [] := by rfl) (hme : cl.me = none := by rfl) :
    FnOk P w K mg base (L2.CX P w) (k + 1) f fd ps (spMI K cl c (mkT c ps.length N.length b)) := by
  refine F.okX S (fun vs H Q E h => ?_) (fun cdv A outer s H vs Q E hr h => ?_)
  · obtain ⟨x, dx, C, us, Hb, F0, ds, Q', E', rfl, _, _, _, _, _, _, r, ⟨hl, _⟩, _⟩ := h
    rw [List.length_cons, r.length]
    exact hl
  · obtain ⟨y, dy, C, us, Hb, F0, ds, Q', E', rfl, hC, rfl, hy, hdy, ne, s0, r, ⟨hl, q⟩, hQ, hE⟩ := h
    obtain ⟨t, h⟩ := hb y cdv A outer s _ E hr
    refine ⟨t, h.pe, ?_⟩
    have hn : (V.non :: us).length ≤ N.length := by rw [List.length_cons, r.length, hl]; exact hp
    have r1 : Reps K { cl with me := some y } F0 (V.non :: us) (D.non :: ds) := .cons .non (Reps.toCl (cl := cl) (cl' := { cl with me := some y }) rfl rfl r)
    have h0 := start_hold s0 (.nil (cl := { cl with me := some y }) ht) r1 hn
    have ny : y ≠ dy := fun z => ne z.symm
    have fdy : F0 dy = none := s0.free hdy
    have g1 : Gr F0 Hb (upd F0 dy (.own y)) (upd Hb dy (.own y)) := Gr.new s0 hdy
    have free : (upd Hb dy (.own y)) y = none := by rw [upd_ne ny]; exact hy
    have g2 : Gr (upd F0 dy (.own y)) (upd Hb dy (.own y)) (upd F0 dy (.own y)) (upd (upd Hb dy (.own y)) y (.ins C dy [])) := Gr.h g1.s (nx_upd free)
    have h1 := Hold.own (cl := { cl with me := some y }) (i := 0) (d := .ins c []) (a := y) hpn h0 (g1.trans g2) hy (by rw [upd_ne ny]; exact s0.free hy) ⟨[], ⟨C, dy, hC, upd_same, upd_same, fun m z => (Option.some.inj z).symm⟩, .nil⟩
    refine h.rf.ok F0 Hb _ _ _ _ (fun e _ => E' e) { nx := madeQ Q', rt := fun _ => False } { nx := fun _ H' => Q .non H', rt := Q } h1 (fun err ρ σ F' H' c dx h e re => (hE err e).elim)
      ⟨fun F' H' σ ρ h q => ?_, fun _ _ _ _ _ z => z.elim, fun _ _ _ _ _ z => z.elim, fun F' H' v d g r _ q => q.elim, fun _ _ _ _ _ _ _ _ z => z.elim⟩ q
    have q : madeQ Q' ρ := q
    unfold madeQ at q
    split at q
    · rename_i c2 fs e
      obtain ⟨a, ea, n0, nf, ws, ⟨C2, dx2, n2, z1, z2, z3⟩, z4⟩ := h.ownAt e
      obtain rfl := z3 _ rfl
      exact hQ _ q F' H' h.g nf ⟨ws, ⟨C2, dx2, n2, z1, z2, fun m z => by rw [hme] at z; cases z⟩, FReps.toCl (cl := { cl with me := some y }) (cl' := cl) rfl rfl z4⟩
    · exact q.elim
end
section
variable {X : Cx} {K : Fg} {cl : Cl} {W : WX} {pos : Pos}
theorem vn_makeI {c : String} {C : Addr} {Wf : DF} {k : Nat} {f : Addr} {fd : FuncData} {ps : List Str} {x : Str} {p : Pos} {e : Expr} {es : List Expr} {t : TA} {q : DA} (F : FnOk X.prog X.w X.K X.mg X.base (L2.CX X.prog X.w) k f fd ps (spMI X.K cl c Wf)) (hr : Room (k + 1) X.A) (M : Mk X.K C f) (hg : Gl X x) (hm : X.mg x = some (.ref C)) (hb : Binds X.K fd ps []) (hC : cl.nm c = some C)
    (ha : VA X K cl W (e :: es) t q) (hdb : (x == ("__debug__" : Str)) = false := by decide) (he : starEach (e :: es) X.env = (false, eval e X.env) :: starEach es X.env := by rfl) (hpl : (backTo pos (starEach es X.env)).any (·.1) = false := by rfl) :
    VN X K cl W (.Call (.Name x p) (e :: es) [] pos) (tMake C (spMI K cl c Wf) [] (fun _ _ _ => False) t) (dMake Wf q) := by
  obtain rfl := ha.hK
  exact ⟨pe_make M F hr hg hm hb .nil pass_no ha.pe hdb he hpl, rfn_makeI hC ha.rf, rfl⟩
/-- an expression that changes what is own, ruled -/
structure VEX (X : Cx) (K : Fg) (cl : Cl) (W : WX) (e : Expr) (te : TE) (t : DX) : Prop where
  pe : PE X e te
  rf : RfEX K cl W te t
  hK : X.K = K
theorem vex_meth {c : String} {C : Addr} {m x : Str} {i : Nat} {Wf : DF} {k : Nat} {f : Addr} {fd : FuncData} {ps : List Str} {e : Expr} {es : List Expr} {t : TA} {q : DA} {p1 apos : Pos} {pl : Sem Bool} (F : FnOk X.prog X.w X.K X.mg X.base (L2.CX X.prog X.w) k f fd ps (spX X.K cl 0 Wf)) (hr : Room k X.A) (c1 : L2.Cls X.K C) (hm : Meth X.K C m f) (hb : Binds X.K fd ps []) (hC : cl.nm c = some C)
    (ha : VA X K cl W (e :: es) t q) (hN : X.N[i]? = some x := by rfl) (hv : Vis X.env.scope x := by first | exact Or.inl rfl | exact Or.inr (Or.inl rfl) | exact Or.inr (Or.inr rfl)) (hd : (x == ("__debug__" : Str)) = false := by decide) (hcd : (x == ("__classdict__" : Str)) = false := by decide)
    (hst : starEach (e :: es) X.env = (false, eval e X.env) :: starEach es X.env := by rfl) (hpl : (backTo pos (starEach es X.env)).any (·.1) = false := by rfl)
    (ht : eval (.Call (.Attribute (.Name x p1) m apos) (e :: es) [] pos) X.env = (do
      let ov ← eval (.Name x p1) X.env
      standAt apos.atName
      let (f, first) ← holding [ov] (getMethod ov m pl)
      callWith pos f first (backTo pos (starEach (e :: es) X.env)) (backToKw pos (keywordEach [] X.env))) := by rfl) :
    VEX X K cl W (.Call (.Attribute (.Name x p1) m apos) (e :: es) [] pos) (tMeth C m (spX K cl 0 Wf) [] (fun _ _ _ => False) (tVar i) t) (xMeth c m i Wf q) := by
  obtain rfl := ha.hK
  exact ⟨pe_meth (pe_var hN hv hd hcd) c1 hm F hr hb .nil pass_no ha.pe hst hpl ht, rfx_meth hC ha.rf, rfl⟩
/-- x.m(..), its value dropped -/
theorem vs_dropX {e : Expr} {te : TE} {t : DX} (h : VEX X K cl W e te t) (hs : swapsWith e none pos.line X.env = pure false := by rfl) : VS X K cl W (.Expr e pos) (tDrop te) (sFirst t sDrop) := by
  obtain rfl := h.hK
  exact ⟨ps_expr h.pe hs, rfs_first (ts := tDrop) h.rf (fun _ _ _ z => z) (fun v d z => rfs_drop (rfe_c z)) flat_some, rfl⟩
/-- if not g(x.m(..), ..) or u: return False -/
theorem vs_ifNotX {Wf : DF} {k : Nat} {f : Addr} {fd : FuncData} {ps : List Str} {g : Str} {e b : Expr} {es rest : List Expr} {te : TE} {tz : TA} {z : DA} {t : DX} {tu : TT} {u : DB} {p cpos np bp rp cp : Pos} {cj : Nat} (F : FnOk X.prog X.w K X.mg X.base (L2.CX X.prog X.w) k f fd ps (spD K cl Wf)) (hr : Room k X.A) (hg : Gl X g) (mg : X.mg g = some (.ref f)) (hk : PySem.W.keepIn K (.ref f) = true)
    (hb : Binds K fd ps []) (tk : Takes X W) (hx : VEX X K cl W e te t) (hz : VA X K cl W es tz z) (hu : VW X K cl W (.BoolOp .Or (b :: rest) bp) tu u) (fr : cl.fr = false := by rfl) (hdb : (g == ("__debug__" : Str)) = false := by decide) (hst : starEach (e :: es) X.env = (false, eval e X.env) :: starEach es X.env := by rfl) (hpl : (backTo cpos (starEach es X.env)).any (·.1) = false := by rfl)
    (he : ∀ whole, isTrue (.Call (.Name g p) (e :: es) [] cpos) X.env whole = (do let v ← whole; standAt (Expr.Call (.Name g p) (e :: es) [] cpos).pos; holding [v] (truthy v)) := by intro _; rfl) :
    VS X K cl W (.If (.BoolOp .Or (.UnaryOp .Not (.Call (.Name g p) (e :: es) [] cpos) np :: b :: rest) bp) [.Return (some (.Constant (.bool false) cj cp)) rp] [] pos)
      (tIfS (tOr (tNot (tB (tCallSD (spD K cl Wf) [] (fun σ => WE W σ) (tCons te tz)))) tu) (tRet (tC (.bl false))) L2.tNext) (sFirst t (sIfNotX Wf z u)) := by
  obtain rfl := hx.hK
  refine ⟨ps_if (pw_or (pt_not (pt_val (pe_callSD F hr hg mg hk hb .nil (passAt tk) (pa_cons hx.pe hz.pe hst) hdb hst hpl) he)) hu.pe).pt (pss_one (ps_ret pe_bl)) pss_nil, ?_, rfl⟩
  refine rfs_first (ts := fun y => tIfS (tOr (tNot (tB (tCallSD (spD X.K cl Wf) [] (fun σ => WE W σ) (tCons y tz)))) tu) (tRet (tC (.bl false))) L2.tNext) hx.rf (fun _ _ _ z => z) (fun v d y => ?_) flat_some
  exact rfs_if (rfb_or (rfb_not (rfb_T (rfe_call0 (rfa_cons (rfe_c y) hz.rf)))) hu.rf) (rfs_ret fr (rfe_c fun _ => .bl _)) rfs_next
/-! self.f += e, self.f -= e -/
theorem vs_fldAdd {i : Nat} {c : String} {f x : Str} {e : Expr} {te : TE} {t : DT} {p1 pos' : Pos} (he : VE X K cl W e te t) (hC : ∀ C, cl.nm c = some C → L2.Cls K C ∧ NoAttr K C f) (hN : X.N[i]? = some x := by rfl) (hv : Vis X.env.scope x := by first | exact Or.inl rfl | exact Or.inr (Or.inl rfl) | exact Or.inr (Or.inr rfl)) (hd : (x == ("__debug__" : Str)) = false := by decide) (hcd : (x == ("__classdict__" : Str)) = false := by decide) :
    VS X K cl W (.AugAssign (.Attribute (.Name x p1) f pos') .Add e pos) (sFldAug K (tVar i) te (rI0 fun i j => .int (i + j)) f) (sFldA c i f oAddI t) := by
  obtain rfl := he.hK
  exact ⟨ps_fldaug (pe_var hN hv hd hcd) he.pe iop_add, rfs_fldA hC (rf_I0 (fun _ _ _ => rfl) fun x y Q q => by cases x <;> cases y <;> first | exact ⟨_, _, rfl, rfl⟩ | exact q.elim) he.rf, rfl⟩
theorem vs_fldSub {i : Nat} {c : String} {f x : Str} {e : Expr} {te : TE} {t : DT} {p1 pos' : Pos} (he : VE X K cl W e te t) (hC : ∀ C, cl.nm c = some C → L2.Cls K C ∧ NoAttr K C f) (hN : X.N[i]? = some x := by rfl) (hv : Vis X.env.scope x := by first | exact Or.inl rfl | exact Or.inr (Or.inl rfl) | exact Or.inr (Or.inr rfl)) (hd : (x == ("__debug__" : Str)) = false := by decide) (hcd : (x == ("__classdict__" : Str)) = false := by decide) :
    VS X K cl W (.AugAssign (.Attribute (.Name x p1) f pos') .Sub e pos) (sFldAug K (tVar i) te (rI0 fun i j => .int (i - j)) f) (sFldA c i f oSub t) := by
  obtain rfl := he.hK
  exact ⟨ps_fldaug (pe_var hN hv hd hcd) he.pe iop_sub, rfs_fldA hC rf_sub he.rf, rfl⟩
end
end DL

/-! DSortD0: sorted of a tuple, over the heap. -/
namespace DL
open PySem PySem.Calls PySem.Spec PyProof.Rows PySem.W
section
variable {prog : Program} {s : Shared}
variable {A : Around} {w : World} {E : Value → Shared → Prop}
/-- a tuple's items, told one by one into a new list -/
theorem collect_tup {a : Addr} {its : List Value} {Q : List Value → Shared → Prop} (ht : ∃ o, s.heap.get? a = some o ∧ o.cls = .type "tuple" ∧ ∃ n, o.data = .seq its.toArray n) (hz : its.length ≤ sizeLine)
    (q : Q its { s with heap := (s.heap.push (seqObj "list" #[] 0)).update s.heap.objs.size (Obj.mapSeq (· ++ its.toArray)) }) : wpAny (model prog w) A (collect (.ref a)) Q E s := by
  obtain ⟨o, ho, hcl, n, hd⟩ := ht
  have new : (s.heap.push (seqObj "list" #[] 0)).get? s.heap.objs.size = some (seqObj "list" #[] 0) := Heap.get?_push_size _ rfl
  have old : (s.heap.push (seqObj "list" #[] 0)).get? a = some o := Heap.get?_push_of_some _ ho
  have size : (#[] ++ its.toArray : Array Value).size ≤ sizeLine + 1 := by
    simp only [Array.size_append, List.size_toArray]
    exact Nat.le_succ_of_le (by simpa using hz)
  unfold collect
  refine wpAny_bind (wpAny_runValue (codeAny_builtin (entry_proto_collect') ?_))
  change wpAny _ _ (do again (.builtin "list.__iadd__" ⟨[← newList [], .ref a], []⟩)) _ _ s
  refine wpAny_bind (wpAny_newList (wpAny_pure ⟨Code.quiet_builtin _ (by decide +kernel), codeAny_builtin (entry_list_iadd') ?_⟩))
  change wpAny _ _ (Builtin.List.listExtendWith (.ref s.heap.objs.size) (.ref a) (.ref s.heap.objs.size)) _ _ { s with heap := s.heap.push (seqObj "list" #[] 0) }
  unfold Builtin.List.listExtendWith; refine wpAny_bind (wpAny_typeOf (T := "tuple") ⟨o, old, hcl⟩ ?_)
  have e1 : (Value.type "tuple" == Value.type "tuple") = true := by rfl
  rw [if_pos (by rw [e1]; simp)]
  refine wpAny_bind (listItems_at old hd ?_)
  refine wpAny_bind (listItems_at (xs := #[]) (n := 0) new rfl ?_)
  rw [if_neg (by simp)]
  refine wpAny_bind (listUpdate_at (xs := #[]) (n := 0) new rfl ?_ (Nat.zero_le _) size)
  refine wpAny_pure ?_
  change wpAny (model prog w) A (do
      let o ← load s.heap.objs.size
      match o.data with
      | .seq xs _ => pure xs.toList
      | _ => unsupported "internal:collect") Q E { s with heap := (s.heap.push (seqObj "list" #[] 0)).update s.heap.objs.size (Obj.mapSeq (· ++ its.toArray)) }
  refine wpAny_bind (wpAny_load (get?_update_seq new _) ?_)
  change wpAny _ _ (pure ((#[] : Array Value) ++ its.toArray).toList) Q E _
  have e2 : ((#[] : Array Value) ++ its.toArray).toList = its := by simp
  rw [e2]
  exact wpAny_pure q
/-- sorted of a tuple is list.sort of a new list of its items -/
theorem sorted_of_tup {a : Addr} {its : List Value} {kw : List (Str × Value)} {Q : Value → Shared → Prop} (ht : ∃ o, s.heap.get? a = some o ∧ o.cls = .type "tuple" ∧ ∃ n, o.data = .seq its.toArray n) (hz : its.length ≤ sizeLine)
    (a1 : argsOk "sorted" ⟨[.ref a], kw⟩) (a2 : ∀ x, argsOk "list.sort" ⟨[.ref x], kw⟩)
    (bd : ∀ F : Value → Shared → Prop, wpAny (model prog w) A.in1.in1 (Builtin.«list.sort» ⟨[.ref (s.heap.objs.size + 1)], kw⟩) (fun f t => f = .done (.ret .none) ∧ Q (.ref (s.heap.objs.size + 1)) t) F { s with heap := copyHeap s.heap its }) :
    wpAny (model prog w) A (call (.builtin "sorted") [.ref a] kw) Q E s := by
  refine call_function_entry_kw kind_sorted plain_sorted entry_sorted a1 ?_
  unfold Builtin.«sorted»; refine wpAny_bind (m := checkCount "sorted" 1 1 _) (wpAny_pure ?_)
  refine wpAny_bind (collect_tup ht hz ?_)
  refine wpAny_bind (wpAny_newList ?_ (by exact hz))
  have sz : ((s.heap.push (seqObj "list" #[] 0)).update s.heap.objs.size (Obj.mapSeq (· ++ its.toArray))).objs.size = s.heap.objs.size + 1 := by rw [Heap.size_update, size_push']
  change wpAny _ _ _ _ _ { s with heap := copyHeap s.heap its }
  rw [sz]
  refine wpAny_bind (wpAny_holding (wpAny_call_entry_kw slot_list_sort ⟨_, copyHeap_at s.heap its, rfl⟩ entry_list_sort ?bd (a2 _)))
  case bd =>
    refine wpAny_mono (bd _) (fun f t z => ?_) fun _ _ e => e
    obtain ⟨rfl, z⟩ := z
    exact ⟨_, rfl, wpAny_pure ⟨_, rfl, z⟩⟩
end
end DL

/-! DSortD: sorted of a list or a tuple of data of one form. -/
namespace DL
open PySem L2 PyProof.Rows PySem.W
variable [TN]
section
variable {X : Cx} {K : Fg} {cl : Cl} {W : WX}
section
variable {pins : List (Addr × Obj)} {s : Shared} {σ : L2.St} {F H : Hp}
mutual
/-- what stands for data reads as it -/
theorem rep_reads (inv : L2.Inv X pins σ H s) (sm : Same F H) : ∀ (d : D) (x : V) (u : Value), alike (pyD d) (pyD d) = true → Rep X.K cl F x d → RelV x u → ∃ as, Reads s.heap u (pyD d) as
  | .non, _, _, _, r, h => by
    cases r
    obtain rfl := h
    exact ⟨[], by rw [pyD]; exact .none⟩
  | .bl b, _, _, _, r, h => by
    cases r
    obtain rfl := h
    exact ⟨[], by rw [pyD]; exact .bool _⟩
  | .int i, _, _, _, r, h => by
    cases r
    obtain ⟨t, rfl⟩ := h
    exact ⟨[], by rw [pyD]; exact .int _ _⟩
  | .str z, _, _, _, r, h => by
    cases r
    obtain ⟨t, rfl⟩ := h
    exact ⟨[], by rw [pyD]; exact .str _ _⟩
  | .tup xs, _, _, al, r, h => by
    cases r with
    | tup e rr =>
      obtain rfl := h
      obtain ⟨its, rv, ⟨o, ho, hc, n, hd⟩, _⟩ := inv.tuple (same_t sm e)
      rw [pyD, alike] at al
      obtain ⟨as, ra⟩ := reps_reads inv sm xs _ _ al rr rv
      exact ⟨as, by rw [pyD]; exact .tuple ho hc hd (by simpa using ra)⟩
  | .lst xs, _, _, al, r, h => by
    cases r with
    | lst e rr =>
      obtain rfl := h
      obtain ⟨its, rv, hl, _⟩ := inv.list (SqL.of (sm _ _ e))
      obtain ⟨o, ho, hc, n, hd⟩ := hl.isList
      rw [pyD, alike] at al
      obtain ⟨as, ra⟩ := reps_reads inv sm xs _ _ al rr rv
      exact ⟨_, by rw [pyD]; exact .list ho hc hd (by simpa using ra)⟩
  | .dk _, _, _, al, _, _ => by simp [pyD, alike] at al
  | .dt _, _, _, al, _, _ => by simp [pyD, alike] at al
  | .ins _ _, _, _, al, _, _ => by simp [pyD, alike] at al
  | .st, _, _, al, _, _ => by simp [pyD, alike] at al
  | .scr _, _, _, al, _, _ => by simp [pyD, alike] at al
  | .fn _, _, _, al, _, _ => by simp [pyD, alike] at al
theorem reps_reads (inv : L2.Inv X pins σ H s) (sm : Same F H) : ∀ (l : List D) (xs : List V) (us : List Value), alikeAll (pyDs l) (pyDs l) = true → Reps X.K cl F xs l → Vals xs us → ∃ as, ReadsAll s.heap us (pyDs l) as
  | [], _, _, _, r, h => by
    cases r
    cases h
    exact ⟨[], by rw [pyDs]; exact .nil⟩
  | d :: l, _, _, al, r, h => by
    cases r with
    | cons r1 r2 =>
      cases h with
      | cons h1 h2 =>
        rw [pyDs] at al
        obtain ⟨a1, a2⟩ := alike_all_cons al
        obtain ⟨as, z1⟩ := rep_reads inv sm d _ _ a1 r1 h1
        obtain ⟨bs, z2⟩ := reps_reads inv sm l _ _ a2 r2 h2
        exact ⟨as ++ bs, by rw [pyDs]; exact .cons z1 z2⟩
end
theorem each_rep : ∀ {xs : List V} {us : List Value} {l : List D}, Vals xs us → Reps X.K cl F xs l → EachIs (fun u d => ∃ x, RelV x u ∧ Rep X.K cl F x d) us l
  | _, _, _, .nil, .nil => .nil
  | _, _, _, .cons h1 h2, .cons r1 r2 => .cons ⟨_, h1, r1⟩ (each_rep h2 r2)
theorem rep_each : ∀ {us : List Value} {l : List D}, EachIs (fun u d => ∃ x, RelV x u ∧ Rep X.K cl F x d) us l → ∃ xs, Vals xs us ∧ Reps X.K cl F xs l
  | _, _, .nil => ⟨[], .nil, .nil⟩
  | _, _, .cons ⟨x, h1, r1⟩ t => by
    obtain ⟨xs, h2, r2⟩ := rep_each t
    exact ⟨x :: xs, .cons h1 h2, .cons r1 r2⟩
theorem each_reads (inv : L2.Inv X pins σ H s) (sm : Same F H) {us : List Value} {l : List D} (al : ∀ d ∈ l, alike (pyD d) (pyD d) = true) (e : EachIs (fun u d => ∃ x, RelV x u ∧ Rep X.K cl F x d) us l) : EachIs (fun u d => ∃ as, Reads s.heap u (pyD d) as) us l := by
  induction e with
  | nil => exact .nil
  | cons h t ih =>
    obtain ⟨x, h1, r1⟩ := h
    exact .cons (rep_reads inv sm _ _ _ (al _ (by simp)) r1 h1) (ih fun d hd => al d (by simp [hd]))
end
def rSortD (K : Fg) (cl : Cl) : List V → Hp → VK → Prop := fun vs H Q => ∃ (a : Addr) (F : Hp) (xs : List V) (l : List D), vs = [.ref a] ∧ Same F H ∧ (SqL K H a xs ∨ SqT K H a xs) ∧ Reps K cl F xs l ∧ SrtOk l ∧
  ∀ ys p, Reps K cl F ys (l.mergeSort leD) → H p = none → Q (.ref p) (upd H p (.lst ys))
theorem cr_sortD (hu : X.A.units + 65 < cLine) : CallR X (.builtin "sorted") (rSortD X.K cl) := by
  rintro pins s σ H vs us Q inv r ⟨a, F, xs, l, rfl, sm, hs, rp, ok, q⟩
  obtain ⟨u, rfl, e0⟩ := vals1 r
  obtain rfl : u = .ref a := e0
  have al : ∀ d ∈ l, alike (pyD d) (pyD d) = true := fun d hd => ok.al _ (List.mem_map.mpr ⟨d, hd, rfl⟩) _ (List.mem_map.mpr ⟨d, hd, rfl⟩)
  have main : ∀ its : List Value, Vals xs its → its.length ≤ sizeLine →
      ((∀ F : Value → Shared → Prop, wpAny (model X.prog X.w) X.A.in1.in1 (Builtin.«list.sort» ⟨[.ref (s.heap.objs.size + 1)], []⟩) (fun f t => f = .done (.ret .none) ∧ EP X pins σ Q (.ref (s.heap.objs.size + 1)) t) F { s with heap := copyHeap s.heap its }) →
        wpAny (model X.prog X.w) X.A (call (.builtin "sorted") [.ref a]) (EP X pins σ Q) X.xe s) →
      wpAny (model X.prog X.w) X.A (call (.builtin "sorted") [.ref a]) (EP X pins σ Q) X.xe s := by
    intro its rv hz k
    have ee := each_rep rv rp
    have er := each_reads inv sm al ee
    refine k fun G => ?_
    have er' : EachIs (fun v d => ∃ as, Reads (sortingHeap (copyHeap s.heap its) (s.heap.objs.size + 1) its) v (pyD d) as) its l := er.mono fun _ _ ⟨as, z⟩ => ⟨as, PyProof.Rows.Reads.keeps (fun _ _ => sorting_copy_old) z⟩
    refine list_sort_vals (s := { s with heap := copyHeap s.heap its }) (copyHeap_at s.heap its) (SortsAt.data (s := { s with heap := sortingHeap (copyHeap s.heap its) (s.heap.objs.size + 1) its }) (each_map (R := fun v d => ∃ as, Reads (sortingHeap (copyHeap s.heap its) (s.heap.objs.size + 1) its) v d as) pyD er') ok.al ok.so ?_) hz ⟨rfl, ?_⟩
    · intro d hd
      obtain ⟨z, hz', rfl⟩ := List.mem_map.mp hd
      have := ok.dp z hz'
      show X.A.units + 2 + _ < cLine
      omega
    · obtain ⟨ys, vy, ry⟩ := rep_each (sortVals_data false ee er' ok.al)
      obtain ⟨c, hc⟩ := sortedAll_at s.heap its (sortVals (dataKind (sortingHeap (copyHeap s.heap its) (s.heap.objs.size + 1) its) (l.map pyD)) false its its).toArray
      refine ⟨.ref _, upd H (s.heap.objs.size + 1) (.lst ys), inv.laid (t' := s.toks) (fun b o e => sortedAll_old e) (Nat.le_succ _) ⟨?_, _, c, vy, hc⟩, rfl, q ys _ ry (inv.hok.fresh (Nat.le_succ _))⟩
      rw [vy.length, sortVals_length false rfl]
      exact hz
  rcases hs with hs | hs
  · obtain ⟨its, rv, hl, hz⟩ := inv.list hs
    have hz' : its.length ≤ sizeLine := by rw [← rv.length]; exact hz
    exact main its rv hz' fun bd => sorted_of_sort hl.isList hz' (args_sorted1 _) (fun _ => args_list_sort _) bd
  · obtain ⟨its, rv, ht, hz⟩ := inv.tuple hs
    have hz' : its.length ≤ sizeLine := by rw [← rv.length]; exact hz
    exact main its rv hz' fun bd => sorted_of_tup ht hz' (args_sorted1 _) (fun _ => args_list_sort _) bd
theorem rf_sortD : RfNC K cl (rSortD K cl) fSortD where
  mono := fun x P P' h q => by
    match x, q with
    | [.lst l], q => exact ⟨q.1, h _ q.2⟩
    | [.tup l], q => exact ⟨q.1, h _ q.2⟩
  ok := fun F H v x Q s r q => by
    match x, q, r with
    | [.lst l], q, .cons (.lst e rr) .nil => exact ⟨_, F, _, l, rfl, s, .inl (SqL.of (s _ _ e)), rr, q.1, fun ys p ry hp => q.2 p F _ (Gr.h s (nx_upd hp)) hp (s.free hp) ⟨_, upd_same, ry⟩⟩
    | [.tup l], q, .cons (.tup e rr) .nil => exact ⟨_, F, _, l, rfl, s, .inr (same_t s e), rr, q.1, fun ys p ry hp => q.2 p F _ (Gr.h s (nx_upd hp)) hp (s.free hp) ⟨_, upd_same, ry⟩⟩
theorem bn_sortX (hu : X.A.units + 65 < cLine) (hc : X.calm = true) (hK : X.K = K := by rfl) : BiN X K cl (.builtin "sorted") (fun vs H Q => rSortedU K vs H Q ∨ rSortD K cl vs H Q) fSortX := by
  obtain rfl := hK
  refine ⟨fun pins s σ H vs us Q inv r h => ?_, ⟨fun x P P' h q => ?_, fun F H v x Q sm r q => ?_⟩, rfl⟩
  · rcases h with h | h
    · exact cr_sortedU hc pins s σ H vs us Q inv r h
    · exact cr_sortD hu pins s σ H vs us Q inv r h
  · rcases q with q | q
    · exact .inl ((rf_sorted (K := X.K) (cl := cl)).mono x P P' h q)
    · exact .inr ((rf_sortD (K := X.K) (cl := cl)).mono x P P' h q)
  · rcases q with q | q
    · exact .inl (rf_sorted.ok F H v x Q sm r q)
    · exact .inr (rf_sortD.ok F H v x Q sm r q)
end
end DL

set_option maxHeartbeats 8000000
/-! The text of the law, walked. -/
namespace K30
open PySem L2 DL PyProof.Rows
def topS (i : Nat) : Stmt := PySem.Challenge.pw_foreverdays_k30_whole_kept_clocks.main.body.getD i (.Pass ⟨0, 0, 0, 0⟩)
abbrev s_ratio_up : Stmt := topS 1
theorem sc_ratio_up : FnScope ["number", "divisor"] ["number", "divisor"] (defScope s_ratio_up) := ⟨rfl, rfl, rfl, by decide +kernel, rfl, by decide +kernel, by decide +kernel⟩
abbrev s_count_of : Stmt := topS 5
theorem sc_count_of : FnScope ["sources", "number", "low", "high"] ["sources", "number"] (defScope s_count_of) := ⟨rfl, rfl, rfl, by decide +kernel, rfl, by decide +kernel, by decide +kernel⟩
abbrev s_agreement : Stmt := topS 4
theorem sc_agreement : FnScope ["sources", "f", "enough", "lows", "highs", "good", "number", "low", "_", "high"] ["sources", "f"] (defScope s_agreement) := ⟨rfl, rfl, rfl, by decide +kernel, rfl, by decide +kernel, by decide +kernel⟩
abbrev s_KeptClock___init__ : Stmt := inClass (topS 6) 0
theorem sc_KeptClock___init__ : FnScope ["self", "rate", "low", "high"] ["self", "rate", "low", "high"] (defScope s_KeptClock___init__) := ⟨rfl, rfl, rfl, by decide +kernel, rfl, by decide +kernel, by decide +kernel⟩
abbrev s_KeptClock_known : Stmt := inClass (topS 6) 1
theorem sc_KeptClock_known : FnScope ["self"] ["self"] (defScope s_KeptClock_known) := ⟨rfl, rfl, rfl, by decide +kernel, rfl, by decide +kernel, by decide +kernel⟩
abbrev s_KeptClock_count : Stmt := inClass (topS 6) 2
theorem sc_KeptClock_count : FnScope ["self", "d", "doubt"] ["self", "d"] (defScope s_KeptClock_count) := ⟨rfl, rfl, rfl, by decide +kernel, rfl, by decide +kernel, by decide +kernel⟩
abbrev s_KeptClock_hear : Stmt := inClass (topS 6) 3
theorem sc_KeptClock_hear : FnScope ["self", "sources", "f", "found"] ["self", "sources", "f"] (defScope s_KeptClock_hear) := ⟨rfl, rfl, rfl, by decide +kernel, rfl, by decide +kernel, by decide +kernel⟩
abbrev s_u_law_start : Stmt := topS 8
theorem sc_u_law_start : FnScope ["script", "cell"] ["script"] (defScope s_u_law_start) := ⟨rfl, rfl, rfl, by decide +kernel, rfl, by decide +kernel, by decide +kernel⟩
abbrev s_u_law_draw : Stmt := topS 9
theorem sc_u_law_draw : FnScope ["state", "bound", "cell", "number"] ["state", "bound"] (defScope s_u_law_draw) := ⟨rfl, rfl, rfl, by decide +kernel, rfl, by decide +kernel, by decide +kernel⟩
abbrev s_u_law_pick : Stmt := topS 10
theorem sc_u_law_pick : FnScope ["state", "things"] ["state", "things"] (defScope s_u_law_pick) := ⟨rfl, rfl, rfl, by decide +kernel, rfl, by decide +kernel, by decide +kernel⟩
abbrev s_u_law_is : Stmt := topS 11
theorem sc_u_law_is : FnScope ["actual", "due"] ["actual", "due"] (defScope s_u_law_is) := ⟨rfl, rfl, rfl, by decide +kernel, rfl, by decide +kernel, by decide +kernel⟩
abbrev s_u_law_agreement : Stmt := topS 12
theorem sc_u_law_agreement : FnScope ["sources", "f", "enough", "good", "number", "source"] ["sources", "f"] (defScope s_u_law_agreement) := ⟨rfl, rfl, rfl, by decide +kernel, rfl, by decide +kernel, by decide +kernel⟩
abbrev s_u_law_source : Stmt := topS 13
theorem sc_u_law_source : FnScope ["state", "time", "is_right", "low"] ["state", "time", "is_right"] (defScope s_u_law_source) := ⟨rfl, rfl, rfl, by decide +kernel, rfl, by decide +kernel, by decide +kernel⟩
abbrev s_law : Stmt := topS 14
theorem sc_law : FnScope ["script", "state", "time", "rate", "mine", "clock", "other", "honest", "step", "d", "doubt", "many", "f", "wrong", "sources", "k", "due", "kept", "is_met"] ["script"] (defScope s_law) := ⟨rfl, rfl, rfl, by decide +kernel, rfl, by decide +kernel, by decide +kernel⟩
structure Txt (K : PySem.W.Frag) (mg : Str → Option Value) where
  a_ratio_up : Addr
  e_ratio_up : FuncData
  F_ratio_up : Fun K "ratio_up" "ratio_up" s_ratio_up a_ratio_up e_ratio_up
  b_ratio_up : Binds K e_ratio_up ["number", "divisor"] []
  d_ratio_up : mg "ratio_up" = some (.ref a_ratio_up)
  a_count_of : Addr
  e_count_of : FuncData
  F_count_of : Fun K "count_of" "count_of" s_count_of a_count_of e_count_of
  b_count_of : Binds K e_count_of ["sources", "number"] []
  d_count_of : mg "count_of" = some (.ref a_count_of)
  a_agreement : Addr
  e_agreement : FuncData
  F_agreement : Fun K "agreement" "agreement" s_agreement a_agreement e_agreement
  b_agreement : Binds K e_agreement ["sources", "f"] []
  d_agreement : mg "agreement" = some (.ref a_agreement)
  a_KeptClock___init__ : Addr
  e_KeptClock___init__ : FuncData
  F_KeptClock___init__ : Fun K "__init__" "KeptClock.__init__" s_KeptClock___init__ a_KeptClock___init__ e_KeptClock___init__
  b_KeptClock___init__ : Binds K e_KeptClock___init__ ["self", "rate", "low", "high"] []
  a_KeptClock_known : Addr
  e_KeptClock_known : FuncData
  F_KeptClock_known : Fun K "known" "KeptClock.known" s_KeptClock_known a_KeptClock_known e_KeptClock_known
  b_KeptClock_known : Binds K e_KeptClock_known ["self"] []
  a_KeptClock_count : Addr
  e_KeptClock_count : FuncData
  F_KeptClock_count : Fun K "count" "KeptClock.count" s_KeptClock_count a_KeptClock_count e_KeptClock_count
  b_KeptClock_count : Binds K e_KeptClock_count ["self", "d"] []
  a_KeptClock_hear : Addr
  e_KeptClock_hear : FuncData
  F_KeptClock_hear : Fun K "hear" "KeptClock.hear" s_KeptClock_hear a_KeptClock_hear e_KeptClock_hear
  b_KeptClock_hear : Binds K e_KeptClock_hear ["self", "sources", "f"] []
  a_u_law_start : Addr
  e_u_law_start : FuncData
  F_u_law_start : Fun K "_law_start" "_law_start" s_u_law_start a_u_law_start e_u_law_start
  b_u_law_start : Binds K e_u_law_start ["script"] []
  d_u_law_start : mg "_law_start" = some (.ref a_u_law_start)
  a_u_law_draw : Addr
  e_u_law_draw : FuncData
  F_u_law_draw : Fun K "_law_draw" "_law_draw" s_u_law_draw a_u_law_draw e_u_law_draw
  b_u_law_draw : Binds K e_u_law_draw ["state", "bound"] []
  d_u_law_draw : mg "_law_draw" = some (.ref a_u_law_draw)
  a_u_law_pick : Addr
  e_u_law_pick : FuncData
  F_u_law_pick : Fun K "_law_pick" "_law_pick" s_u_law_pick a_u_law_pick e_u_law_pick
  b_u_law_pick : Binds K e_u_law_pick ["state", "things"] []
  d_u_law_pick : mg "_law_pick" = some (.ref a_u_law_pick)
  a_u_law_is : Addr
  e_u_law_is : FuncData
  F_u_law_is : Fun K "_law_is" "_law_is" s_u_law_is a_u_law_is e_u_law_is
  b_u_law_is : Binds K e_u_law_is ["actual", "due"] []
  d_u_law_is : mg "_law_is" = some (.ref a_u_law_is)
  a_u_law_agreement : Addr
  e_u_law_agreement : FuncData
  F_u_law_agreement : Fun K "_law_agreement" "_law_agreement" s_u_law_agreement a_u_law_agreement e_u_law_agreement
  b_u_law_agreement : Binds K e_u_law_agreement ["sources", "f"] []
  d_u_law_agreement : mg "_law_agreement" = some (.ref a_u_law_agreement)
  a_u_law_source : Addr
  e_u_law_source : FuncData
  F_u_law_source : Fun K "_law_source" "_law_source" s_u_law_source a_u_law_source e_u_law_source
  b_u_law_source : Binds K e_u_law_source ["state", "time", "is_right"] []
  d_u_law_source : mg "_law_source" = some (.ref a_u_law_source)
  a_law : Addr
  e_law : FuncData
  F_law : Fun K "law" "law" s_law a_law e_law
  b_law : Binds K e_law ["script"] []
  d_law : mg "law" = some (.ref a_law)
  C_KeptClock : Addr
  c_KeptClock : mg "KeptClock" = some (.ref C_KeptClock)
  cls_KeptClock : L2.Cls K C_KeptClock
  na_KeptClock__rate : NoAttr K C_KeptClock "_rate"
  na_KeptClock__low : NoAttr K C_KeptClock "_low"
  na_KeptClock__high : NoAttr K C_KeptClock "_high"
  mk_KeptClock : Mk K C_KeptClock a_KeptClock___init__
  me_KeptClock_known : Meth K C_KeptClock "known" a_KeptClock_known
  me_KeptClock_count : Meth K C_KeptClock "count" a_KeptClock_count
  me_KeptClock_hear : Meth K C_KeptClock "hear" a_KeptClock_hear
  z_max : mg "max" = none
  z_len : mg "len" = none
  z_sorted : mg "sorted" = none
  z_min : mg "min" = none
  z_isinstance : mg "isinstance" = none
  z_bool : mg "bool" = none
  z_range : mg "range" = none
  z_list : mg "list" = none
  z_int : mg "int" = none
  z_abs : mg "abs" = none
  t_PARTS : Tok
  g_PARTS : mg "PARTS" = some (.int (1000000) t_PARTS)
section
variable [TN] {P : Program} {w : World} {K : PySem.W.Frag} {mg : Str → Option Value} {base : Heap}
def clW (P : Program) (w : World) (T : Txt K mg) : Cl := { nm := fun s => if s = "KeptClock" then some T.C_KeptClock else none, so := stO P w }
theorem hc_KeptClock (T : Txt K mg) : (clW P w T).nm "KeptClock" = some T.C_KeptClock := by simp [clW]
theorem hn_KeptClock__rate (T : Txt K mg) : ∀ C, (clW P w T).nm "KeptClock" = some C → L2.Cls K C ∧ NoAttr K C "_rate" := fun C h => by
  cases (hc_KeptClock (P := P) (w := w) T).symm.trans h
  exact ⟨T.cls_KeptClock, T.na_KeptClock__rate⟩
theorem hn_KeptClock__low (T : Txt K mg) : ∀ C, (clW P w T).nm "KeptClock" = some C → L2.Cls K C ∧ NoAttr K C "_low" := fun C h => by
  cases (hc_KeptClock (P := P) (w := w) T).symm.trans h
  exact ⟨T.cls_KeptClock, T.na_KeptClock__low⟩
theorem hn_KeptClock__high (T : Txt K mg) : ∀ C, (clW P w T).nm "KeptClock" = some C → L2.Cls K C ∧ NoAttr K C "_high" := fun C h => by
  cases (hc_KeptClock (P := P) (w := w) T).symm.trans h
  exact ⟨T.cls_KeptClock, T.na_KeptClock__high⟩
theorem ok_draw0 {f : Addr} {fd : FuncData} (F : Fun K "_law_draw" "_law_draw" s_u_law_draw f fd) (z_len : mg "len" = none) (z_int : mg "int" = none) : FnOk P w K mg base (L2.CX P w) 1 f fd ["state", "bound"] spDraw := by
  refine F.okX sc_u_law_draw (fun vs H Q E h => ?_) (fun cdv A outer s H vs Q E hr h => ?_)
  · obtain ⟨a, c, ns, i, l, m, b, rfl, _⟩ := h
    rfl
  · obtain ⟨a, c, ns, i, l, m, b, rfl, ha, hc, hx, ⟨hi0, hi1, hl0, hm0, hm1⟩, hb, hb2, q⟩ := h
    have hu := hu_of hr
    have nca : c ≠ a := ne_of hc ha (by intro z; cases z)
    have nd := sc_u_law_draw.nd
    refine ⟨_, pss_cons (ps_if (PW.pt (pw_and (pt_cmpR op_eq (pe_dget hu (pv 0) pe_str (fun _ _ => rfl)) pe_int (nomark _))
        (pw_and1 (pt_cmpR op_lt (pe_dget hu (pv 0) pe_str (fun _ _ => rfl)) (pe_callB call_len_seq (by rfl) z_len PySem.boot_len (pa_cons (pe_dget hu (pv 0) pe_str (fun _ _ => rfl)) pa_nil)) (nomark _)))))
        (pss_cons (ps_set (i := 2) nd rfl (.inl rfl) (pe_ix ix_list (pe_dget hu (pv 0) pe_str (fun _ _ => rfl)) (pe_dget hu (pv 0) pe_str (fun _ _ => rfl)) (fun _ _ => rfl)))
        (pss_cons (ps_dput hu (pv 0) pe_str (pe_op op_add (pe_dget hu (pv 0) pe_str (fun _ _ => rfl)) pe_int) rfl)
        (pss_cons (ps_dput hu (pv 0) pe_str (pe_op op_mod (pe_callTy call_int1 (by rfl) z_int (by decide +kernel) (pa_cons (pe_op op_add (pe_op op_add (pe_op op_mul (pe_dget hu (pv 0) pe_str (fun _ _ => rfl)) pe_int) (pv 2)) pe_int) pa_nil)) pe_int) rfl)
        (pss_cons (ps_if (pt_cmpR op_lt (pv 2) (pe_op op_pow pe_int pe_int) (nomark _)) (pss_one (ps_ret (pe_op op_mod (pe_callTy call_int1 (by rfl) z_int (by decide +kernel) (pa_cons (pv 2) pa_nil)) (pv 1)))) pss_nil)
        (pss_one (ps_dput hu (pv 0) pe_str (pv 2) rfl)))))) pss_nil)
      (pss_cons (ps_if (pt_cmpR op_gt (pe_dget hu (pv 0) pe_str (fun _ _ => rfl)) pe_int (nomark _))
        (pss_cons (ps_set (i := 3) nd rfl (.inl rfl) (pe_op op_mod (pe_callTy call_int1 (by rfl) z_int (by decide +kernel) (pa_cons (pe_dget hu (pv 0) pe_str (fun _ _ => rfl)) pa_nil)) (pv 1)))
        (pss_cons (ps_dput hu (pv 0) pe_str (pe_op op_fdivW (pe_dget hu (pv 0) pe_str (fun _ _ => rfl)) (pv 1)) rfl)
        (pss_one (ps_ret (pv 3))))) pss_nil)
      (pss_cons (ps_dput hu (pv 0) pe_str (pe_op op_mod (pe_callTy call_int1 (by rfl) z_int (by decide +kernel) (pa_cons (pe_op op_add (pe_op op_mul (pe_dget hu (pv 0) pe_str (fun _ _ => rfl)) pe_int) pe_int) pa_nil)) pe_int) rfl)
      (pss_one (ps_ret (pe_op op_mod (pe_callTy call_int1 (by rfl) z_int (by decide +kernel) (pa_cons (pe_op op_mod (pe_callTy call_int1 (by rfl) z_int (by decide +kernel) (pa_cons (pe_op op_add (pe_op op_mul (pe_dget hu (pv 0) pe_str (fun _ _ => rfl)) pe_int) pe_int) pa_nil)) pe_int) pa_nil)) (pv 1)))))), ?_⟩
    refine seq_elim (fun σ2 H2 => ∃ v2 i l m, σ2 = [some (.ref a), some (.int b), v2, none] ∧ H2 = upd H a (.dK (stKV c i l m)) ∧ StOk ns.length i l m) (fun σ2 H2 hC => ?_) (fun r2 => ?_)
    · obtain ⟨v2, i, l, m, rfl, rfl, ⟨hi0, hi1, hl0, hm0, hm1⟩⟩ := hC
      have e0 : ∀ o, (upd H a o) a = some o := fun o => upd_same
      refine ⟨_, rfl, a, _, rfl, sg_left (e0 _), _, _, rfl, rfl, _, rfl, ?_⟩
      refine ite2 (fun z => ?_) (fun z => ?_)
      · refine ⟨_, rfl, a, _, rfl, sg_left (e0 _), .inl ⟨_, rfl, _, rfl, _, _, rfl, rfl, hb, ?_⟩⟩
        refine ⟨_, rfl, a, _, rfl, sg_left (e0 _), _, rfl, _, _, rfl, rfl, ⟨hb, hb2⟩, _, rfl, a, _, rfl, sp_left (l / b) (e0 _), ?_⟩
        refine ⟨_, rfl, ?_⟩
        rw [upd_upd]
        exact q _ _ _ _ (emod_in hb).1 (emod_in hb).2 ⟨hi0, hi1, Int.ediv_nonneg hl0 (by omega), hm0, hm1⟩
      · refine ⟨_, rfl, a, _, rfl, sg_mix (e0 _), _, _, rfl, rfl, .inl (small_mix hm0 hm1), _, _, rfl, rfl, .inl ⟨_, rfl, _, _, rfl, rfl, (by show (0 : Int) < 2147483647; decide), ?_⟩⟩
        refine ⟨_, rfl, a, _, rfl, sp_mix _ (e0 _), ?_⟩
        rw [upd_upd]
        refine ⟨_, rfl, a, _, rfl, sg_mix (e0 _), _, _, rfl, rfl, .inl (small_mix (mod_mix _).1 (mod_mix _).2), _, _, rfl, rfl, .inl ⟨_, rfl, _, _, rfl, rfl, (by show (0 : Int) < 2147483629; decide), .inl ⟨_, rfl, _, rfl, _, _, rfl, rfl, hb, ?_⟩⟩⟩
        exact q _ _ _ _ (emod_in hb).1 (emod_in hb).2 ⟨hi0, hi1, hl0, (mod_mix _).1, (mod_mix _).2⟩
    · have back : r2 = r2 := rfl
      have fin : ∀ v2, _ := fun v2 => r2 [some (.ref a), some (.int b), v2, none] H ⟨v2, i, l, m, rfl, (up_self ha).symm, hi0, hi1, hl0, hm0, hm1⟩
      refine ⟨_, rfl, a, _, rfl, sg_left ha, rfl, _, rfl, ?_⟩
      refine ite2 (fun z => ?_) (fun z => fin none)
      refine ⟨_, rfl, a, _, rfl, sg_at ha, _, rfl, a, _, rfl, sg_cells ha, c, _, rfl, .inl (SqL.of hc), _, _, rfl, rfl, _, rfl, ?_⟩
      refine ite2 (fun z2 => ?_) (fun z2 => fin none)
      have hlt : i < ns.length := by
        have := of_decide_eq_true z2
        simpa using this
      obtain ⟨x, hxm, hxe⟩ := at_ns hi0 hlt
      refine ⟨_, rfl, a, _, rfl, sg_cells ha, _, rfl, a, _, rfl, sg_at ha, c, _, i, .int x, rfl, rfl, SqL.of hc, hxe, ?_⟩
      have e0 : ∀ o, (upd H a o) a = some o := fun o => upd_same
      refine ⟨_, rfl, a, _, rfl, sg_at ha, _, _, rfl, rfl, _, rfl, a, _, rfl, sp_at (i + 1) ha, ?_⟩
      refine ⟨_, rfl, a, _, rfl, sg_mix (e0 _), _, _, rfl, rfl, .inl (small_mix hm0 hm1), _, rfl, _, _, rfl, rfl, _, _, rfl, rfl, .inl ⟨_, rfl, _, _, rfl, rfl, (by show (0 : Int) < 2147483647; decide), ?_⟩⟩
      refine ⟨_, rfl, a, _, rfl, sp_mix _ (e0 _), ?_⟩
      rw [upd_upd]
      have hok : StOk ns.length (i + 1) l ((m * 48271 + x + 11) % 2147483647) := ⟨by omega, by omega, hl0, (mod_mix _).1, (mod_mix _).2⟩
      refine ⟨_, rfl, _, _, rfl, rfl, (by show (0 : Int) ≤ 18 ∧ (18 : Int) ≤ 1000000 ∧ (10 : Int).natAbs < 2 ^ 64; decide), _, _, rfl, rfl, _, rfl, ?_⟩
      refine ite2 (fun z3 => ?_) (fun z3 => ?_)
      · refine ⟨_, rfl, .inl ⟨_, rfl, _, rfl, _, _, rfl, rfl, hb, ?_⟩⟩
        exact q _ _ _ _ (emod_in hb).1 (emod_in hb).2 hok
      · refine ⟨_, rfl, _, rfl, a, _, rfl, sp_left x (e0 _), ?_⟩
        rw [upd_upd]
        exact r2 _ _ ⟨_, i + 1, x, _, rfl, rfl, hok.1, hok.2.1, hx x hxm, hok.2.2.2.1, hok.2.2.2.2⟩
theorem ok_start0 {f : Addr} {fd : FuncData} (F : Fun K "_law_start" "_law_start" s_u_law_start f fd) (z_len : mg "len" = none) (z_int : mg "int" = none) (z_abs : mg "abs" = none) : FnOk P w K mg base (L2.CX P w) 1 f fd ["script"] (spStart K) := by
  refine F.okX sc_u_law_start (fun vs H Q E h => ?_) (fun cdv A outer s H vs Q E hr h => ?_)
  · obtain ⟨a, ns, rfl, _⟩ := h
    rfl
  · obtain ⟨a, ns, rfl, hS, hn, q⟩ := h
    have hu := hu_of hr
    have nd := sc_u_law_start.nd
    refine ⟨_, pss_one (ps_ret (pe_disp (pps_cons pe_str (pe_lc (own := [("cell", 1)]) (g := L2.gName 1) (tt := tYes) rfl nd (pi_list (pv 0)) (blkOk_by (N := ["script", "cell"]) (sc := defScope s_u_law_start) (by decide +kernel))
        (fun _ _ _ _ _ => pg_name (i := 1) nd rfl (Or.inl rfl)) (fun _ _ _ _ _ => pts_nil) (fun _ _ _ _ _ => pe_callB call_abs (by rfl) z_abs (by decide +kernel) (pa_cons (pe_callTy call_int1 (by rfl) z_int (by decide +kernel) (pa_cons (pv 1) pa_nil)) pa_nil)))
      (pps_cons pe_str pe_int (pps_cons pe_str pe_int (pps_cons pe_str (pe_op op_add pe_int (pe_callB call_len_seq (by rfl) z_len PySem.boot_len (pa_cons (pv 0) pa_nil))) pps_nil)))) rfl rfl (fun z => by cases z) (by decide))), ?_⟩
    intro p np
    have s1 : Same H (upd H p (.dK [])) := same_upd np
    refine ⟨_, rfl, a, rfl, ⟨_, s1.seq hS⟩, fun D hD => lc_list (K := K) (a := a) (xs := ns.map V.int) (fun i H' => ∃ ms : List Int, Nx (upd H p (.dK [])) H' ∧ H' D = some (.lst (ms.map V.int)) ∧ ms.length = i ∧ ∀ x ∈ ms, 0 ≤ x) ⟨[], nx_upd hD, upd_same, rfl, fun _ z => by cases z⟩ (fun i H' _ ⟨_, sm, _⟩ => sm.s.seq (s1.seq hS)) ?_ ?_⟩
    · rintro i x H' hi ⟨ms, sm, hm, hl, hx⟩
      have hil : i < ns.length := by
        have := (List.getElem?_eq_some_iff.mp hi).1
        simpa using this
      have ex : x = .int ns[i] := by
        rw [List.getElem?_map, List.getElem?_eq_getElem hil] at hi
        exact (Option.some.inj hi).symm
      subst ex
      have hD1 : (upd H p (.dK [])) D = none := hD
      refine ⟨rfl, ?_⟩
      refine (iteT ?_ : if true = true then _ else False)
      refine ⟨_, rfl, .inl ⟨_, rfl, _, rfl, ms.map V.int, hm, ?_, ms ++ [if ns[i] < 0 then -ns[i] else ns[i]], ⟨fun b o e => ?_, fun P ps e => ?_⟩, ?_, ?_, ?_⟩⟩
      · rw [List.length_map, hl]
        exact Nat.lt_of_lt_of_le (by omega) (show 63 ≤ sizeLine by rw [sizeLine_eq]; decide)
      · have hb : b ≠ D := fun z => by
          subst z
          rw [hD1] at e
          cases e
        rw [upd_ne hb]
        exact sm.s b o e
      · by_cases hb : P = D
        · subst hb
          rw [upd_same] at e
          cases e
        · rw [upd_ne hb] at e
          exact sm.b P ps e
      · rw [upd_same]
        simp
      · simp [hl]
      · intro y hy
        rcases List.mem_append.mp hy with z | z
        · exact hx y z
        · have : y = if ns[i] < 0 then -ns[i] else ns[i] := by simpa using z
          rw [this]
          split <;> omega
    · rintro H' ⟨ms, sm, hm, hl, hx⟩
      have epp := sm.s p _ upd_same
      have hDp : D ≠ p := fun z => by
        subst z
        rw [upd_same] at hD
        cases hD
      refine ⟨_, rfl, a, _, rfl, .inl (sm.s.seq (s1.seq hS)), _, _, rfl, rfl, epp, [((Sum.inr ("cells" : Str)), .ref D), (Sum.inr ("at" : Str), .int 0), (Sum.inr ("left" : Str), .int 0), (Sum.inr ("mix" : Str), .int (7 + ((ns.map V.int).length : Nat)))], rfl, (by show 4 ≤ 15; decide), ?_⟩
      have hk : mergeK [] [((Sum.inr ("cells" : Str) : L2.Key), V.ref D), (Sum.inr ("at" : Str), .int 0), (Sum.inr ("left" : Str), .int 0), (Sum.inr ("mix" : Str), .int (7 + ((ns.map V.int).length : Nat)))] = stKV D 0 0 (7 + ((ns.map V.int).length : Nat)) := by
        obtain ⟨⟨⟨a1, a2, a3⟩, ⟨b1, b2, b3⟩⟩, ⟨⟨c1, c2, c3⟩, ⟨d1, d2, d3⟩⟩⟩ := st_ne
        simp [mergeK, putK, stKV, kCells, kAt, kLeft, kMix, a1, a2, a3, b2, b3, c3]
      rw [hk]
      refine q p D ms _ _ ⟨fun b o e => ?_, fun P ps e => ?_⟩ np (s1.free hD) (by rw [hl, List.length_map]) hx (by omega) (by rw [List.length_map]; omega) (by rw [upd_ne hDp]; exact hm) upd_same
      · rw [upd_ne (ne_of_none e np)]
        exact sm.s b o (s1 b o e)
      · by_cases hb : P = p
        · subst hb
          rw [upd_same] at e
          cases e
        · rw [upd_ne hb] at e
          obtain ⟨ps0, e0⟩ := sm.b P ps e
          rw [upd_ne hb] at e0
          exact ⟨ps0, e0⟩
theorem ok_ratio_up (T : Txt K mg) : FnOk P w K mg base (L2.CX P w) 1 T.a_ratio_up T.e_ratio_up ["number", "divisor"] (spD K (clW P w T) W_ratio_up) := by
  refine fn_okX T.F_ratio_up sc_ratio_up (by decide) (fun cdv A outer s H E hr => ?_)
  have hu := hu65 hr
  have tk := takes_of (X := cxOf (L2.CX P w) P w K mg base ["number", "divisor"] "ratio_up" (defScope s_ratio_up) T.a_ratio_up cdv A outer s H E) rfl rfl rfl rfl
  exact ⟨_, (vss_one (vs_ret (ve_neg (ve_div (ve_neg (ve_var (i := 0))) (ve_var (i := 1))))))⟩
theorem ok_count_of (T : Txt K mg) : FnOk P w K mg base (L2.CX P w) 1 T.a_count_of T.e_count_of ["sources", "number"] (spD K (clW P w T) W_count_of) := by
  refine fn_okX T.F_count_of sc_count_of (by decide) (fun cdv A outer s H E hr => ?_)
  have hu := hu65 hr
  have tk := takes_of (X := cxOf (L2.CX P w) P w K mg base ["sources", "number", "low", "high"] "count_of" (defScope s_count_of) T.a_count_of cdv A outer s H E) rfl rfl rfl rfl
  exact ⟨_, (vss_one (vs_ret (ve_blt bi_len rfl T.z_len (by decide +kernel) (va_cons (VN.e (vn_lc (own := [("low", 2), ("high", 3)]) rfl sc_count_of.nd (vi_seq (ve_var (i := 0))) (blkOk_by (N := ["sources", "number", "low", "high"]) (sc := defScope s_count_of) (by decide +kernel)) (fun _ _ _ _ _ => (vt_tup rfl (vts_cons (vt_name (i := 2) sc_count_of.nd) (vts_cons (vt_name (i := 3) sc_count_of.nd) vts_nil)))) (fun _ _ _ _ _ => (vp_one (vb_chain (cm_le hu) (cm_le hu) (ve_var (i := 2)) (ve_var (i := 1)) (ve_var (i := 3))))) (fun _ _ _ _ _ => ve_int))) va_nil))))⟩
theorem ok_agreement (T : Txt K mg) : FnOk P w K mg base (L2.CX P w) 2 T.a_agreement T.e_agreement ["sources", "f"] (spD K (clW P w T) W_agreement) := by
  refine fn_okX T.F_agreement sc_agreement (by decide) (fun cdv A outer s H E hr => ?_)
  have hu := hu65 hr
  have tk := takes_of (X := cxOf (L2.CX P w) P w K mg base ["sources", "f", "enough", "lows", "highs", "good", "number", "low", "_", "high"] "agreement" (defScope s_agreement) T.a_agreement cdv A outer s H E) rfl rfl rfl rfl
  exact ⟨_, (vss_cons (vs_set (i := 2) sc_agreement.nd (ve_blt (bi_max rfl) rfl T.z_max (by decide +kernel) (va_cons ve_int (va_cons (ve_sub (ve_blt bi_len rfl T.z_len (by decide +kernel) (va_cons (ve_var (i := 0)) va_nil)) (ve_var (i := 1))) va_nil))))
      (vss_cons (vs_set (i := 3) sc_agreement.nd (VN.e (vn_blt (bn_sortX hu rfl) rfl T.z_sorted (by decide +kernel) (va_cons (VN.e (vn_lc (own := [("low", 7), ("_", 8)]) rfl sc_agreement.nd (vi_seq (ve_var (i := 0))) (blkOk_by (N := ["sources", "f", "enough", "lows", "highs", "good", "number", "low", "_", "high"]) (sc := defScope s_agreement) (by decide +kernel)) (fun _ _ _ _ _ => (vt_tup rfl (vts_cons (vt_name (i := 7) sc_agreement.nd) (vts_cons (vt_name (i := 8) sc_agreement.nd) vts_nil)))) (fun _ _ _ _ _ => vp_nil) (fun _ _ _ _ _ => (ve_var (i := 7))))) va_nil))))
      (vss_cons (vs_set (i := 4) sc_agreement.nd (VN.e (vn_blt (bn_sortX hu rfl) rfl T.z_sorted (by decide +kernel) (va_cons (VN.e (vn_lc (own := [("_", 8), ("high", 9)]) rfl sc_agreement.nd (vi_seq (ve_var (i := 0))) (blkOk_by (N := ["sources", "f", "enough", "lows", "highs", "good", "number", "low", "_", "high"]) (sc := defScope s_agreement) (by decide +kernel)) (fun _ _ _ _ _ => (vt_tup rfl (vts_cons (vt_name (i := 8) sc_agreement.nd) (vts_cons (vt_name (i := 9) sc_agreement.nd) vts_nil)))) (fun _ _ _ _ _ => vp_nil) (fun _ _ _ _ _ => (ve_var (i := 9))))) va_nil))))
      (vss_cons (vs_lc (i := 5) (own := [("number", 6)]) rfl sc_agreement.nd (vi_seq (ve_add (ve_var (i := 3)) (ve_var (i := 4)))) (blkOk_by (N := ["sources", "f", "enough", "lows", "highs", "good", "number", "low", "_", "high"]) (sc := defScope s_agreement) (by decide +kernel)) (fun _ _ _ _ _ => (vt_name (i := 6) sc_agreement.nd)) (fun _ _ _ _ _ => (vp_one (vb_cmp (cm_ge hu) (ve_call (ok_count_of T) (hr.mono (by decide)) rfl T.d_count_of T.F_count_of.kp T.b_count_of takes_no (va_cons (ve_var (i := 0)) (va_cons (ve_var (i := 6)) va_nil))) (ve_var (i := 2))))) (fun _ _ _ _ _ => (ve_var (i := 6))) (sw_true rfl rfl rfl (by decide +kernel)))
      (vss_one (vs_ret (ve_if (vb_truth (ve_var (i := 5))) (ve_tup (va_cons (ve_blt (bi_min rfl) rfl T.z_min (by decide +kernel) (va_cons (ve_var (i := 5)) va_nil)) (va_cons (ve_blt (bi_max rfl) rfl T.z_max (by decide +kernel) (va_cons (ve_var (i := 5)) va_nil)) va_nil))) ve_non)))))))⟩
theorem ok_KeptClock___init__ (T : Txt K mg) : FnOk P w K mg base (L2.CX P w) 1 T.a_KeptClock___init__ T.e_KeptClock___init__ ["self", "rate", "low", "high"] (spMI K (clW P w T) "KeptClock" W_KeptClock___init__) := by
  refine fn_okMI (c := "KeptClock") T.F_KeptClock___init__ sc_KeptClock___init__ (by decide) (fun me cdv A outer s H E hr => ?_)
  have hu := hu65 hr
  have tk := takes_of (X := cxOf (L2.CX P w) P w K mg base ["self", "rate", "low", "high"] "KeptClock.__init__" (defScope s_KeptClock___init__) T.a_KeptClock___init__ cdv A outer s H E) rfl rfl rfl rfl
  exact ⟨_, (vss_cons (vs_fldO (i := 0) (c := "KeptClock") (ve_var (i := 1)) (hn_KeptClock__rate (P := P) (w := w) T))
      (vss_cons (vs_fldO (i := 0) (c := "KeptClock") (ve_var (i := 2)) (hn_KeptClock__low (P := P) (w := w) T))
      (vss_one (vs_fldO (i := 0) (c := "KeptClock") (ve_var (i := 3)) (hn_KeptClock__high (P := P) (w := w) T)))))⟩
theorem ok_KeptClock_known (T : Txt K mg) : FnOk P w K mg base (L2.CX P w) 1 T.a_KeptClock_known T.e_KeptClock_known ["self"] (spD K (clW P w T) W_KeptClock_known) := by
  refine fn_okX T.F_KeptClock_known sc_KeptClock_known (by decide) (fun cdv A outer s H E hr => ?_)
  have hu := hu65 hr
  have tk := takes_of (X := cxOf (L2.CX P w) P w K mg base ["self"] "KeptClock.known" (defScope s_KeptClock_known) T.a_KeptClock_known cdv A outer s H E) rfl rfl rfl rfl
  exact ⟨_, (vss_one (vs_ret (ve_tup (va_cons (ve_fld (ve_var (i := 0)) (hn_KeptClock__low (P := P) (w := w) T)) (va_cons (ve_fld (ve_var (i := 0)) (hn_KeptClock__high (P := P) (w := w) T)) va_nil)))))⟩
theorem ok_KeptClock_count (T : Txt K mg) : FnOk P w K mg base (L2.CX P w) 2 T.a_KeptClock_count T.e_KeptClock_count ["self", "d"] (spX K (clW P w T) 0 W_KeptClock_count) := by
  refine fn_okP (j := 0) T.F_KeptClock_count sc_KeptClock_count (by decide) (fun l cdv A outer s H E hr => ?_)
  have hu := hu65 hr
  have tk := takes_of (X := cxOf (L2.CX P w) P w K mg base ["self", "d", "doubt"] "KeptClock.count" (defScope s_KeptClock_count) T.a_KeptClock_count cdv A outer s H E) rfl rfl rfl rfl
  exact ⟨_, (vss_cons (vs_set (i := 2) sc_KeptClock_count.nd (ve_call (fn_cl (ok_ratio_up T) rfl rfl) (hr.mono (by decide)) rfl T.d_ratio_up T.F_ratio_up.kp T.b_ratio_up tk (va_cons (ve_mul (ve_var (i := 1)) (ve_bor (ve_fld (ve_var (i := 0)) (hn_KeptClock__rate (P := P) (w := w) T)))) (va_cons (ve_globI rfl T.g_PARTS) va_nil))))
      (vss_cons (vs_fldAdd (i := 0) (c := "KeptClock") (ve_sub (ve_var (i := 1)) (ve_var (i := 2))) (hn_KeptClock__low (P := P) (w := w) T))
      (vss_one (vs_fldAdd (i := 0) (c := "KeptClock") (ve_add (ve_var (i := 1)) (ve_var (i := 2))) (hn_KeptClock__high (P := P) (w := w) T)))))⟩
theorem ok_KeptClock_hear (T : Txt K mg) : FnOk P w K mg base (L2.CX P w) 3 T.a_KeptClock_hear T.e_KeptClock_hear ["self", "sources", "f"] (spX K (clW P w T) 0 W_KeptClock_hear) := by
  refine fn_okP (j := 0) T.F_KeptClock_hear sc_KeptClock_hear (by decide) (fun l cdv A outer s H E hr => ?_)
  have hu := hu65 hr
  have tk := takes_of (X := cxOf (L2.CX P w) P w K mg base ["self", "sources", "f", "found"] "KeptClock.hear" (defScope s_KeptClock_hear) T.a_KeptClock_hear cdv A outer s H E) rfl rfl rfl rfl
  exact ⟨_, (vss_cons (vs_set (i := 3) sc_KeptClock_hear.nd (ve_call (fn_cl (ok_agreement T) rfl rfl) (hr.mono (by decide)) rfl T.d_agreement T.F_agreement.kp T.b_agreement tk (va_cons (ve_var (i := 1)) (va_cons (ve_var (i := 2)) va_nil))))
      (vss_cons (vs_if (VW.b (vw_or (vb_cmp (cm_is hu) (ve_var (i := 3)) ve_non) (vw_or (vb_bor (vb_cmp (cm_gt hu) (ve_ix hu (ve_var (i := 3)) ve_int) (ve_fld (ve_var (i := 0)) (hn_KeptClock__high (P := P) (w := w) T)))) (vw_or1 (vb_bor (vb_cmp (cm_lt hu) (ve_ix hu (ve_var (i := 3)) ve_int) (ve_fld (ve_var (i := 0)) (hn_KeptClock__low (P := P) (w := w) T)))))))) (vss_one (vs_retX ve_bl)) vss_nil)
      (vss_cons (vs_fldO (i := 0) (c := "KeptClock") (ve_bor (ve_blt (bi_max rfl) rfl T.z_max (by decide +kernel) (va_cons (ve_fld (ve_var (i := 0)) (hn_KeptClock__low (P := P) (w := w) T)) (va_cons (ve_ix hu (ve_var (i := 3)) ve_int) va_nil)))) (hn_KeptClock__low (P := P) (w := w) T))
      (vss_cons (vs_fldO (i := 0) (c := "KeptClock") (ve_bor (ve_blt (bi_min rfl) rfl T.z_min (by decide +kernel) (va_cons (ve_fld (ve_var (i := 0)) (hn_KeptClock__high (P := P) (w := w) T)) (va_cons (ve_ix hu (ve_var (i := 3)) ve_int) va_nil)))) (hn_KeptClock__high (P := P) (w := w) T))
      (vss_one (vs_retX ve_bl))))))⟩
theorem ok_u_law_start (T : Txt K mg) : FnOk P w K mg base (L2.CX P w) 1 T.a_u_law_start T.e_u_law_start ["script"] (spD K (clW P w T) wStart) := start_view rfl (ok_start0 T.F_u_law_start T.z_len T.z_int T.z_abs)
theorem ok_u_law_draw (T : Txt K mg) : FnOk P w K mg base (L2.CX P w) 1 T.a_u_law_draw T.e_u_law_draw ["state", "bound"] (spD K (clW P w T) wDraw) := draw_view rfl (ok_draw0 T.F_u_law_draw T.z_len T.z_int)
theorem ok_u_law_pick (T : Txt K mg) : FnOk P w K mg base (L2.CX P w) 2 T.a_u_law_pick T.e_u_law_pick ["state", "things"] (spD K (clW P w T) W_u_law_pick) := by
  refine fn_okX T.F_u_law_pick sc_u_law_pick (by decide) (fun cdv A outer s H E hr => ?_)
  have hu := hu65 hr
  have tk := takes_of (X := cxOf (L2.CX P w) P w K mg base ["state", "things"] "_law_pick" (defScope s_u_law_pick) T.a_u_law_pick cdv A outer s H E) rfl rfl rfl rfl
  exact ⟨_, (vss_one (vs_ret (ve_ix hu (ve_var (i := 1)) (ve_call (ok_u_law_draw T) (hr.mono (by decide)) rfl T.d_u_law_draw T.F_u_law_draw.kp T.b_u_law_draw tk (va_cons (ve_var (i := 0)) (va_cons (ve_blt bi_len rfl T.z_len (by decide +kernel) (va_cons (ve_var (i := 1)) va_nil)) va_nil))))))⟩
theorem ok_u_law_is (T : Txt K mg) : FnOk P w K mg base (L2.CX P w) 1 T.a_u_law_is T.e_u_law_is ["actual", "due"] (spD K (clW P w T) W_u_law_is) := by
  refine fn_okX T.F_u_law_is sc_u_law_is (by decide) (fun cdv A outer s H E hr => ?_)
  have hu := hu65 hr
  have tk := takes_of (X := cxOf (L2.CX P w) P w K mg base ["actual", "due"] "_law_is" (defScope s_u_law_is) T.a_u_law_is cdv A outer s H E) rfl rfl rfl rfl
  exact ⟨_, (vss_one (vs_ret (ve_and (ve_isi rfl T.z_isinstance (by decide +kernel) rfl T.z_bool (by decide +kernel) (by decide) (ve_var (i := 0))) (ve_one (ve_cmp (cm_eq hu) (ve_var (i := 0)) (ve_var (i := 1)))))))⟩
theorem ok_u_law_agreement (T : Txt K mg) : FnOk P w K mg base (L2.CX P w) 1 T.a_u_law_agreement T.e_u_law_agreement ["sources", "f"] (spD K (clW P w T) W_u_law_agreement) := by
  refine fn_okX T.F_u_law_agreement sc_u_law_agreement (by decide) (fun cdv A outer s H E hr => ?_)
  have hu := hu65 hr
  have tk := takes_of (X := cxOf (L2.CX P w) P w K mg base ["sources", "f", "enough", "good", "number", "source"] "_law_agreement" (defScope s_u_law_agreement) T.a_u_law_agreement cdv A outer s H E) rfl rfl rfl rfl
  exact ⟨_, (vss_cons (vs_set (i := 2) sc_u_law_agreement.nd (ve_blt (bi_max rfl) rfl T.z_max (by decide +kernel) (va_cons ve_int (va_cons (ve_sub (ve_blt bi_len rfl T.z_len (by decide +kernel) (va_cons (ve_var (i := 0)) va_nil)) (ve_var (i := 1))) va_nil))))
      (vss_cons (vs_own (i := 3) sc_u_law_agreement.nd (vn_lst va_nil))
      (vss_cons (vs_fgt (js := [1, 4, 5]) (vs_for (passes_of rfl) rfl (vi_rng2 rfl T.z_range (va_cons (ve_blt (bi_min rfl) rfl T.z_min (by decide +kernel) (va_cons (VN.e (vn_lc (own := [("source", 5)]) rfl sc_u_law_agreement.nd (vi_seq (ve_var (i := 0))) (blkOk_by (N := ["sources", "f", "enough", "good", "number", "source"]) (sc := defScope s_u_law_agreement) (by decide +kernel)) (fun _ _ _ _ _ => (vt_name (i := 5) sc_u_law_agreement.nd)) (fun _ _ _ _ _ => vp_nil) (fun _ _ _ _ _ => (ve_ix hu (ve_var (i := 5)) ve_int)))) va_nil)) (va_cons (ve_add (ve_blt (bi_max rfl) rfl T.z_max (by decide +kernel) (va_cons (VN.e (vn_lc (own := [("source", 5)]) rfl sc_u_law_agreement.nd (vi_seq (ve_var (i := 0))) (blkOk_by (N := ["sources", "f", "enough", "good", "number", "source"]) (sc := defScope s_u_law_agreement) (by decide +kernel)) (fun _ _ _ _ _ => (vt_name (i := 5) sc_u_law_agreement.nd)) (fun _ _ _ _ _ => vp_nil) (fun _ _ _ _ _ => (ve_ix hu (ve_var (i := 5)) ve_int)))) va_nil)) ve_int) va_nil))) (vt_name (i := 4) sc_u_law_agreement.nd) (vss_cons (vs_if (vb_cmp (cm_ge hu) (ve_blt bi_len rfl T.z_len (by decide +kernel) (va_cons (VN.e (vn_lc (own := [("source", 5)]) rfl sc_u_law_agreement.nd (vi_seq (ve_var (i := 0))) (blkOk_by (N := ["sources", "f", "enough", "good", "number", "source"]) (sc := defScope s_u_law_agreement) (by decide +kernel)) (fun _ _ _ _ _ => (vt_name (i := 5) sc_u_law_agreement.nd)) (fun _ _ _ _ _ => (vp_one (vb_chain (cm_le hu) (cm_le hu) (ve_ix hu (ve_var (i := 5)) ve_int) (ve_var (i := 4)) (ve_ix hu (ve_var (i := 5)) ve_int)))) (fun _ _ _ _ _ => ve_int))) va_nil)) (ve_var (i := 2))) (vss_one (vs_app (i := 3) (ve_var (i := 4)))) vss_nil)
      (vss_fgt (js := [1, 4, 5]) vss_nil))))
      (vss_one (vs_ret (ve_if (vb_bor (vb_cmp (cm_gt hu) (ve_blt bi_len rfl T.z_len (by decide +kernel) (va_cons (ve_var (i := 3)) va_nil)) ve_int)) (ve_tup (va_cons (ve_ixO (i := 3) hu ve_int) (va_cons (ve_ixO (i := 3) hu (ve_neg ve_int)) va_nil))) ve_non))))))⟩
theorem ok_u_law_source (T : Txt K mg) : FnOk P w K mg base (L2.CX P w) 2 T.a_u_law_source T.e_u_law_source ["state", "time", "is_right"] (spD K (clW P w T) W_u_law_source) := by
  refine fn_okX T.F_u_law_source sc_u_law_source (by decide) (fun cdv A outer s H E hr => ?_)
  have hu := hu65 hr
  have tk := takes_of (X := cxOf (L2.CX P w) P w K mg base ["state", "time", "is_right", "low"] "_law_source" (defScope s_u_law_source) T.a_u_law_source cdv A outer s H E) rfl rfl rfl rfl
  exact ⟨_, (vss_cons (vs_if (vb_truth (ve_var (i := 2))) (vss_one (vs_ret (ve_tup (va_cons (ve_sub (ve_var (i := 1)) (ve_call (ok_u_law_draw T) (hr.mono (by decide)) rfl T.d_u_law_draw T.F_u_law_draw.kp T.b_u_law_draw tk (va_cons (ve_var (i := 0)) (va_cons ve_int va_nil)))) (va_cons (ve_add (ve_var (i := 1)) (ve_call (ok_u_law_draw T) (hr.mono (by decide)) rfl T.d_u_law_draw T.F_u_law_draw.kp T.b_u_law_draw tk (va_cons (ve_var (i := 0)) (va_cons ve_int va_nil)))) va_nil))))) vss_nil)
      (vss_cons (vs_set (i := 3) sc_u_law_source.nd (ve_add (ve_sub (ve_var (i := 1)) ve_int) (ve_call (ok_u_law_draw T) (hr.mono (by decide)) rfl T.d_u_law_draw T.F_u_law_draw.kp T.b_u_law_draw tk (va_cons (ve_var (i := 0)) (va_cons ve_int va_nil)))))
      (vss_one (vs_ret (ve_tup (va_cons (ve_var (i := 3)) (va_cons (ve_add (ve_var (i := 3)) (ve_call (ok_u_law_draw T) (hr.mono (by decide)) rfl T.d_u_law_draw T.F_u_law_draw.kp T.b_u_law_draw tk (va_cons (ve_var (i := 0)) (va_cons ve_int va_nil)))) va_nil)))))))⟩
theorem ok_law (T : Txt K mg) : FnOk P w K mg base (L2.CX P w) 4 T.a_law T.e_law ["script"] (spD K (clW P w T) W_law) := by
  refine fn_okX T.F_law sc_law (by decide) (fun cdv A outer s H E hr => ?_)
  have hu := hu65 hr
  have tk := takes_of (X := cxOf (L2.CX P w) P w K mg base ["script", "state", "time", "rate", "mine", "clock", "other", "honest", "step", "d", "doubt", "many", "f", "wrong", "sources", "k", "due", "kept", "is_met"] "law" (defScope s_law) T.a_law cdv A outer s H E) rfl rfl rfl rfl
  exact ⟨_, (vss_cons (vs_set (i := 1) sc_law.nd (ve_call (ok_u_law_start T) (hr.mono (by decide)) rfl T.d_u_law_start T.F_u_law_start.kp T.b_u_law_start tk (va_cons (ve_var (i := 0)) va_nil)))
      (vss_cons (vs_set (i := 2) sc_law.nd (ve_sub (ve_call (ok_u_law_draw T) (hr.mono (by decide)) rfl T.d_u_law_draw T.F_u_law_draw.kp T.b_u_law_draw tk (va_cons (ve_var (i := 1)) (va_cons ve_int va_nil))) ve_int))
      (vss_cons (vs_set (i := 3) sc_law.nd (ve_call (ok_u_law_pick T) (hr.mono (by decide)) rfl T.d_u_law_pick T.F_u_law_pick.kp T.b_u_law_pick tk (va_cons (ve_var (i := 1)) (va_cons (VN.e (vn_lst (va_cons ve_int (va_cons ve_int (va_cons ve_int (va_cons (ve_call (ok_u_law_draw T) (hr.mono (by decide)) rfl T.d_u_law_draw T.F_u_law_draw.kp T.b_u_law_draw tk (va_cons (ve_var (i := 1)) (va_cons ve_int va_nil))) (va_cons (ve_call (ok_u_law_draw T) (hr.mono (by decide)) rfl T.d_u_law_draw T.F_u_law_draw.kp T.b_u_law_draw tk (va_cons (ve_var (i := 1)) (va_cons ve_int va_nil))) va_nil))))))) va_nil))))
      (vss_cons (vs_set (i := 4) sc_law.nd (VN.e (vn_lst (va_cons (ve_sub (ve_var (i := 2)) (ve_call (ok_u_law_draw T) (hr.mono (by decide)) rfl T.d_u_law_draw T.F_u_law_draw.kp T.b_u_law_draw tk (va_cons (ve_var (i := 1)) (va_cons ve_int va_nil)))) (va_cons (ve_add (ve_var (i := 2)) (ve_call (ok_u_law_draw T) (hr.mono (by decide)) rfl T.d_u_law_draw T.F_u_law_draw.kp T.b_u_law_draw tk (va_cons (ve_var (i := 1)) (va_cons ve_int va_nil)))) va_nil)))))
      (vss_cons (vs_own (i := 5) sc_law.nd (vn_makeI (ok_KeptClock___init__ T) (hr.mono (by decide)) T.mk_KeptClock rfl T.c_KeptClock T.b_KeptClock___init__ (hc_KeptClock (P := P) (w := w) T) (va_cons (ve_var (i := 3)) (va_cons (ve_ix hu (ve_var (i := 4)) ve_int) (va_cons (ve_ix hu (ve_var (i := 4)) ve_int) va_nil)))))
      (vss_cons (vs_own (i := 6) sc_law.nd (vn_makeI (ok_KeptClock___init__ T) (hr.mono (by decide)) T.mk_KeptClock rfl T.c_KeptClock T.b_KeptClock___init__ (hc_KeptClock (P := P) (w := w) T) (va_cons ve_int (va_cons (ve_neg ve_int) (va_cons ve_int va_nil)))))
      (vss_cons (vs_dropX (vex_meth (i := 6) (ok_KeptClock_count T) (hr.mono (by decide)) T.cls_KeptClock T.me_KeptClock_count T.b_KeptClock_count (hc_KeptClock (P := P) (w := w) T) (va_cons ve_int va_nil)))
      (vss_cons (vs_set (i := 7) sc_law.nd (ve_cmp (cm_eq hu) (ve_call (ok_u_law_draw T) (hr.mono (by decide)) rfl T.d_u_law_draw T.F_u_law_draw.kp T.b_u_law_draw tk (va_cons (ve_var (i := 1)) (va_cons ve_int va_nil))) ve_int))
      (vss_cons (vs_fgt (js := [0, 6, 8, 9, 10, 11, 12, 13, 14, 15, 16, 17, 18]) (vs_for (passes_of rfl) rfl (vi_rng1 rfl T.z_range (va_cons (ve_add ve_int (ve_call (ok_u_law_draw T) (hr.mono (by decide)) rfl T.d_u_law_draw T.F_u_law_draw.kp T.b_u_law_draw tk (va_cons (ve_var (i := 1)) (va_cons ve_int va_nil)))) va_nil)) (vt_name (i := 8) sc_law.nd) (vss_cons (vs_if (vb_cmp (cm_eq hu) (ve_call (ok_u_law_draw T) (hr.mono (by decide)) rfl T.d_u_law_draw T.F_u_law_draw.kp T.b_u_law_draw tk (va_cons (ve_var (i := 1)) (va_cons ve_int va_nil))) ve_int) (vss_cons (vs_set (i := 9) sc_law.nd (ve_if (vb_cmp (cm_ne hu) (ve_var (i := 3)) ve_int) (ve_call (ok_u_law_draw T) (hr.mono (by decide)) rfl T.d_u_law_draw T.F_u_law_draw.kp T.b_u_law_draw tk (va_cons (ve_var (i := 1)) (va_cons (ve_call (ok_u_law_pick T) (hr.mono (by decide)) rfl T.d_u_law_pick T.F_u_law_pick.kp T.b_u_law_pick tk (va_cons (ve_var (i := 1)) (va_cons (VN.e (vn_lst (va_cons ve_int (va_cons ve_int (va_cons ve_int va_nil))))) va_nil))) va_nil))) (ve_add (ve_mul ve_int (ve_call (ok_u_law_draw T) (hr.mono (by decide)) rfl T.d_u_law_draw T.F_u_law_draw.kp T.b_u_law_draw tk (va_cons (ve_var (i := 1)) (va_cons ve_int va_nil)))) (ve_call (ok_u_law_draw T) (hr.mono (by decide)) rfl T.d_u_law_draw T.F_u_law_draw.kp T.b_u_law_draw tk (va_cons (ve_var (i := 1)) (va_cons ve_int va_nil))))))
      (vss_cons (vs_set (i := 10) sc_law.nd (ve_div (ve_add (ve_mul (ve_var (i := 9)) (ve_var (i := 3))) ve_int) ve_int))
      (vss_cons (vs_dropX (vex_meth (i := 5) (ok_KeptClock_count T) (hr.mono (by decide)) T.cls_KeptClock T.me_KeptClock_count T.b_KeptClock_count (hc_KeptClock (P := P) (w := w) T) (va_cons (ve_var (i := 9)) va_nil)))
      (vss_cons (vs_set (i := 2) sc_law.nd (ve_add (ve_sub (ve_add (ve_var (i := 2)) (ve_var (i := 9))) (ve_var (i := 10))) (ve_call (ok_u_law_draw T) (hr.mono (by decide)) rfl T.d_u_law_draw T.F_u_law_draw.kp T.b_u_law_draw tk (va_cons (ve_var (i := 1)) (va_cons (ve_add (ve_mul ve_int (ve_var (i := 10))) ve_int) va_nil)))))
      (vss_one (vs_set (i := 4) sc_law.nd (VN.e (vn_lst (va_cons (ve_sub (ve_add (ve_ix hu (ve_var (i := 4)) ve_int) (ve_var (i := 9))) (ve_var (i := 10))) (va_cons (ve_add (ve_add (ve_ix hu (ve_var (i := 4)) ve_int) (ve_var (i := 9))) (ve_var (i := 10))) va_nil)))))))))) (vss_cons (vs_set (i := 11) sc_law.nd (ve_add ve_int (ve_call (ok_u_law_draw T) (hr.mono (by decide)) rfl T.d_u_law_draw T.F_u_law_draw.kp T.b_u_law_draw tk (va_cons (ve_var (i := 1)) (va_cons ve_int va_nil)))))
      (vss_cons (vs_set (i := 12) sc_law.nd (ve_call (ok_u_law_draw T) (hr.mono (by decide)) rfl T.d_u_law_draw T.F_u_law_draw.kp T.b_u_law_draw tk (va_cons (ve_var (i := 1)) (va_cons (ve_if (vb_truth (ve_var (i := 7))) (ve_var (i := 11)) (ve_add (ve_var (i := 11)) ve_int)) va_nil))))
      (vss_cons (vs_set (i := 13) sc_law.nd (ve_if (vb_truth (ve_var (i := 7))) (ve_call (ok_u_law_draw T) (hr.mono (by decide)) rfl T.d_u_law_draw T.F_u_law_draw.kp T.b_u_law_draw tk (va_cons (ve_var (i := 1)) (va_cons (ve_add (ve_var (i := 12)) ve_int) va_nil))) (ve_call (ok_u_law_draw T) (hr.mono (by decide)) rfl T.d_u_law_draw T.F_u_law_draw.kp T.b_u_law_draw tk (va_cons (ve_var (i := 1)) (va_cons (ve_add (ve_var (i := 11)) ve_int) va_nil)))))
      (vss_cons (vs_own (i := 14) sc_law.nd (vn_lst va_nil))
      (vss_cons (vs_fgt (js := [0, 6, 8, 9, 10, 15, 16, 17, 18]) (vs_for (passes_of rfl) rfl (vi_rng1 rfl T.z_range (va_cons (ve_var (i := 11)) va_nil)) (vt_name (i := 15) sc_law.nd) (vss_cons (vs_lop1 (i := 14) PySem.F.slot_list_insert PySem.F.type_list_insert mt_insert rfm_ins (va_cons (ve_call (ok_u_law_draw T) (hr.mono (by decide)) rfl T.d_u_law_draw T.F_u_law_draw.kp T.b_u_law_draw tk (va_cons (ve_var (i := 1)) (va_cons (ve_add (ve_var (i := 15)) ve_int) va_nil))) (va_cons (ve_call (ok_u_law_source T) (hr.mono (by decide)) rfl T.d_u_law_source T.F_u_law_source.kp T.b_u_law_source tk (va_cons (ve_var (i := 1)) (va_cons (ve_var (i := 2)) (va_cons (ve_cmp (cm_ge hu) (ve_var (i := 15)) (ve_var (i := 13))) va_nil)))) va_nil)))
      (vss_fgt (js := [0, 6, 8, 9, 10, 11, 15, 16, 17, 18]) vss_nil))))
      (vss_cons (vs_frz (i := 14) (vs_set (i := 16) sc_law.nd (ve_call (ok_u_law_agreement T) (hr.mono (by decide)) rfl T.d_u_law_agreement T.F_u_law_agreement.kp T.b_u_law_agreement tk (va_cons (ve_var (i := 14)) (va_cons (ve_var (i := 12)) va_nil)))))
      (vss_cons (vs_set (i := 17) sc_law.nd (VN.e (vn_cls bn_list rfl T.z_list (by decide +kernel) (va_cons (ve_var (i := 14)) va_nil))))
      (vss_cons (vs_if (VW.b (vw_or (vb_cmp (cm_ne hu) (ve_call (ok_agreement T) (hr.mono (by decide)) rfl T.d_agreement T.F_agreement.kp T.b_agreement tk (va_cons (VN.e (vn_cls bn_list rfl T.z_list (by decide +kernel) (va_cons (ve_var (i := 14)) va_nil))) (va_cons (ve_var (i := 12)) va_nil))) (ve_var (i := 16))) (vw_or1 (vb_cmp (cm_ne hu) (ve_var (i := 14)) (ve_var (i := 17)))))) (vss_one (vs_ret ve_bl)) vss_nil)
      (vss_cons (vs_if (VW.b (vw_and (vb_truth (ve_var (i := 7))) (vw_and1 (VW.b (vw_or (vb_cmp (cm_is hu) (ve_var (i := 16)) ve_non) (vw_or1 (vb_not (vb_chain (cm_le hu) (cm_le hu) (ve_ix hu (ve_var (i := 16)) ve_int) (ve_var (i := 2)) (ve_ix hu (ve_var (i := 16)) ve_int))))))))) (vss_one (vs_ret ve_bl)) vss_nil)
      (vss_cons (vs_set (i := 18) sc_law.nd (ve_and (ve_cmp (cm_isNot hu) (ve_var (i := 16)) ve_non) (ve_and (ve_cmp (cm_le hu) (ve_ix hu (ve_var (i := 16)) ve_int) (ve_ix hu (ve_var (i := 4)) ve_int)) (ve_one (ve_cmp (cm_le hu) (ve_ix hu (ve_var (i := 4)) ve_int) (ve_ix hu (ve_var (i := 16)) ve_int))))))
      (vss_cons (vs_if (vb_truth (ve_var (i := 18))) (vss_one (vs_set (i := 4) sc_law.nd (VN.e (vn_lst (va_cons (ve_blt (bi_max rfl) rfl T.z_max (by decide +kernel) (va_cons (ve_ix hu (ve_var (i := 4)) ve_int) (va_cons (ve_ix hu (ve_var (i := 16)) ve_int) va_nil))) (va_cons (ve_blt (bi_min rfl) rfl T.z_min (by decide +kernel) (va_cons (ve_ix hu (ve_var (i := 4)) ve_int) (va_cons (ve_ix hu (ve_var (i := 16)) ve_int) va_nil))) va_nil)))))) vss_nil)
      (vss_one (vs_fgt (js := [0, 6, 8, 9, 10, 11, 13, 15, 16]) (vs_ifNotX (ok_u_law_is T) (hr.mono (by decide)) rfl T.d_u_law_is T.F_u_law_is.kp T.b_u_law_is tk (vex_meth (i := 5) (ok_KeptClock_hear T) (hr.mono (by decide)) T.cls_KeptClock T.me_KeptClock_hear T.b_KeptClock_hear (hc_KeptClock (P := P) (w := w) T) (va_cons (VN.e (vn_cls bn_list rfl T.z_list (by decide +kernel) (va_cons (ve_var (i := 14)) va_nil))) (va_cons (ve_var (i := 12)) va_nil))) (va_cons (ve_var (i := 18)) va_nil) (vw_or1 (vb_cmp (cm_ne hu) (ve_var (i := 14)) (ve_var (i := 17)))))))))))))))))))
      (vss_cons (vs_fgt (js := [0, 6, 8, 9, 10, 11, 12, 13, 14, 15, 16, 17, 18]) (vs_if (VW.b (vw_or (vb_bor (vb_cmp (cm_ne hu) (ve_meth0 (ok_KeptClock_known T) (hr.mono (by decide)) T.cls_KeptClock T.me_KeptClock_known T.b_KeptClock_known (hc_KeptClock (P := P) (w := w) T) (ve_var (i := 5))) (ve_tup (va_cons (ve_ix hu (ve_var (i := 4)) ve_int) (va_cons (ve_ix hu (ve_var (i := 4)) ve_int) va_nil))))) (vw_or1 (VW.b (vw_and (vb_truth (ve_var (i := 7))) (vw_and1 (vb_not (vb_chain (cm_le hu) (cm_le hu) (ve_ix hu (ve_var (i := 4)) ve_int) (ve_var (i := 2)) (ve_ix hu (ve_var (i := 4)) ve_int))))))))) (vss_one (vs_ret ve_bl)) vss_nil))
      (vss_fgt (js := [0, 6, 8, 9, 10, 11, 12, 13, 14, 15, 16, 17, 18]) vss_nil)))))
      (vss_one (vs_ret ve_bl)))))))))))⟩
end
end K30

set_option maxHeartbeats 8000000
/-! The last steps. -/
namespace K30
open PySem L2 DL PyProof.Rows
theorem all_mk {P : Program} {w : World} {K : PySem.W.Frag} {h : Heap} {mg : Str → Option Value} {fa : Addr} (X : K.In h) (G : h.Ns mainGlobals mg) (hfa : mg "law" = some (.ref fa))
    {C_KeptClock : Addr} (aC_KeptClock : PySem.W.nsIn K mainGlobals "KeptClock" = some (some (.ref C_KeptClock)))
    (pg_KeptClock : PySem.W.plainGet K C_KeptClock Str.empty = true) (hd_KeptClock : PySem.W.hasDictIn K C_KeptClock = true) (po_KeptClock : PySem.W.plainOver K C_KeptClock = true) (sa_KeptClock : PySem.W.findIn K (.ref C_KeptClock) "__setattr__" = some (some (.builtin "object.__setattr__"))) (mk_KeptClock : PySem.W.makesIn K C_KeptClock = true) (kc_KeptClock : PySem.W.keepIn K (.ref C_KeptClock) = true)
    (na_KeptClock__rate : PySem.W.findIn K (.ref C_KeptClock) "_rate" = some none)
    (na_KeptClock__low : PySem.W.findIn K (.ref C_KeptClock) "_low" = some none)
    (na_KeptClock__high : PySem.W.findIn K (.ref C_KeptClock) "_high" = some none)
    {f0 : Addr} {od0 an0 : Option Addr} {sl0 : Array (Option Value)} {oc0 kV0 dc0 pm0 cd0 ct0 : Value}
    {f1 : Addr} {od1 an1 : Option Addr} {sl1 : Array (Option Value)} {oc1 kV1 dc1 pm1 cd1 ct1 : Value}
    {f2 : Addr} {od2 an2 : Option Addr} {sl2 : Array (Option Value)} {oc2 kV2 dc2 pm2 cd2 ct2 : Value}
    {f3 : Addr} {od3 an3 : Option Addr} {sl3 : Array (Option Value)} {oc3 kV3 dc3 pm3 cd3 ct3 : Value}
    {f4 : Addr} {od4 an4 : Option Addr} {sl4 : Array (Option Value)} {oc4 kV4 dc4 pm4 cd4 ct4 : Value}
    {f5 : Addr} {od5 an5 : Option Addr} {sl5 : Array (Option Value)} {oc5 kV5 dc5 pm5 cd5 ct5 : Value}
    {f6 : Addr} {od6 an6 : Option Addr} {sl6 : Array (Option Value)} {oc6 kV6 dc6 pm6 cd6 ct6 : Value}
    {f7 : Addr} {od7 an7 : Option Addr} {sl7 : Array (Option Value)} {oc7 kV7 dc7 pm7 cd7 ct7 : Value}
    {f8 : Addr} {od8 an8 : Option Addr} {sl8 : Array (Option Value)} {oc8 kV8 dc8 pm8 cd8 ct8 : Value}
    {f9 : Addr} {od9 an9 : Option Addr} {sl9 : Array (Option Value)} {oc9 kV9 dc9 pm9 cd9 ct9 : Value}
    {f10 : Addr} {od10 an10 : Option Addr} {sl10 : Array (Option Value)} {oc10 kV10 dc10 pm10 cd10 ct10 : Value}
    {f11 : Addr} {od11 an11 : Option Addr} {sl11 : Array (Option Value)} {oc11 kV11 dc11 pm11 cd11 ct11 : Value}
    {f12 : Addr} {od12 an12 : Option Addr} {sl12 : Array (Option Value)} {oc12 kV12 dc12 pm12 cd12 ct12 : Value}
    {f13 : Addr} {od13 an13 : Option Addr} {sl13 : Array (Option Value)} {oc13 kV13 dc13 pm13 cd13 ct13 : Value}
    (a0 : PySem.W.nsIn K mainGlobals "ratio_up" = some (some (.ref f0)))
    (l0 : K.lookup f0 = some ⟨oc0, od0, .func (PySem.W.fnOf "ratio_up" "ratio_up" (defArgs s_ratio_up) (defBody s_ratio_up) (defScope s_ratio_up) .none kV0 dc0 pm0 an0 cd0 ct0), sl0⟩) (c0 : PySem.W.codeIn K cd0 "ratio_up" = true) (k0 : PySem.W.keepIn K (.ref f0) = true)
    (a1 : PySem.W.nsIn K mainGlobals "count_of" = some (some (.ref f1)))
    (l1 : K.lookup f1 = some ⟨oc1, od1, .func (PySem.W.fnOf "count_of" "count_of" (defArgs s_count_of) (defBody s_count_of) (defScope s_count_of) .none kV1 dc1 pm1 an1 cd1 ct1), sl1⟩) (c1 : PySem.W.codeIn K cd1 "count_of" = true) (k1 : PySem.W.keepIn K (.ref f1) = true)
    (a2 : PySem.W.nsIn K mainGlobals "agreement" = some (some (.ref f2)))
    (l2 : K.lookup f2 = some ⟨oc2, od2, .func (PySem.W.fnOf "agreement" "agreement" (defArgs s_agreement) (defBody s_agreement) (defScope s_agreement) .none kV2 dc2 pm2 an2 cd2 ct2), sl2⟩) (c2 : PySem.W.codeIn K cd2 "agreement" = true) (k2 : PySem.W.keepIn K (.ref f2) = true)
    (a3 : PySem.W.findIn K (.ref C_KeptClock) "__init__" = some (some (.ref f3))) (i3 : PySem.W.isFn K (.ref f3) = true)
    (l3 : K.lookup f3 = some ⟨oc3, od3, .func (PySem.W.fnOf "__init__" "KeptClock.__init__" (defArgs s_KeptClock___init__) (defBody s_KeptClock___init__) (defScope s_KeptClock___init__) .none kV3 dc3 pm3 an3 cd3 ct3), sl3⟩) (c3 : PySem.W.codeIn K cd3 "KeptClock.__init__" = true) (k3 : PySem.W.keepIn K (.ref f3) = true)
    (a4 : PySem.W.findIn K (.ref C_KeptClock) "known" = some (some (.ref f4))) (i4 : PySem.W.isFn K (.ref f4) = true)
    (l4 : K.lookup f4 = some ⟨oc4, od4, .func (PySem.W.fnOf "known" "KeptClock.known" (defArgs s_KeptClock_known) (defBody s_KeptClock_known) (defScope s_KeptClock_known) .none kV4 dc4 pm4 an4 cd4 ct4), sl4⟩) (c4 : PySem.W.codeIn K cd4 "KeptClock.known" = true) (k4 : PySem.W.keepIn K (.ref f4) = true)
    (a5 : PySem.W.findIn K (.ref C_KeptClock) "count" = some (some (.ref f5))) (i5 : PySem.W.isFn K (.ref f5) = true)
    (l5 : K.lookup f5 = some ⟨oc5, od5, .func (PySem.W.fnOf "count" "KeptClock.count" (defArgs s_KeptClock_count) (defBody s_KeptClock_count) (defScope s_KeptClock_count) .none kV5 dc5 pm5 an5 cd5 ct5), sl5⟩) (c5 : PySem.W.codeIn K cd5 "KeptClock.count" = true) (k5 : PySem.W.keepIn K (.ref f5) = true)
    (a6 : PySem.W.findIn K (.ref C_KeptClock) "hear" = some (some (.ref f6))) (i6 : PySem.W.isFn K (.ref f6) = true)
    (l6 : K.lookup f6 = some ⟨oc6, od6, .func (PySem.W.fnOf "hear" "KeptClock.hear" (defArgs s_KeptClock_hear) (defBody s_KeptClock_hear) (defScope s_KeptClock_hear) .none kV6 dc6 pm6 an6 cd6 ct6), sl6⟩) (c6 : PySem.W.codeIn K cd6 "KeptClock.hear" = true) (k6 : PySem.W.keepIn K (.ref f6) = true)
    (a7 : PySem.W.nsIn K mainGlobals "_law_start" = some (some (.ref f7)))
    (l7 : K.lookup f7 = some ⟨oc7, od7, .func (PySem.W.fnOf "_law_start" "_law_start" (defArgs s_u_law_start) (defBody s_u_law_start) (defScope s_u_law_start) .none kV7 dc7 pm7 an7 cd7 ct7), sl7⟩) (c7 : PySem.W.codeIn K cd7 "_law_start" = true) (k7 : PySem.W.keepIn K (.ref f7) = true)
    (a8 : PySem.W.nsIn K mainGlobals "_law_draw" = some (some (.ref f8)))
    (l8 : K.lookup f8 = some ⟨oc8, od8, .func (PySem.W.fnOf "_law_draw" "_law_draw" (defArgs s_u_law_draw) (defBody s_u_law_draw) (defScope s_u_law_draw) .none kV8 dc8 pm8 an8 cd8 ct8), sl8⟩) (c8 : PySem.W.codeIn K cd8 "_law_draw" = true) (k8 : PySem.W.keepIn K (.ref f8) = true)
    (a9 : PySem.W.nsIn K mainGlobals "_law_pick" = some (some (.ref f9)))
    (l9 : K.lookup f9 = some ⟨oc9, od9, .func (PySem.W.fnOf "_law_pick" "_law_pick" (defArgs s_u_law_pick) (defBody s_u_law_pick) (defScope s_u_law_pick) .none kV9 dc9 pm9 an9 cd9 ct9), sl9⟩) (c9 : PySem.W.codeIn K cd9 "_law_pick" = true) (k9 : PySem.W.keepIn K (.ref f9) = true)
    (a10 : PySem.W.nsIn K mainGlobals "_law_is" = some (some (.ref f10)))
    (l10 : K.lookup f10 = some ⟨oc10, od10, .func (PySem.W.fnOf "_law_is" "_law_is" (defArgs s_u_law_is) (defBody s_u_law_is) (defScope s_u_law_is) .none kV10 dc10 pm10 an10 cd10 ct10), sl10⟩) (c10 : PySem.W.codeIn K cd10 "_law_is" = true) (k10 : PySem.W.keepIn K (.ref f10) = true)
    (a11 : PySem.W.nsIn K mainGlobals "_law_agreement" = some (some (.ref f11)))
    (l11 : K.lookup f11 = some ⟨oc11, od11, .func (PySem.W.fnOf "_law_agreement" "_law_agreement" (defArgs s_u_law_agreement) (defBody s_u_law_agreement) (defScope s_u_law_agreement) .none kV11 dc11 pm11 an11 cd11 ct11), sl11⟩) (c11 : PySem.W.codeIn K cd11 "_law_agreement" = true) (k11 : PySem.W.keepIn K (.ref f11) = true)
    (a12 : PySem.W.nsIn K mainGlobals "_law_source" = some (some (.ref f12)))
    (l12 : K.lookup f12 = some ⟨oc12, od12, .func (PySem.W.fnOf "_law_source" "_law_source" (defArgs s_u_law_source) (defBody s_u_law_source) (defScope s_u_law_source) .none kV12 dc12 pm12 an12 cd12 ct12), sl12⟩) (c12 : PySem.W.codeIn K cd12 "_law_source" = true) (k12 : PySem.W.keepIn K (.ref f12) = true)
    (a13 : PySem.W.nsIn K mainGlobals "law" = some (some (.ref f13)))
    (l13 : K.lookup f13 = some ⟨oc13, od13, .func (PySem.W.fnOf "law" "law" (defArgs s_law) (defBody s_law) (defScope s_law) .none kV13 dc13 pm13 an13 cd13 ct13), sl13⟩) (c13 : PySem.W.codeIn K cd13 "law" = true) (k13 : PySem.W.keepIn K (.ref f13) = true)
    (z_max : PySem.W.nsIn K mainGlobals "max" = some none)
    (z_len : PySem.W.nsIn K mainGlobals "len" = some none)
    (z_sorted : PySem.W.nsIn K mainGlobals "sorted" = some none)
    (z_min : PySem.W.nsIn K mainGlobals "min" = some none)
    (z_isinstance : PySem.W.nsIn K mainGlobals "isinstance" = some none)
    (z_bool : PySem.W.nsIn K mainGlobals "bool" = some none)
    (z_range : PySem.W.nsIn K mainGlobals "range" = some none)
    (z_list : PySem.W.nsIn K mainGlobals "list" = some none)
    (z_int : PySem.W.nsIn K mainGlobals "int" = some none)
    (z_abs : PySem.W.nsIn K mainGlobals "abs" = some none)
    {t_PARTS : Tok} (g_PARTS : PySem.W.nsIn K mainGlobals "PARTS" = some (some (.int (1000000) t_PARTS))) :
    ∃ fd : FuncData, (∀ (s : Shared) (v : Value), BindsTo s fd ⟨[v], []⟩ [("script", v)]) ∧ ∀ base : Heap, K.In base → base.Ns mainGlobals mg → FnOk P w K mg base (L2.CX P w) 4 fa fd ["script"] (spLaw K) := by
  have e := hfa.symm.trans (PySem.W.mg_of X G a13)
  cases e
  letI : TN := ⟨[], fun _ => default⟩
  let T : Txt K mg := { a_ratio_up := f0, e_ratio_up := _, F_ratio_up := fun_mk l0 c0 k0, b_ratio_up := (fun_mk (st := s_ratio_up) l0 c0 k0).binds (fun _ _ _ _ _ _ us hl => match us, hl with | [_, _], _ => rfl), d_ratio_up := PySem.W.mg_of X G a0, a_count_of := f1, e_count_of := _, F_count_of := fun_mk l1 c1 k1, b_count_of := (fun_mk (st := s_count_of) l1 c1 k1).binds (fun _ _ _ _ _ _ us hl => match us, hl with | [_, _], _ => rfl), d_count_of := PySem.W.mg_of X G a1, a_agreement := f2, e_agreement := _, F_agreement := fun_mk l2 c2 k2, b_agreement := (fun_mk (st := s_agreement) l2 c2 k2).binds (fun _ _ _ _ _ _ us hl => match us, hl with | [_, _], _ => rfl), d_agreement := PySem.W.mg_of X G a2, a_KeptClock___init__ := f3, e_KeptClock___init__ := _, F_KeptClock___init__ := fun_mk l3 c3 k3, b_KeptClock___init__ := (fun_mk (st := s_KeptClock___init__) l3 c3 k3).binds (fun _ _ _ _ _ _ us hl => match us, hl with | [_, _, _, _], _ => rfl), mk_KeptClock := ⟨mk_KeptClock, a3, i3, kc_KeptClock⟩, a_KeptClock_known := f4, e_KeptClock_known := _, F_KeptClock_known := fun_mk l4 c4 k4, b_KeptClock_known := (fun_mk (st := s_KeptClock_known) l4 c4 k4).binds (fun _ _ _ _ _ _ us hl => match us, hl with | [_], _ => rfl), me_KeptClock_known := ⟨a4, i4, k4⟩, a_KeptClock_count := f5, e_KeptClock_count := _, F_KeptClock_count := fun_mk l5 c5 k5, b_KeptClock_count := (fun_mk (st := s_KeptClock_count) l5 c5 k5).binds (fun _ _ _ _ _ _ us hl => match us, hl with | [_, _], _ => rfl), me_KeptClock_count := ⟨a5, i5, k5⟩, a_KeptClock_hear := f6, e_KeptClock_hear := _, F_KeptClock_hear := fun_mk l6 c6 k6, b_KeptClock_hear := (fun_mk (st := s_KeptClock_hear) l6 c6 k6).binds (fun _ _ _ _ _ _ us hl => match us, hl with | [_, _, _], _ => rfl), me_KeptClock_hear := ⟨a6, i6, k6⟩, a_u_law_start := f7, e_u_law_start := _, F_u_law_start := fun_mk l7 c7 k7, b_u_law_start := (fun_mk (st := s_u_law_start) l7 c7 k7).binds (fun _ _ _ _ _ _ us hl => match us, hl with | [_], _ => rfl), d_u_law_start := PySem.W.mg_of X G a7, a_u_law_draw := f8, e_u_law_draw := _, F_u_law_draw := fun_mk l8 c8 k8, b_u_law_draw := (fun_mk (st := s_u_law_draw) l8 c8 k8).binds (fun _ _ _ _ _ _ us hl => match us, hl with | [_, _], _ => rfl), d_u_law_draw := PySem.W.mg_of X G a8, a_u_law_pick := f9, e_u_law_pick := _, F_u_law_pick := fun_mk l9 c9 k9, b_u_law_pick := (fun_mk (st := s_u_law_pick) l9 c9 k9).binds (fun _ _ _ _ _ _ us hl => match us, hl with | [_, _], _ => rfl), d_u_law_pick := PySem.W.mg_of X G a9, a_u_law_is := f10, e_u_law_is := _, F_u_law_is := fun_mk l10 c10 k10, b_u_law_is := (fun_mk (st := s_u_law_is) l10 c10 k10).binds (fun _ _ _ _ _ _ us hl => match us, hl with | [_, _], _ => rfl), d_u_law_is := PySem.W.mg_of X G a10, a_u_law_agreement := f11, e_u_law_agreement := _, F_u_law_agreement := fun_mk l11 c11 k11, b_u_law_agreement := (fun_mk (st := s_u_law_agreement) l11 c11 k11).binds (fun _ _ _ _ _ _ us hl => match us, hl with | [_, _], _ => rfl), d_u_law_agreement := PySem.W.mg_of X G a11, a_u_law_source := f12, e_u_law_source := _, F_u_law_source := fun_mk l12 c12 k12, b_u_law_source := (fun_mk (st := s_u_law_source) l12 c12 k12).binds (fun _ _ _ _ _ _ us hl => match us, hl with | [_, _, _], _ => rfl), d_u_law_source := PySem.W.mg_of X G a12, a_law := fa, e_law := _, F_law := fun_mk l13 c13 k13, b_law := (fun_mk (st := s_law) l13 c13 k13).binds (fun _ _ _ _ _ _ us hl => match us, hl with | [_], _ => rfl), d_law := PySem.W.mg_of X G a13, C_KeptClock := C_KeptClock, c_KeptClock := PySem.W.mg_of X G aC_KeptClock, cls_KeptClock := ⟨pg_KeptClock, hd_KeptClock, po_KeptClock, sa_KeptClock⟩, na_KeptClock__rate := na_KeptClock__rate, na_KeptClock__low := na_KeptClock__low, na_KeptClock__high := na_KeptClock__high, z_max := PySem.W.mg_none_of X G z_max, z_len := PySem.W.mg_none_of X G z_len, z_sorted := PySem.W.mg_none_of X G z_sorted, z_min := PySem.W.mg_none_of X G z_min, z_isinstance := PySem.W.mg_none_of X G z_isinstance, z_bool := PySem.W.mg_none_of X G z_bool, z_range := PySem.W.mg_none_of X G z_range, z_list := PySem.W.mg_none_of X G z_list, z_int := PySem.W.mg_none_of X G z_int, z_abs := PySem.W.mg_none_of X G z_abs, t_PARTS := t_PARTS, g_PARTS := PySem.W.mg_of X G g_PARTS }
  refine ⟨T.e_law, fun s v => .of_eq rfl, fun base _ _ => ?_⟩
  exact law_ok (ok_law T) vc_law
end K30
open PySem PySem.W PyProof.Rows
set_option maxRecDepth 100000 in
set_option maxHeartbeats 0 in
theorem PySem.Challenge.cw_foreverdays_k30_whole_kept_clocks_holds : PySem.Challenge.rw_foreverdays_k30_whole_kept_clocks.Holds := by
  w_on; o_law; k_head; (case hw => w_witness2)
  k_fill
  refine DL.walkD (l := PySem.Challenge.rw_foreverdays_k30_whole_kept_clocks) (k := 4) rfl rfl ⟨rfl, by decide, by decide⟩ (fun w h Y => PySem.W.kIn_of Y) ?F
  case F =>
    intro w mg fa h KX G hmg
    refine' K30.all_mk KX G hmg ?aC_KeptClock ?pg_KeptClock ?hd_KeptClock ?po_KeptClock ?sa_KeptClock ?mk_KeptClock ?kc_KeptClock ?na_KeptClock__rate ?na_KeptClock__low ?na_KeptClock__high ?a0 ?l0 ?c0 ?k0 ?a1 ?l1 ?c1 ?k1 ?a2 ?l2 ?c2 ?k2 ?a3 ?i3 ?l3 ?c3 ?k3 ?a4 ?i4 ?l4 ?c4 ?k4 ?a5 ?i5 ?l5 ?c5 ?k5 ?a6 ?i6 ?l6 ?c6 ?k6 ?a7 ?l7 ?c7 ?k7 ?a8 ?l8 ?c8 ?k8 ?a9 ?l9 ?c9 ?k9 ?a10 ?l10 ?c10 ?k10 ?a11 ?l11 ?c11 ?k11 ?a12 ?l12 ?c12 ?k12 ?a13 ?l13 ?c13 ?k13 ?z_max ?z_len ?z_sorted ?z_min ?z_isinstance ?z_bool ?z_range ?z_list ?z_int ?z_abs ?g_PARTS
    (case aC_KeptClock => k_is)
    (case pg_KeptClock => k_is)
    (case hd_KeptClock => k_is)
    (case po_KeptClock => k_is)
    (case sa_KeptClock => k_is)
    (case mk_KeptClock => k_is)
    (case kc_KeptClock => k_is)
    (case na_KeptClock__rate => k_is)
    (case na_KeptClock__low => k_is)
    (case na_KeptClock__high => k_is)
    (case a0 => k_is)
    (case l0 => k_is)
    (case c0 => k_is)
    (case k0 => k_is)
    (case a1 => k_is)
    (case l1 => k_is)
    (case c1 => k_is)
    (case k1 => k_is)
    (case a2 => k_is)
    (case l2 => k_is)
    (case c2 => k_is)
    (case k2 => k_is)
    (case a3 => k_is)
    (case i3 => k_is)
    (case l3 => k_is)
    (case c3 => k_is)
    (case k3 => k_is)
    (case a4 => k_is)
    (case i4 => k_is)
    (case l4 => k_is)
    (case c4 => k_is)
    (case k4 => k_is)
    (case a5 => k_is)
    (case i5 => k_is)
    (case l5 => k_is)
    (case c5 => k_is)
    (case k5 => k_is)
    (case a6 => k_is)
    (case i6 => k_is)
    (case l6 => k_is)
    (case c6 => k_is)
    (case k6 => k_is)
    (case a7 => k_is)
    (case l7 => k_is)
    (case c7 => k_is)
    (case k7 => k_is)
    (case a8 => k_is)
    (case l8 => k_is)
    (case c8 => k_is)
    (case k8 => k_is)
    (case a9 => k_is)
    (case l9 => k_is)
    (case c9 => k_is)
    (case k9 => k_is)
    (case a10 => k_is)
    (case l10 => k_is)
    (case c10 => k_is)
    (case k10 => k_is)
    (case a11 => k_is)
    (case l11 => k_is)
    (case c11 => k_is)
    (case k11 => k_is)
    (case a12 => k_is)
    (case l12 => k_is)
    (case c12 => k_is)
    (case k12 => k_is)
    (case a13 => k_is)
    (case l13 => k_is)
    (case c13 => k_is)
    (case k13 => k_is)
    (case z_max => k_is)
    (case z_len => k_is)
    (case z_sorted => k_is)
    (case z_min => k_is)
    (case z_isinstance => k_is)
    (case z_bool => k_is)
    (case z_range => k_is)
    (case z_list => k_is)
    (case z_int => k_is)
    (case z_abs => k_is)
    (case g_PARTS => k_is)
