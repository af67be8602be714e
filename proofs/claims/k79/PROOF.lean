import PyProof.Rows.All
import PySem.Str
import PySem.PyData
import Wide.All
import OpenK.AllK
import Wide.FinOn
import HandS.ForMost
import HandS.Wide
import HandS.Gcd
import HandS.IsInst
import HandS.TupAny
import HandS.TupLe
import HandS.Style
import HandS.Flow
import HandS.Deep
import KE.SortData
import HandS.SortInts
import KE.DataMinMax
import KE.KTupSum
import HandS.Steps
import HandS.More
import HandS.SetFor
import HandS.Strs
import HandS.SetKeys
import HandS.Conv
import PyProof.TupleOfSeq
import PySem.Challenge.RW_oddsweighed_k79_heaps_and_what_may_be_ta
set_option linter.all false
/-! DL0: plain data, a store of lists, and what a piece of a program asks of them (weakest preconditions by parts). No model in sight. -/
namespace DL
open PySem (Str)

/-- a value: tuples by value, a list of one's own by its place in the store, rol: a list that is only read -/
inductive D where
  | non | bl (b : Bool) | int (i : Int) | str (x : Str) | tup (xs : List D) | rol (xs : List D) | ref (n : Nat) | ty (n : String)

/-- a key of a dict: an int or a text -/
abbrev Ky := Int ⊕ Str
inductive O where
  | lst (xs : List D)
  | dK (kvs : List (Ky × D))
  | dT (kvs : List (List Ky × D))

abbrev Sto := List O
abbrev Env := List (Option D)
abbrev VK := D → Sto → Prop
abbrev WE := Env → Sto → VK → Prop
abbrev WT := Env → Sto → (Bool → Sto → Prop) → Prop
abbrev WA := Env → Sto → (List D → Sto → Prop) → Prop
abbrev WG := D → Env → Sto → (Env → Sto → Prop) → Prop
abbrev WI := Env → Sto → (List D → (Sto → Prop) → Sto → Prop) → Prop
abbrev WP := Env → Sto → (Option Int → Sto → Prop) → Prop
structure Ends where
  nx : Env → Sto → Prop
  rt : VK
  bk : Env → Sto → Prop
  ct : Env → Sto → Prop
abbrev WS := Ends → Env → Sto → Prop
abbrev R1 := D → Sto → VK → Prop
abbrev R2 := D → D → Sto → VK → Prop
abbrev RL := List D → Sto → VK → Prop
abbrev RM := D → List D → Sto → VK → Prop
abbrev Spc := List D → Sto → VK → Prop

def szL : Nat := 16777216

/-! ### equality, order of plain data -/
mutual
def eqD : D → D → Bool
  | .non, .non => true
  | .bl a, .bl b => a == b
  | .bl a, .int j => (if a then 1 else 0) == j
  | .int i, .bl b => i == (if b then 1 else 0)
  | .int i, .int j => decide (i = j)
  | .str x, .str y => decide (x = y)
  | .tup xs, .tup ys => eqDs xs ys
  | _, _ => false
def eqDs : List D → List D → Bool
  | [], [] => true
  | x :: xs, y :: ys => eqD x y && eqDs xs ys
  | [], _ :: _ => false
  | _ :: _, [] => false
end
/-! without lists -/
mutual
def flat : D → Bool
  | .non | .bl _ | .int _ => true
  | .str x => x.cps.all (· < 0x110000)
  | .tup xs => flats xs
  | .rol _ | .ref _ | .ty _ => false
def flats : List D → Bool
  | [] => true
  | x :: xs => flat x && flats xs
end
mutual
def deep : D → Nat
  | .tup xs => deeps xs + 1
  | _ => 0
def deeps : List D → Nat
  | [] => 0
  | x :: xs => max (deep x) (deeps xs)
end
mutual
def toPy : D → PySem.PyData
  | .non => .none
  | .bl b => .bool b
  | .int i => .int i
  | .str x => .str x
  | .tup xs => .tuple (toPys xs)
  | .rol _ => .none
  | .ref _ => .none
  | .ty _ => .none
def toPys : List D → List PySem.PyData
  | [] => []
  | x :: xs => toPy x :: toPys xs
end
/-- intD all through, as tuples of one length or single -/
abbrev intD (ns : List Int) : List D := ns.map D.int

/-! ### the environment -/
@[reducible] def lk : Env → Nat → Option D
  | [], _ => none
  | x :: _, 0 => x
  | _ :: r, n + 1 => lk r n
@[reducible] def up : Env → Nat → Option D → Env
  | [], _, _ => []
  | _ :: r, 0, d => d :: r
  | x :: r, n + 1, d => x :: up r n d
@[reducible] def wipe (ρ : Env) : List Nat → Env
  | [] => ρ
  | i :: r => up (wipe ρ r) i none
def start (n : Nat) (ds : List D) : Env := ds.map some ++ List.replicate (n - ds.length) none

/-! ### expressions -/
@[reducible] def wVar (i : Nat) : WE := fun ρ S Q => match lk ρ i with
  | some d => Q d S
  | none => False
@[reducible] def wC (d : D) : WE := fun _ S Q => Q d S
@[reducible] def wOp (r : R2) (a b : WE) : WE := fun ρ S Q => a ρ S fun x S1 => b ρ S1 fun y S2 => r x y S2 Q
@[reducible] def wUn (r : R1) (a : WE) : WE := fun ρ S Q => a ρ S fun x S1 => r x S1 Q
@[reducible] def wNil : WA := fun _ S Q => Q [] S
@[reducible] def wCons (a : WE) (r : WA) : WA := fun ρ S Q => a ρ S fun x S1 => r ρ S1 fun xs S2 => Q (x :: xs) S2
@[reducible] def wTup (a : WA) : WE := fun ρ S Q => a ρ S fun xs S1 => xs.length ≤ szL ∧ Q (.tup xs) S1
@[reducible] def wLst (a : WA) : WE := fun ρ S Q => a ρ S fun xs S1 => xs.length ≤ szL ∧ Q (.ref S1.length) (S1 ++ [.lst xs])
@[reducible] def wCall (n : Nat) (sp : Spc) (a : WA) : WE := fun ρ S Q => a ρ S fun ds S1 => ds.length = n ∧ sp ds S1 Q
@[reducible] def wB (r : RL) (a : WA) : WE := fun ρ S Q => a ρ S fun ds S1 => r ds S1 Q
/-- a list there -/
@[reducible] def isL : D → Sto → Prop
  | .ref n, S => ∃ xs, S[n]? = some (.lst xs)
  | _, _ => False
/-- o.m(..), o a list of one's own -/
@[reducible] def wM (r : RM) (o : WE) (a : WA) : WE := fun ρ S Q => o ρ S fun x S1 => isL x S1 ∧ a ρ S1 fun ds S2 => r x ds S2 Q
@[reducible] def wM0 (r : RM) (o : WE) : WE := fun ρ S Q => o ρ S fun x S1 => isL x S1 ∧ r x [] S1 Q
@[reducible] def wPNo : WP := fun _ S Q => Q none S
@[reducible] def wPAt (a : WE) : WP := fun ρ S Q => a ρ S fun x S1 => match x with
  | .int i => Q (some i) S1
  | _ => False
@[reducible] def wSl (r : D → Option Int → Option Int → Sto → VK → Prop) (o : WE) (l u : WP) : WE := fun ρ S Q => o ρ S fun x S1 => l ρ S1 fun i S2 => u ρ S2 fun j S3 => r x i j S3 Q
/-! tests -/
@[reducible] def wtVal (a : WE) : WT := fun ρ S Q => a ρ S fun x S1 => match x with
  | .bl b => Q b S1
  | _ => False
@[reducible] def wtAnd (a b : WT) : WT := fun ρ S Q => a ρ S fun c S1 => if c = true then b ρ S1 Q else Q false S1
@[reducible] def wtOr (a b : WT) : WT := fun ρ S Q => a ρ S fun c S1 => if c = true then Q true S1 else b ρ S1 Q
@[reducible] def wtNot (a : WT) : WT := fun ρ S Q => a ρ S fun c S1 => Q (!c) S1
@[reducible] def wAnd (a b : WE) : WE := fun ρ S Q => a ρ S fun x S1 => match x with
  | .bl c => if c = true then b ρ S1 Q else Q (.bl false) S1
  | _ => False
@[reducible] def wOr (a b : WE) : WE := fun ρ S Q => a ρ S fun x S1 => match x with
  | .bl c => if c = true then Q (.bl true) S1 else b ρ S1 Q
  | _ => False
@[reducible] def wNot (a : WE) : WE := fun ρ S Q => a ρ S fun x S1 => match x with
  | .bl c => Q (.bl (!c)) S1
  | _ => False
@[reducible] def wIf (c : WT) (a b : WE) : WE := fun ρ S Q => c ρ S fun k S1 => if k = true then a ρ S1 Q else b ρ S1 Q
@[reducible] def wChain (r r' : R2) (a b c : WE) : WE := fun ρ S Q => a ρ S fun x S1 => b ρ S1 fun y S2 => r x y S2 fun z S3 => match z with
  | .bl k => if k = true then c ρ S3 fun u S4 => r' y u S4 Q else Q (.bl false) S3
  | _ => False

/-! ### what is walked -/
@[reducible] def wIt (a : WE) : WI := fun ρ S R => a ρ S fun x S1 => match x with
  | .tup xs => R xs (fun _ => True) S1
  | .rol xs => R xs (fun _ => True) S1
  | .ref n => match S1[n]? with
    | some (.lst xs) => R xs (fun S' => S'[n]? = some (.lst xs)) S1
    | _ => False
  | _ => False
/-- lo, lo + 1, .. below hi -/
def rangeD (lo hi : Int) : List D := (List.range (hi - lo).toNat).map fun (i : Nat) => D.int (lo + i)
def smallI (i : Int) : Prop := -(2 ^ 62) ≤ i ∧ i < 2 ^ 62
@[reducible] def wR1 (a : WE) : WI := fun ρ S R => a ρ S fun x S1 => match x with
  | .int j => smallI j ∧ R (rangeD 0 j) (fun _ => True) S1
  | _ => False
@[reducible] def wR2 (a b : WE) : WI := fun ρ S R => a ρ S fun x S1 => b ρ S1 fun y S2 => match x, y with
  | .int i, .int j => smallI i ∧ smallI j ∧ R (rangeD i j) (fun _ => True) S2
  | _, _ => False

/-! ### targets: a name, a tuple of names -/
@[reducible] def gN (i : Nat) : WG := fun d ρ S Q => Q (up ρ i (some d)) S
@[reducible] def gNs : List Nat → List D → Env → Option Env
  | [], [], ρ => some ρ
  | i :: r, d :: ds, ρ => gNs r ds (up ρ i (some d))
  | _, _, _ => none
@[reducible] def gT (is : List Nat) : WG := fun d ρ S Q => match d with
  | .tup ds => match gNs is ds ρ with
    | some ρ' => Q ρ' S
    | none => False
  | _ => False

/-! ### comprehensions: one clause, at most one test -/
@[reducible] def wtYes : WT := fun _ S Q => Q true S
/-- I: by the turn, what is made so far, the store; a step tells what it adds -/
def Lc (items : List D) (guard : Sto → Prop) (S1 : Sto) (step : D → Sto → (Option D → Sto → Prop) → Prop) (Q : VK) : Prop := items.length ≤ szL ∧ ∃ I : Nat → List D → Sto → Prop,
  I 0 [] S1 ∧ (∀ i acc S', I i acc S' → guard S') ∧
  (∀ i d acc S', items[i]? = some d → I i acc S' → step d S' fun o S2 => I (i + 1) (acc ++ o.toList) S2) ∧
  ∀ acc S', I items.length acc S' → Q (.ref S'.length) (S' ++ [.lst acc])
@[reducible] def wLc (wi : WI) (g : WG) (tt : WT) (te : WE) (vs : List Nat) : WE := fun ρ S Q => wi ρ S fun items guard S1 =>
  Lc items guard S1 (fun d S' R => g d (wipe ρ vs) S' fun ρ2 S2 => tt ρ2 S2 fun b S3 => if b = true then te ρ2 S3 fun y S4 => R (some y) S4 else R none S3) Q

/-! ### statements -/
@[reducible] def sNext : WS := fun E ρ S => E.nx ρ S
@[reducible] def sSeq (a b : WS) : WS := fun E ρ S => a { E with nx := b E } ρ S
@[reducible] def sBreak : WS := fun E ρ S => E.bk ρ S
@[reducible] def sCont : WS := fun E ρ S => E.ct ρ S
@[reducible] def sDrop (a : WE) : WS := fun E ρ S => a ρ S fun _ S1 => E.nx ρ S1
@[reducible] def sRet (a : WE) : WS := fun E ρ S => a ρ S E.rt
@[reducible] def sRetN : WS := fun E _ S => E.rt .non S
@[reducible] def sIf (c : WT) (a b : WS) : WS := fun E ρ S => c ρ S fun k S1 => if k = true then a E ρ S1 else b E ρ S1
@[reducible] def sNever : WS := fun _ _ _ => False
@[reducible] def sAsg (a : WE) (g : WG) : WS := fun E ρ S => a ρ S fun d S1 => g d ρ S1 E.nx
/-- a, b = x, y by names -/
@[reducible] def sPar (i j : Nat) (a b : WE) : WS := fun E ρ S => a ρ S fun x S1 => b ρ S1 fun y S2 => E.nx (up (up ρ i (some x)) j (some y)) S2
@[reducible] def sAug (i : Nat) (a : WE) (r : R2) : WS := fun E ρ S => match lk ρ i with
  | some x => a ρ S fun y S1 => r x y S1 fun z S2 => E.nx (up ρ i (some z)) S2
  | none => False
/-- o[i] = e -/
@[reducible] def sSub (r : D → D → D → Sto → (Sto → Prop) → Prop) (e o i : WE) : WS := fun E ρ S => e ρ S fun d S1 => o ρ S1 fun x S2 => i ρ S2 fun k S3 => r x k d S3 fun S4 => E.nx ρ S4
/-- o[i] op= e -/
@[reducible] def sAugSub (rg : R2) (rop : R2) (rs : D → D → D → Sto → (Sto → Prop) → Prop) (o i e : WE) : WS := fun E ρ S => o ρ S fun x S1 => i ρ S1 fun k S2 => rg x k S2 fun v S3 => e ρ S3 fun y S4 => rop v y S4 fun z S5 => rs x k z S5 fun S6 => E.nx ρ S6
/-- for: I by the turn -/
def Loop (items : List D) (guard : Sto → Prop) (step : D → Env → Sto → (Env → Sto → Prop) → Prop) (done : Env → Sto → Prop) (ρ : Env) (S : Sto) : Prop := ∃ I : Nat → Env → Sto → Prop,
  I 0 ρ S ∧ (∀ i ρ' S', I i ρ' S' → guard S') ∧ (∀ i d ρ' S', items[i]? = some d → I i ρ' S' → step d ρ' S' (I (i + 1))) ∧ ∀ ρ' S', I items.length ρ' S' → done ρ' S'
@[reducible] def sFor (wi : WI) (g : WG) (b : WS) : WS := fun E ρ S => wi ρ S fun items guard S1 =>
  Loop items guard (fun d ρ' S' N => g d ρ' S' fun ρ2 S2 => b { nx := N, rt := E.rt, bk := E.nx, ct := N } ρ2 S2) E.nx ρ S1
/-- while: I by a measure -/
@[reducible] def sWhile (c : WT) (b : WS) : WS := fun E ρ S => ∃ I : Nat → Env → Sto → Prop, (∃ m, I m ρ S) ∧
  ∀ m ρ' S', I m ρ' S' → c ρ' S' fun k S2 => if k = true then b { nx := fun ρ3 S3 => ∃ m', m' < m ∧ I m' ρ3 S3, rt := E.rt, bk := E.nx, ct := fun ρ3 S3 => ∃ m', m' < m ∧ I m' ρ3 S3 } ρ' S2 else E.nx ρ' S2
/-- a def's body keeps what is asked of it -/
def Body (n k : Nat) (w : WS) (sp : Spc) : Prop := ∀ ds S Q, ds.length = k → sp ds S Q → w { nx := fun _ S' => Q .non S', rt := Q, bk := fun _ _ => False, ct := fun _ _ => False } (start n ds) S

/-! ### operations by values -/
def MulOk (i j : Int) : Prop := (i.natAbs < 2 ^ 64 ∨ j.natAbs < 2 ^ 64) ∨ ∃ a b : Nat, i.natAbs < 2 ^ a ∧ j.natAbs < 2 ^ b ∧ a + b ≤ 1000000
def DivOk (j : Int) : Prop := j ≠ 0 ∧ j.natAbs < 2 ^ 9000
def PowOk (i j : Int) : Prop := 0 ≤ j ∧ j ≤ 1000000 ∧ i.natAbs < 2 ^ 64
def isLst (S : Sto) (n : Nat) (P : List D → Prop) : Prop := match S[n]? with
  | some (.lst xs) => P xs
  | _ => False
@[reducible] def rAdd : R2
  | .int i, .int j, S, Q => Q (.int (i + j)) S
  | .tup xs, .tup ys, S, Q => xs.length + ys.length ≤ szL ∧ Q (.tup (xs ++ ys)) S
  | .str x, .str y, S, Q => x.length + y.length ≤ szL ∧ Q (.str (x ++ y)) S
  | .ref m, .ref n, S, Q => isLst S m fun xs => isLst S n fun ys => xs.length + ys.length ≤ szL ∧ Q (.ref S.length) (S ++ [.lst (xs ++ ys)])
  | _, _, _, _ => False
@[reducible] def rSub : R2
  | .int i, .int j, S, Q => Q (.int (i - j)) S
  | _, _, _, _ => False
@[reducible] def rMul : R2
  | .int i, .int j, S, Q => MulOk i j ∧ Q (.int (i * j)) S
  | .ref m, .int k, S, Q => isLst S m fun xs => (-(2 ^ 63) ≤ k ∧ k < 2 ^ 63) ∧ xs.length * k.toNat ≤ szL ∧ Q (.ref S.length) (S ++ [.lst (List.replicate k.toNat xs).flatten])
  | _, _, _, _ => False
@[reducible] def rMul' : R2
  | .int i, .int j, S, Q => MulOk i j ∧ Q (.int (i * j)) S
  | _, _, _, _ => False
@[reducible] def rDiv : R2
  | .int i, .int j, S, Q => DivOk j ∧ Q (.int (i.fdiv j)) S
  | _, _, _, _ => False
@[reducible] def rMod : R2
  | .int i, .int j, S, Q => j ≠ 0 ∧ Q (.int (i.fmod j)) S
  | _, _, _, _ => False
@[reducible] def rPow : R2
  | .int i, .int j, S, Q => PowOk i j ∧ Q (.int (i ^ j.toNat)) S
  | _, _, _, _ => False
@[reducible] def rNeg : R1
  | .int i, S, Q => Q (.int (-i)) S
  | _, _, _ => False
@[reducible] def rCmp (f : Int → Int → Bool) : R2
  | .int i, .int j, S, Q => Q (.bl (f i j)) S
  | _, _, _, _ => False
abbrev rLt : R2 := rCmp fun i j => decide (i < j)
abbrev rLe : R2 := rCmp fun i j => decide (i ≤ j)
abbrev rGt : R2 := rCmp fun i j => decide (j < i)
abbrev rGe : R2 := rCmp fun i j => decide (j ≤ i)
@[reducible] def rEq : R2 := fun x y S Q => (flat x = true ∧ flat y = true ∧ deep x ≤ 64 ∧ deep y ≤ 64) ∧ Q (.bl (eqD x y)) S
@[reducible] def rNe : R2 := fun x y S Q => (flat x = true ∧ flat y = true ∧ deep x ≤ 64 ∧ deep y ≤ 64) ∧ Q (.bl (!eqD x y)) S
def isNon : D → Bool
  | .non => true
  | _ => false
@[reducible] def rIs : R2
  | x, .non, S, Q => Q (.bl (isNon x)) S
  | .bl a, .bl b, S, Q => Q (.bl (decide (a = b))) S
  | _, _, _, _ => False
@[reducible] def rIsNot : R2
  | x, .non, S, Q => Q (.bl (!isNon x)) S
  | .bl a, .bl b, S, Q => Q (.bl (!decide (a = b))) S
  | _, _, _, _ => False
/-- place i, from the end if negative -/
def ixZ (n : Nat) (i : Int) : Option Nat := if 0 ≤ i then (if i < n then some i.toNat else none) else if -(n : Int) ≤ i then some (i + n).toNat else none
def atZ {α : Type} (xs : List α) (i : Int) : Option α := (ixZ xs.length i).bind fun j => xs[j]?
@[reducible] def rIx : R2
  | .tup xs, .int i, S, Q => ∃ d, atZ xs i = some d ∧ Q d S
  | .rol xs, .int i, S, Q => ∃ d, atZ xs i = some d ∧ Q d S
  | .ref n, .int i, S, Q => isLst S n fun xs => ∃ d, atZ xs i = some d ∧ Q d S
  | .str z, .int i, S, Q => z.length ≤ szL ∧ ∃ c, atZ z.cps.toList i = some c ∧ Q (.str ⟨#[c]⟩) S
  | _, _, _, _ => False
def sIx (n d : Nat) : Option Int → Nat
  | none => d
  | some i => if i < 0 then (i + n).toNat else min i.toNat n
def cut {α : Type} (xs : List α) (lo hi : Option Int) : List α := (xs.drop (sIx xs.length 0 lo)).take (sIx xs.length xs.length hi - sIx xs.length 0 lo)
@[reducible] def rSl : D → Option Int → Option Int → Sto → VK → Prop
  | .tup xs, lo, hi, S, Q => Q (.tup (cut xs lo hi)) S
  | .ref n, lo, hi, S, Q => isLst S n fun xs => Q (.ref S.length) (S ++ [.lst (cut xs lo hi)])
  | _, _, _, _, _ => False
@[reducible] def rRev : R1
  | .tup xs, S, Q => Q (.tup xs.reverse) S
  | .ref n, S, Q => isLst S n fun xs => Q (.ref S.length) (S ++ [.lst xs.reverse])
  | _, _, _ => False
/-- plain things, for in -/
def flat0 : D → Bool
  | .non | .bl _ | .int _ | .str _ => true
  | _ => false
@[reducible] def rIn (neg : Bool) : R2
  | x, .tup ys, S, Q => (flat0 x = true ∧ ys.all flat0 = true) ∧ Q (.bl (if neg then !ys.any fun y => eqD y x else ys.any fun y => eqD y x)) S
  | x, .ref n, S, Q => isLst S n fun ys => (flat x = true ∧ flats ys = true ∧ deep x ≤ 63 ∧ deeps ys ≤ 63) ∧ Q (.bl (if neg then !ys.any fun y => eqD y x else ys.any fun y => eqD y x)) S
  | _, _, _, _ => False
/-! built-ins -/
@[reducible] def rLen : RL
  | [.tup xs], S, Q => Q (.int xs.length) S
  | [.rol xs], S, Q => Q (.int xs.length) S
  | [.str z], S, Q => z.length ≤ szL ∧ Q (.int z.length) S
  | [.ref n], S, Q => isLst S n fun xs => Q (.int xs.length) S
  | _, _, _ => False
@[reducible] def rAbs : RL
  | [.int i], S, Q => Q (.int i.natAbs) S
  | _, _, _ => False
@[reducible] def rInt : RL
  | [.int i], S, Q => Q (.int i) S
  | [.bl b], S, Q => Q (.int (if b = true then 1 else 0)) S
  | _, _, _ => False
@[reducible] def rMax2 : RL
  | [.int i, .int j], S, Q => Q (.int (max i j)) S
  | _, _, _ => False
@[reducible] def rMin2 : RL
  | [.int i, .int j], S, Q => Q (.int (min i j)) S
  | _, _, _ => False
@[reducible] def rList : RL
  | [.tup xs], S, Q => Q (.ref S.length) (S ++ [.lst xs])
  | [.rol xs], S, Q => Q (.ref S.length) (S ++ [.lst xs])
  | [.ref n], S, Q => isLst S n fun xs => Q (.ref S.length) (S ++ [.lst xs])
  | _, _, _ => False
@[reducible] def rTuple : RL
  | [.tup xs], S, Q => Q (.tup xs) S
  | [.rol xs], S, Q => Q (.tup xs) S
  | [.ref n], S, Q => isLst S n fun xs => Q (.tup xs) S
  | _, _, _ => False
/-- intD all through -/
def intsOf : List D → Option (List Int)
  | [] => some []
  | .int i :: r => (intsOf r).map (i :: ·)
  | _ => none
def bsOf : List D → Option (List Bool)
  | [] => some []
  | .bl i :: r => (bsOf r).map (i :: ·)
  | _ => none
/-- the list behind a list of one's own or a tuple -/
def itemsAt : D → Sto → Option (List D)
  | .tup xs, _ => some xs
  | .ref n, S => match S[n]? with
    | some (.lst xs) => some xs
    | _ => none
  | _, _ => none
@[reducible] def withInts (d : D) (S : Sto) (P : List Int → Prop) : Prop := ∃ ns, itemsAt d S = some (intD ns) ∧ P ns
@[reducible] def rSum : RL
  | [d], S, Q => withInts d S fun ns => Q (.int ns.sum) S
  | _, _, _ => False
@[reducible] def rMax : RL
  | [d], S, Q => withInts d S fun ns => 0 < ns.length ∧ ∀ m, m ∈ ns → (∀ y, y ∈ ns → y ≤ m) → Q (.int m) S
  | _, _, _ => False
@[reducible] def rMin : RL
  | [d], S, Q => withInts d S fun ns => 0 < ns.length ∧ ∀ m, m ∈ ns → (∀ y, y ∈ ns → m ≤ y) → Q (.int m) S
  | _, _, _ => False
@[reducible] def rAll : RL
  | [.ref n], S, Q => ∃ bs : List Bool, S[n]? = some (.lst (bs.map .bl)) ∧ Q (.bl (bs.all id)) S
  | _, _, _ => False
@[reducible] def rAny : RL
  | [.ref n], S, Q => ∃ bs : List Bool, S[n]? = some (.lst (bs.map .bl)) ∧ Q (.bl (bs.any id)) S
  | _, _, _ => False
@[reducible] def rGcd : RL
  | [.int a, .int b], S, Q => Q (.int (Nat.gcd a.natAbs b.natAbs : Nat)) S
  | _, _, _ => False
/-- isinstance(x, T): T one of bool, int, str, tuple, list -/
def isT : D → String → Option Bool
  | .non, t => if t ∈ ["bool", "int", "str", "tuple", "list"] then some false else none
  | .bl _, t => if t ∈ ["bool", "int"] then some true else if t ∈ ["str", "tuple", "list"] then some false else none
  | .int _, t => if t = "int" then some true else if t ∈ ["bool", "str", "tuple", "list"] then some false else none
  | .str _, t => if t = "str" then some true else if t ∈ ["bool", "int", "tuple", "list"] then some false else none
  | .tup _, t => if t = "tuple" then some true else if t ∈ ["bool", "int", "str", "list"] then some false else none
  | _, _ => none
@[reducible] def rIsi : RL
  | [d, .ty t], S, Q => ∃ b, isT d t = some b ∧ Q (.bl b) S
  | _, _, _ => False
/-! sorting -/
mutual
def ltD : D → D → Bool
  | .int i, .int j => decide (i < j)
  | .str x, .str y => decide (x.cps.toList < y.cps.toList)
  | .tup xs, .tup ys => ltDs xs ys
  | _, _ => false
def ltDs : List D → List D → Bool
  | [], [] => false
  | [], _ :: _ => true
  | _ :: _, [] => false
  | x :: xs, y :: ys => if eqD x y = true then ltDs xs ys else ltD x y
end
mutual
def akin : D → D → Bool
  | .int _, .int _ => true
  | .str _, .str _ => true
  | .tup xs, .tup ys => akins xs ys
  | _, _ => false
def akins : List D → List D → Bool
  | x :: xs, y :: ys => akin x y && akins xs ys
  | _, _ => true
end
/-- all ints, all texts, or all tuples with an item -/
def sortOk (xs : List D) : Prop := flats xs = true ∧ deeps xs ≤ 60 ∧ (∀ a ∈ xs, ∀ b ∈ xs, akin a b = true) ∧ ((∀ a ∈ xs, ∃ x r, a = .tup (x :: r)) ∨ ∀ a ∈ xs, a ≠ .non ∧ ∀ ys, a ≠ .tup ys)
@[reducible] def rSorted : RL
  | [.ref n], S, Q => isLst S n fun xs => sortOk xs ∧ ∀ ys, ys.Perm xs → ys.Pairwise (fun a b => ltD b a = false) → Q (.ref S.length) (S ++ [.lst ys])
  | _, _, _ => False
/-- sorted(set(a)) of ints -/
@[reducible] def wSortedSet (a : WE) : WE := fun ρ S Q => a ρ S fun d S1 => withInts d S1 fun ns => ns.length < 60 ∧ ∀ ms : List Int, ms.Pairwise (· < ·) → (∀ k, k ∈ ms ↔ k ∈ ns) → Q (.ref S1.length) (S1 ++ [.lst (intD ms)])
/-! methods of lists -/
@[reducible] def rAppend : RM
  | .ref n, [d], S, Q => isLst S n fun xs => xs.length < szL ∧ Q .non (S.set n (.lst (xs ++ [d])))
  | _, _, _, _ => False
@[reducible] def rPop : RM
  | .ref n, [], S, Q => isLst S n fun xs => ∃ d, xs[xs.length - 1]? = some d ∧ Q d (S.set n (.lst xs.dropLast))
  | _, _, _, _ => False
@[reducible] def rPopAt : RM
  | .ref n, [.int i], S, Q => isLst S n fun xs => (-(2 ^ 63) ≤ i ∧ i < 2 ^ 63) ∧ ∃ j d, ixZ xs.length i = some j ∧ xs[j]? = some d ∧ Q d (S.set n (.lst (xs.eraseIdx j)))
  | _, _, _, _ => False
@[reducible] def rReverse : RM
  | .ref n, [], S, Q => isLst S n fun xs => Q .non (S.set n (.lst xs.reverse))
  | _, _, _, _ => False
@[reducible] def rInsert : RM
  | .ref n, [.int i, d], S, Q => isLst S n fun xs => xs.length < szL ∧ (0 ≤ i ∧ i < 2 ^ 63) ∧ Q .non (S.set n (.lst (xs.take i.toNat ++ [d] ++ xs.drop i.toNat)))
  | _, _, _, _ => False
/-- o[i] = d -/
@[reducible] def rPut : D → D → D → Sto → (Sto → Prop) → Prop
  | .ref n, .int i, d, S, Q => isLst S n fun xs => ∃ j, ixZ xs.length i = some j ∧ Q (S.set n (.lst (xs.set j d)))
  | _, _, _, _, _ => False
end DL
set_option Elab.async false
set_option linter.all false
set_option maxRecDepth 100000
set_option maxHeartbeats 4000000
/-! DL1: the parts of DL0 hold of the model, rule by rule. -/
namespace DL
open PySem PySem.Spec
open L2 (V Hp HO St TE TT TA TS TG TI TO PE PT PW PA PS PSs PG PI PO Cx Inv RelV Vals SqL SqT Rd upd upd_same upd_ne ne_of ne_of_none OpR UnR CallR MtR IxR SlR It thn)

/-! ### how plain data lies in the heap -/
/-- a list that is only read -/
def RoL (K : PySem.W.Frag) (H : Hp) (a : Addr) (vs : List V) : Prop := (∃ o, H a = some (.frz o (.lst vs))) ∨
    ∃ (o : Obj) (its : Array Value) (n : Nat), K.lookup a = some o ∧ o.cls = .type "list" ∧ o.dict = none ∧ o.data = .seq its n ∧ its.size ≤ sizeLine ∧ Vals vs its.toList
theorem RoL.seq {K : PySem.W.Frag} {H : Hp} {a : Addr} {vs : List V} (h : RoL K H a vs) : SqL K H a vs := by
  rcases h with h | h
  · exact .inl (.inr h)
  · exact .inr h
/-- whether tuples of the module's own (constants) may be about -/
def cst : Bool := false
/-- a tuple that we made, or a constant one -/
def SqK (K : PySem.W.Frag) (H : Hp) (a : Addr) (vs : List V) : Prop := H a = some (.tup vs) ∨ (cst = true ∧ SqT K H a vs)
theorem SqK.sqT {K : PySem.W.Frag} {H : Hp} {a : Addr} {vs : List V} (h : SqK K H a vs) : SqT K H a vs := by
  rcases h with h | h
  · exact L2.SqT.of h
  · exact h.2
/-- what may change -/
def mutO : HO → Bool
  | .lst _ | .dK _ | .dT _ => true
  | _ => false
mutual
def Rep (K : PySem.W.Frag) (H : Hp) (m : List Addr) : D → V → Prop
  | .non, v => v = .non
  | .bl b, v => v = .bl b
  | .int i, v => v = .int i
  | .str x, v => v = .str x
  | .ty n, v => v = .ty n
  | .ref n, v => ∃ a, m[n]? = some a ∧ v = .ref a
  | .tup ds, v => ∃ a vs, v = .ref a ∧ SqK K H a vs ∧ Reps K H m ds vs
  | .rol ds, v => ∃ a vs, v = .ref a ∧ RoL K H a vs ∧ Reps K H m ds vs
def Reps (K : PySem.W.Frag) (H : Hp) (m : List Addr) : List D → List V → Prop
  | [], vs => vs = []
  | d :: ds, vs => ∃ v r, vs = v :: r ∧ Rep K H m d v ∧ Reps K H m ds r
end
/-- from one heap to a later one: what is not ours stands, what is ours may have grown -/
structure Ext (m : List Addr) (H : Hp) (m' : List Addr) (H' : Hp) : Prop where
  pre : ∀ (n : Nat) (a : Addr), m[n]? = some a → m'[n]? = some a
  keep : ∀ (b : Addr) (o : HO), H b = some o → b ∉ m → H' b = some o
  new : ∀ b : Addr, b ∈ m' → b ∈ m ∨ H b = none
  lst : ∀ (b : Addr) (o : HO), H b = some o → mutO o = false → H' b = some o
theorem Ext.refl (m : List Addr) (H : Hp) : Ext m H m H := ⟨fun _ _ h => h, fun _ _ h _ => h, fun _ h => .inl h, fun _ _ h _ => h⟩
theorem Ext.trans {m m1 m2 : List Addr} {H H1 H2 : Hp} (a : Ext m H m1 H1) (b : Ext m1 H1 m2 H2) : Ext m H m2 H2 where
  pre := fun n x h => b.pre n x (a.pre n x h)
  keep := fun c o h hn => b.keep c o (a.keep c o h hn) fun z => by
    rcases a.new c z with z | z
    · exact hn z
    · rw [z] at h; cases h
  new := fun c h => by
    rcases b.new c h with z | z
    · exact a.new c z
    · by_cases hc : c ∈ m
      · exact .inl hc
      · refine .inr ?_
        cases e : H c with
        | none => rfl
        | some o => rw [a.keep c o e hc] at z; cases z
  lst := fun c o h hn => b.lst c o (a.lst c o h hn) hn
theorem Ext.sqT {m m' : List Addr} {H H' : Hp} (e : Ext m H m' H') {K : PySem.W.Frag} {a : Addr} {vs : List V} (h : SqT K H a vs) : SqT K H' a vs := by
  rcases h with (h | ⟨o, h⟩) | h
  · exact .inl (.inl (e.lst _ _ h rfl))
  · exact .inl (.inr ⟨o, e.lst _ _ h rfl⟩)
  · exact .inr h
theorem Ext.sqK {m m' : List Addr} {H H' : Hp} (e : Ext m H m' H') {K : PySem.W.Frag} {a : Addr} {vs : List V} (h : SqK K H a vs) : SqK K H' a vs := by
  rcases h with h | ⟨h1, h2⟩
  · exact .inl (e.lst _ _ h rfl)
  · exact .inr ⟨h1, e.sqT h2⟩
theorem Ext.ro {m m' : List Addr} {H H' : Hp} (e : Ext m H m' H') {K : PySem.W.Frag} {a : Addr} {vs : List V} (h : RoL K H a vs) : RoL K H' a vs := by
  rcases h with ⟨o, h⟩ | h
  · exact .inl ⟨o, e.lst _ _ h rfl⟩
  · exact .inr h
section
variable {K : PySem.W.Frag} {m m' m1 : List Addr} {H H' H1 : Hp} {S S' : Sto}
mutual
theorem Rep.ext (e : Ext m H m' H') : ∀ (d : D) (v : V), Rep K H m d v → Rep K H' m' d v
  | .non, _, h => h
  | .bl _, _, h => h
  | .int _, _, h => h
  | .str _, _, h => h
  | .ty _, _, h => h
  | .ref _, _, ⟨a, h1, h2⟩ => ⟨a, e.pre _ _ h1, h2⟩
  | .tup ds, _, ⟨a, vs, h1, h2, h3⟩ => ⟨a, vs, h1, e.sqK h2, Reps.ext e ds vs h3⟩
  | .rol ds, _, ⟨a, vs, h1, h2, h3⟩ => ⟨a, vs, h1, e.ro h2, Reps.ext e ds vs h3⟩
theorem Reps.ext (e : Ext m H m' H') : ∀ (ds : List D) (vs : List V), Reps K H m ds vs → Reps K H' m' ds vs
  | [], _, h => h
  | d :: ds, _, ⟨v, r, h1, h2, h3⟩ => ⟨v, r, h1, Rep.ext e d v h2, Reps.ext e ds r h3⟩
end
theorem Reps.len : ∀ {ds : List D} {vs : List V}, Reps K H m ds vs → vs.length = ds.length
  | [], _, h => by rw [show _ = ([] : List V) from h]; rfl
  | d :: ds, _, ⟨v, r, h1, h2, h3⟩ => by rw [h1, List.length_cons, List.length_cons, Reps.len h3]
theorem Reps.get : ∀ {ds : List D} {vs : List V}, Reps K H m ds vs → ∀ (i : Nat) (d : D), ds[i]? = some d → ∃ v, vs[i]? = some v ∧ Rep K H m d v
  | [], _, h, i, d, e => by simp at e
  | d :: ds, _, ⟨v, r, h1, h2, h3⟩, 0, d', e => by
    simp at e
    subst e
    exact ⟨v, by rw [h1]; rfl, h2⟩
  | d :: ds, _, ⟨v, r, h1, h2, h3⟩, i + 1, d', e => by
    obtain ⟨w, e1, e2⟩ := Reps.get h3 i d' (by simpa using e)
    exact ⟨w, by rw [h1]; simpa using e1, e2⟩
theorem Reps.get' : ∀ {ds : List D} {vs : List V}, Reps K H m ds vs → ∀ (i : Nat) (v : V), vs[i]? = some v → ∃ d, ds[i]? = some d ∧ Rep K H m d v
  | [], _, h, i, d, e => by
    rw [show _ = ([] : List V) from h] at e
    simp at e
  | d :: ds, _, ⟨v, r, h1, h2, h3⟩, 0, d', e => by
    rw [h1] at e
    simp at e
    subst e
    exact ⟨d, rfl, h2⟩
  | d :: ds, _, ⟨v, r, h1, h2, h3⟩, i + 1, d', e => by
    rw [h1] at e
    obtain ⟨w, e1, e2⟩ := Reps.get' h3 i d' (by simpa using e)
    exact ⟨w, by simpa using e1, e2⟩
theorem Reps.app : ∀ {ds es : List D} {vs us : List V}, Reps K H m ds vs → Reps K H m es us → Reps K H m (ds ++ es) (vs ++ us)
  | [], _, _, _, h, q => by rw [show _ = ([] : List V) from h]; exact q
  | d :: ds, _, _, _, ⟨v, r, h1, h2, h3⟩, q => ⟨v, r ++ _, by rw [h1]; rfl, h2, Reps.app h3 q⟩
theorem Reps.one {d : D} {v : V} (h : Rep K H m d v) : Reps K H m [d] [v] := ⟨v, [], rfl, h, rfl⟩
theorem Reps.drop : ∀ {ds : List D} {vs : List V} (n : Nat), Reps K H m ds vs → Reps K H m (ds.drop n) (vs.drop n)
  | _, _, 0, h => h
  | [], _, n + 1, h => by rw [show _ = ([] : List V) from h]; rfl
  | d :: ds, _, n + 1, ⟨v, r, h1, h2, h3⟩ => by rw [h1]; exact Reps.drop n h3
theorem Reps.take : ∀ {ds : List D} {vs : List V} (n : Nat), Reps K H m ds vs → Reps K H m (ds.take n) (vs.take n)
  | _, _, 0, h => rfl
  | [], _, n + 1, h => by rw [show _ = ([] : List V) from h]; rfl
  | d :: ds, _, n + 1, ⟨v, r, h1, h2, h3⟩ => by rw [h1]; exact ⟨v, _, rfl, h2, Reps.take n h3⟩
theorem Reps.rev : ∀ {ds : List D} {vs : List V}, Reps K H m ds vs → Reps K H m ds.reverse vs.reverse
  | [], _, h => by rw [show _ = ([] : List V) from h]; rfl
  | d :: ds, _, ⟨v, r, h1, h2, h3⟩ => by
    rw [h1, List.reverse_cons, List.reverse_cons]
    exact Reps.app (Reps.rev h3) (Reps.one h2)
theorem Reps.set : ∀ {ds : List D} {vs : List V} {d : D} {v : V} (i : Nat), Reps K H m ds vs → Rep K H m d v → Reps K H m (ds.set i d) (vs.set i v)
  | [], _, _, _, i, h, q => by rw [show _ = ([] : List V) from h]; rfl
  | d :: ds, _, _, _, 0, ⟨v, r, h1, h2, h3⟩, q => by rw [h1]; exact ⟨_, _, rfl, q, h3⟩
  | d :: ds, _, _, _, i + 1, ⟨v, r, h1, h2, h3⟩, q => by rw [h1]; exact ⟨_, _, rfl, h2, Reps.set i h3 q⟩
theorem Reps.erase : ∀ {ds : List D} {vs : List V} (i : Nat), Reps K H m ds vs → Reps K H m (ds.eraseIdx i) (vs.eraseIdx i)
  | [], _, i, h => by rw [show _ = ([] : List V) from h]; cases i <;> rfl
  | d :: ds, _, 0, ⟨v, r, h1, h2, h3⟩ => by rw [h1]; exact h3
  | d :: ds, _, i + 1, ⟨v, r, h1, h2, h3⟩ => by rw [h1]; exact ⟨_, _, rfl, h2, Reps.erase i h3⟩
theorem Reps.dropLast {ds : List D} {vs : List V} (h : Reps K H m ds vs) : Reps K H m ds.dropLast vs.dropLast := by
  rw [List.dropLast_eq_take, List.dropLast_eq_take, h.len]
  exact h.take _
theorem Reps.rep {ds : List D} {vs : List V} (h : Reps K H m ds vs) : ∀ k : Nat, Reps K H m (List.replicate k ds).flatten (List.replicate k vs).flatten
  | 0 => rfl
  | k + 1 => by
    rw [List.replicate_succ, List.replicate_succ, List.flatten_cons, List.flatten_cons]
    exact Reps.app h (Reps.rep h k)
theorem Reps.ints : ∀ {ns : List Int} {vs : List V}, Reps K H m (intD ns) vs → vs = ns.map V.int
  | [], _, h => h
  | n :: ns, _, ⟨v, r, h1, h2, h3⟩ => by rw [h1, show v = V.int n from h2, Reps.ints h3]; rfl
theorem Reps.bls : ∀ {ns : List Bool} {vs : List V}, Reps K H m (ns.map D.bl) vs → vs = ns.map V.bl
  | [], _, h => h
  | n :: ns, _, ⟨v, r, h1, h2, h3⟩ => by rw [h1, show v = V.bl n from h2, Reps.bls h3]; rfl
theorem Reps.of_ints : ∀ {ns : List Int}, Reps K H m (DL.intD ns) (ns.map V.int)
  | [] => rfl
  | n :: ns => ⟨_, _, rfl, rfl, Reps.of_ints⟩

/-- one object of the store -/
def RepO (K : PySem.W.Frag) (H : Hp) (m : List Addr) : O → Addr → Prop
  | .lst ds, a => ∃ vs, H a = some (.lst vs) ∧ Reps K H m ds vs
  | .dK kvs, a => ∃ ks : List (L2.Key × V), H a = some (.dK ks) ∧ ks.map (·.1) = kvs.map (·.1) ∧ Reps K H m (kvs.map (·.2)) (ks.map (·.2))
  | .dT kvs, a => ∃ ks : List (List L2.Key × V), H a = some (.dT ks) ∧ ks.map (·.1) = kvs.map (·.1) ∧ Reps K H m (kvs.map (·.2)) (ks.map (·.2))
structure RepS (K : PySem.W.Frag) (H : Hp) (m : List Addr) (S : Sto) : Prop where
  len : m.length = S.length
  nd : ∀ (i j : Nat) (a : Addr), m[i]? = some a → m[j]? = some a → i = j
  obj : ∀ (n : Nat) (o : O), S[n]? = some o → ∃ a, m[n]? = some a ∧ RepO K H m o a
theorem RepS.lst (h : RepS K H m S) {n : Nat} {ds : List D} (e : S[n]? = some (.lst ds)) : ∃ a vs, m[n]? = some a ∧ H a = some (.lst vs) ∧ Reps K H m ds vs := by
  obtain ⟨a, h1, vs, h2, h3⟩ := h.obj n _ e
  exact ⟨a, vs, h1, h2, h3⟩
theorem RepO.ext {o : O} {a : Addr} (e : Ext m H m' H') (r : RepO K H m o a) (hk : H' a = H a) : RepO K H' m' o a := by
  cases o with
  | lst ds => obtain ⟨vs, h1, h2⟩ := r; exact ⟨vs, hk.trans h1, Reps.ext e _ _ h2⟩
  | dK ds => obtain ⟨vs, h1, h2, h3⟩ := r; exact ⟨vs, hk.trans h1, h2, Reps.ext e _ _ h3⟩
  | dT ds => obtain ⟨vs, h1, h2, h3⟩ := r; exact ⟨vs, hk.trans h1, h2, Reps.ext e _ _ h3⟩
theorem RepO.ex {o : O} {a : Addr} (r : RepO K H m o a) : ∃ u, H a = some u ∧ mutO u = true := by
  cases o with
  | lst ds => obtain ⟨vs, h1, h2⟩ := r; exact ⟨_, h1, rfl⟩
  | dK ds => obtain ⟨vs, h1, h2, h3⟩ := r; exact ⟨_, h1, rfl⟩
  | dT ds => obtain ⟨vs, h1, h2, h3⟩ := r; exact ⟨_, h1, rfl⟩
theorem RepS.mem (h : RepS K H m S) {b : Addr} (hb : b ∈ m) : ∃ u, H b = some u ∧ mutO u = true := by
  obtain ⟨n, hn, e⟩ := List.getElem_of_mem hb
  have e' : m[n]? = some b := by rw [List.getElem?_eq_getElem hn, e]
  have hs : n < S.length := by rw [← h.len]; exact hn
  obtain ⟨a, h1, h2⟩ := h.obj n S[n] (List.getElem?_eq_getElem hs)
  rw [e'] at h1
  cases h1
  exact h2.ex
theorem RepS.notin (h : RepS K H m S) {p : Addr} (hp : H p = none) : p ∉ m := fun z => by
  obtain ⟨vs, e, _⟩ := h.mem z
  rw [hp] at e; cases e
/-- a new thing that is not a list of ours -/
theorem Ext.fresh (hp : H p = none) (o : HO) : Ext m H m (upd H p o) where
  pre := fun _ _ h => h
  keep := fun b u h _ => by rw [upd_ne (ne_of_none h hp)]; exact h
  new := fun _ h => .inl h
  lst := fun b u h _ => by rw [upd_ne (ne_of_none h hp)]; exact h
theorem Ext.pushed (hp : H p = none) (o : HO) : Ext m H (m ++ [p]) (upd H p o) where
  pre := fun n a h => by
    rw [List.getElem?_append_left]
    · exact h
    · exact (List.getElem?_eq_some_iff.mp h).1
  keep := fun b u h _ => by rw [upd_ne (ne_of_none h hp)]; exact h
  new := fun b h => by
    rcases List.mem_append.mp h with z | z
    · exact .inl z
    · refine .inr ?_
      rw [List.mem_singleton.mp z]
      exact hp
  lst := fun b u h _ => by rw [upd_ne (ne_of_none h hp)]; exact h
theorem Ext.wrote {a : Addr} {o o' : HO} (ha : a ∈ m) (h : H a = some o) (mo : mutO o = true) : Ext m H m (upd H a o') where
  pre := fun _ _ h => h
  keep := fun b u q hn => by
    rw [upd_ne (a := a) (b := b) (fun z => hn (by rw [z]; exact ha))]
    exact q
  new := fun _ h => .inl h
  lst := fun b u q hl => by
    have hne : b ≠ a := fun z => by
      rw [z, h] at q
      rw [← Option.some.inj q, mo] at hl
      cases hl
    rw [upd_ne hne]
    exact q
theorem RepS.fresh (h : RepS K H m S) (hp : H p = none) (o : HO) : RepS K (upd H p o) m S where
  len := h.len
  nd := h.nd
  obj := fun n u e => by
    obtain ⟨a, h1, h2⟩ := h.obj n u e
    obtain ⟨w, h3, _⟩ := h2.ex
    exact ⟨a, h1, h2.ext (Ext.fresh hp o) (by rw [upd_ne (ne_of_none h3 hp)])⟩
theorem RepS.pushO (h : RepS K H m S) (hp : H p = none) {o : O} {ob : HO} (r : ∀ H', H' = upd H p ob → RepO K H' (m ++ [p]) o p) : RepS K (upd H p ob) (m ++ [p]) (S ++ [o]) where
  len := by rw [List.length_append, List.length_append, h.len]; rfl
  nd := fun i j a h1 h2 => by
    have hn := h.notin hp
    have pos : ∀ (i : Nat) (a : Addr), (m ++ [p])[i]? = some a → (m[i]? = some a ∧ a ≠ p) ∨ (i = m.length ∧ a = p) := fun i a e => by
      by_cases hi : i < m.length
      · rw [List.getElem?_append_left hi] at e
        exact .inl ⟨e, fun z => hn (z ▸ List.mem_of_getElem? e)⟩
      · have hi' := (List.getElem?_eq_some_iff.mp e).1
        rw [List.length_append] at hi'
        have : i = m.length := by simp at hi'; omega
        subst this
        simp at e
        exact .inr ⟨rfl, e.symm⟩
    rcases pos i a h1 with ⟨e1, n1⟩ | ⟨e1, n1⟩ <;> rcases pos j a h2 with ⟨e2, n2⟩ | ⟨e2, n2⟩
    · exact h.nd i j a e1 e2
    · exact absurd n2 n1
    · exact absurd n1 n2
    · rw [e1, e2]
  obj := fun n u e => by
    by_cases hn : n < S.length
    · rw [List.getElem?_append_left hn] at e
      obtain ⟨a, h1, h2⟩ := h.obj n u e
      obtain ⟨w, h3, _⟩ := h2.ex
      exact ⟨a, (Ext.pushed (m := m) hp ob).pre _ _ h1, h2.ext (Ext.pushed hp ob) (by rw [upd_ne (ne_of_none h3 hp)])⟩
    · have hi' := (List.getElem?_eq_some_iff.mp e).1
      rw [List.length_append] at hi'
      have : n = S.length := by simp at hi'; omega
      subst this
      simp at e
      subst e
      exact ⟨p, by rw [← h.len]; simp, r _ rfl⟩
theorem RepS.push (h : RepS K H m S) (hp : H p = none) {ds : List D} {vs : List V} (r : Reps K H m ds vs) : RepS K (upd H p (.lst vs)) (m ++ [p]) (S ++ [.lst ds]) :=
  h.pushO hp fun H' e => ⟨vs, by rw [e, upd_same], by rw [e]; exact Reps.ext (Ext.pushed hp _) _ _ r⟩
theorem RepS.setO (h : RepS K H m S) {n : Nat} {a : Addr} {o o' : O} {ob : HO} (e : S[n]? = some o) (ha : m[n]? = some a) (r : ∀ H', H' = upd H a ob → Ext m H m H' → RepO K H' m o' a) :
    RepS K (upd H a ob) m (S.set n o') := by
  obtain ⟨a', h1, h2⟩ := h.obj n o e
  rw [ha] at h1
  cases h1
  obtain ⟨w, h3, h4⟩ := h2.ex
  have ext : Ext m H m (upd H a ob) := Ext.wrote (List.mem_of_getElem? ha) h3 h4
  have hn : n < S.length := (List.getElem?_eq_some_iff.mp e).1
  refine ⟨by rw [List.length_set]; exact h.len, h.nd, fun i u q => ?_⟩
  by_cases hi : i = n
  · subst hi
    rw [List.getElem?_set_self hn] at q
    cases q
    exact ⟨a, ha, r _ rfl ext⟩
  · rw [List.getElem?_set_ne (Ne.symm hi)] at q
    obtain ⟨b, g1, g2⟩ := h.obj i u q
    have hne : b ≠ a := fun z => hi (h.nd i n a (by rw [← z]; exact g1) ha)
    exact ⟨b, g1, g2.ext ext (by rw [upd_ne hne])⟩
theorem RepS.set (h : RepS K H m S) {n : Nat} {a : Addr} {ds ds' : List D} {vs' : List V} (e : S[n]? = some (.lst ds)) (ha : m[n]? = some a) (r : Reps K H m ds' vs') :
    RepS K (upd H a (.lst vs')) m (S.set n (.lst ds')) := h.setO e ha fun H' eH ext => ⟨vs', by rw [eH, upd_same], Reps.ext ext _ _ r⟩

/-! ### slots -/
structure RepE (K : PySem.W.Frag) (H : Hp) (m : List Addr) (ρ : Env) (σ : St) : Prop where
  len : ρ.length = σ.length
  get : ∀ (i : Nat) (d : D), lk ρ i = some d → ∃ v, σ[i]? = some (some v) ∧ Rep K H m d v
theorem RepE.ext {ρ : Env} {σ : St} (r : RepE K H m ρ σ) (e : Ext m H m' H') : RepE K H' m' ρ σ := ⟨r.len, fun i d h => let ⟨v, h1, h2⟩ := r.get i d h; ⟨v, h1, Rep.ext e _ _ h2⟩⟩
theorem lk_up : ∀ (ρ : Env) (i j : Nat) (d : Option D), lk (up ρ i d) j = if j = i ∧ i < ρ.length then d else lk ρ j
  | [], i, j, d => by simp [up, lk]
  | x :: r, 0, 0, d => by simp [up, lk]
  | x :: r, 0, j + 1, d => by simp [up, lk]
  | x :: r, i + 1, 0, d => by simp [up, lk]
  | x :: r, i + 1, j + 1, d => by simp [up, lk, lk_up r i j d]
theorem up_len : ∀ (ρ : Env) (i : Nat) (d : Option D), (up ρ i d).length = ρ.length
  | [], _, _ => rfl
  | x :: r, 0, _ => rfl
  | x :: r, i + 1, d => by simp [up, up_len r i d]
theorem RepE.set {ρ : Env} {σ : St} (r : RepE K H m ρ σ) {d : D} {v : V} (q : Rep K H m d v) (i : Nat) : RepE K H m (up ρ i (some d)) (σ.set i (some v)) := by
  refine ⟨by rw [up_len, List.length_set]; exact r.len, fun j e h => ?_⟩
  rw [lk_up] at h
  by_cases hj : j = i ∧ i < ρ.length
  · rw [if_pos hj] at h
    cases h
    obtain ⟨rfl, hl⟩ := hj
    exact ⟨v, by rw [List.getElem?_set_self (by rw [← r.len]; exact hl)], q⟩
  · rw [if_neg hj] at h
    obtain ⟨w, h1, h2⟩ := r.get j e h
    refine ⟨w, ?_, h2⟩
    have hlt := (List.getElem?_eq_some_iff.mp h1).1
    by_cases hji : j = i
    · exact absurd ⟨hji, by rw [r.len, ← hji]; exact hlt⟩ hj
    · rw [List.getElem?_set_ne (Ne.symm hji)]
      exact h1
theorem RepE.drop1 {ρ : Env} {σ : St} (r : RepE K H m ρ σ) (i : Nat) : RepE K H m (up ρ i none) (σ.set i none) := by
  refine ⟨by rw [up_len, List.length_set]; exact r.len, fun j e h => ?_⟩
  rw [lk_up] at h
  by_cases hj : j = i ∧ i < ρ.length
  · rw [if_pos hj] at h; cases h
  · rw [if_neg hj] at h
    obtain ⟨w, h1, h2⟩ := r.get j e h
    have hlt := (List.getElem?_eq_some_iff.mp h1).1
    refine ⟨w, ?_, h2⟩
    by_cases hji : j = i
    · exact absurd ⟨hji, by rw [r.len, ← hji]; exact hlt⟩ hj
    · rw [List.getElem?_set_ne (Ne.symm hji)]
      exact h1
end
end DL
set_option Elab.async false
set_option linter.all false
set_option maxRecDepth 100000
set_option maxHeartbeats 4000000
/-! DL2: the parts as rules of the layer: tests, calls, displays, blocks, loops, comprehensions. -/
namespace DL
open PySem PySem.Spec
open L2 (V Hp HO St TE TT TA TS TG TI TO PE PT PW PA PS PSs PG PI PO Cx Inv RelV Vals SqL SqT Rd upd upd_same upd_ne ne_of ne_of_none OpR UnR CallR MtR IxR SlR It thn)

/-! ### from a part to the layer's reading -/
abbrev Kont (K : PySem.W.Frag) (m : List Addr) (H : Hp) (R : D → Sto → Prop) (Q : V → Hp → Prop) : Prop :=
  ∀ v d H' S' m', Ext m H m' H' → RepS K H' m' S' → Rep K H' m' d v → R d S' → Q v H'
def teOf (K : PySem.W.Frag) (w : WE) : TE := fun σ H Q => ∃ ρ S m R, RepE K H m ρ σ ∧ RepS K H m S ∧ w ρ S R ∧ Kont K m H R Q
def ttOf (K : PySem.W.Frag) (w : WT) : TT := fun σ H Q => ∃ ρ S m R, RepE K H m ρ σ ∧ RepS K H m S ∧ w ρ S R ∧ ∀ b H' S' m', Ext m H m' H' → RepS K H' m' S' → R b S' → Q b H'
def taOf (K : PySem.W.Frag) (w : WA) : TA := fun σ H Q => ∃ ρ S m R, RepE K H m ρ σ ∧ RepS K H m S ∧ w ρ S R ∧ ∀ vs ds H' S' m', Ext m H m' H' → RepS K H' m' S' → Reps K H' m' ds vs → R ds S' → Q vs H'
def toOf (K : PySem.W.Frag) (w : WP) : TO := fun σ H Q => ∃ ρ S m R, RepE K H m ρ σ ∧ RepS K H m S ∧ w ρ S R ∧ ∀ b H' S' m', Ext m H m' H' → RepS K H' m' S' → R b S' → Q b H'
/-- slots but those at vs as they were -/
def tgOf (K : PySem.W.Frag) (vs : List Nat) (g : WG) : TG := fun v σ H Q => ∃ d ρ S m R, RepE K H m ρ σ ∧ RepS K H m S ∧ Rep K H m d v ∧ g d ρ S R ∧
  ∀ σ' ρ' S' m' H', L2.wipe σ' vs = L2.wipe σ vs → Ext m H m' H' → RepS K H' m' S' → RepE K H' m' ρ' σ' → R ρ' S' → Q σ' H'
def tsOf (K : PySem.W.Frag) (w : WS) : TS := fun D σ H => ∃ ρ S m E, RepE K H m ρ σ ∧ RepS K H m S ∧ w E ρ S ∧
  (∀ σ' ρ' H' S' m', Ext m H m' H' → RepS K H' m' S' → RepE K H' m' ρ' σ' → E.nx ρ' S' → D.nx σ' H') ∧ Kont K m H E.rt D.rt ∧
  (∀ σ' ρ' H' S' m', Ext m H m' H' → RepS K H' m' S' → RepE K H' m' ρ' σ' → E.bk ρ' S' → D.bk σ' H') ∧
  (∀ σ' ρ' H' S' m', Ext m H m' H' → RepS K H' m' S' → RepE K H' m' ρ' σ' → E.ct ρ' S' → D.ct σ' H')
/-- the items that an iterator yields -/
def Yields (K : PySem.W.Frag) (J : It) (items : List D) (guard : Sto → Prop) (m0 : List Addr) (H0 : Hp) : Prop :=
  ∀ m H S, Ext m0 H0 m H → RepS K H m S → guard S → (∀ (i : Nat) (d : D), items[i]? = some d → J.go i H ∧ ∀ x H', J.yld i H x H' → ∃ m', Ext m H m' H' ∧ RepS K H' m' S ∧ Rep K H' m' d x) ∧ (∀ i : Nat, items.length ≤ i → J.stop i H)
def tiOf (K : PySem.W.Frag) (w : WI) : TI := fun σ H R => ∃ ρ S m Rd, RepE K H m ρ σ ∧ RepS K H m S ∧ w ρ S Rd ∧
  ∀ J items guard S' m' H', Ext m H m' H' → RepS K H' m' S' → Yields K J items guard m' H' → Rd items guard S' → R J H'
def r2Of (K : PySem.W.Frag) (r : R2) : L2.R2 := fun x y H Q => ∃ m S dx dy R, RepS K H m S ∧ Rep K H m dx x ∧ Rep K H m dy y ∧ r dx dy S R ∧ Kont K m H R Q
def r1Of (K : PySem.W.Frag) (r : R1) : V → Hp → L2.VK → Prop := fun x H Q => ∃ m S dx R, RepS K H m S ∧ Rep K H m dx x ∧ r dx S R ∧ Kont K m H R Q
def rlOf (K : PySem.W.Frag) (r : RL) : List V → Hp → L2.VK → Prop := fun xs H Q => ∃ m S ds R, RepS K H m S ∧ Reps K H m ds xs ∧ r ds S R ∧ Kont K m H R Q
def rmOf (K : PySem.W.Frag) (r : RM) : V → List V → Hp → L2.VK → Prop := fun x xs H Q => ∃ m S dx ds R, RepS K H m S ∧ Rep K H m dx x ∧ Reps K H m ds xs ∧ r dx ds S R ∧ Kont K m H R Q
def rsOf (K : PySem.W.Frag) (r : D → Option Int → Option Int → Sto → VK → Prop) : V → Option Int → Option Int → Hp → L2.VK → Prop := fun x lo hi H Q => ∃ m S dx R, RepS K H m S ∧ Rep K H m dx x ∧ r dx lo hi S R ∧ Kont K m H R Q
/-- a def's promise -/
def spOf (K : PySem.W.Frag) (n : Nat) (sp : Spc) : L2.Sp := fun vs H Q _ => ∃ m S ds R, RepS K H m S ∧ Reps K H m ds vs ∧ ds.length = n ∧ sp ds S R ∧ Kont K m H R Q

theorem Kont.ext {K : PySem.W.Frag} {m m1 : List Addr} {H H1 : Hp} {R : D → Sto → Prop} {Q : V → Hp → Prop} (k : Kont K m H R Q) (e : Ext m H m1 H1) : Kont K m1 H1 R Q :=
  fun v d H' S' m' e' s r q => k v d H' S' m' (e.trans e') s r q

section
variable {X : Cx} {e : Expr} {es : List Expr} {a b c : Expr} {pos : Pos}
theorem peI {t t' : TE} (h : PE X e t) (hi : ∀ σ H Q, t' σ H Q → t σ H Q) : PE X e t' := ⟨fun pins s σ H Q I q => h.run pins s σ H Q I (hi _ _ _ q)⟩
theorem ptI {t t' : TT} (h : PT X e t) (hi : ∀ σ H Q, t' σ H Q → t σ H Q) : PT X e t' := ⟨fun pins s σ H Q I q => h.run pins s σ H Q I (hi _ _ _ q)⟩
theorem pwI {t t' : TT} (h : PW X e t) (hi : ∀ σ H Q, t' σ H Q → t σ H Q) : PW X e t' := ⟨fun wh pins s σ H Q I q => h.run wh pins s σ H Q I (hi _ _ _ q)⟩
theorem paI {t t' : TA} (h : PA X es t) (hi : ∀ σ H Q, t' σ H Q → t σ H Q) : PA X es t' := ⟨fun p pins s σ H Q I q => h.run p pins s σ H Q I (hi _ _ _ q)⟩
theorem psI {st : Stmt} {t t' : TS} (h : PS X st t) (hi : ∀ D σ H, t' D σ H → t D σ H) : PS X st t' := ⟨fun pins s σ H D I q => h.run pins s σ H D I (hi _ _ _ q)⟩
theorem pssI {st : List Stmt} {t t' : TS} (h : PSs X st t) (hi : ∀ D σ H, t' D σ H → t D σ H) : PSs X st t' := ⟨fun pins s σ H D I q => h.run pins s σ H D I (hi _ _ _ q)⟩
theorem pgI {tg : Expr} {t t' : TG} (h : PG X tg t) (hi : ∀ v σ H Q, t' v σ H Q → t v σ H Q) : PG X tg t' := ⟨fun pins s σ H v u Q I r q => h.run pins s σ H v u Q I r (hi _ _ _ _ q)⟩
theorem piI {tg it : Expr} {t t' : TI} (h : PI X tg it t) (hi : ∀ σ H Q, t' σ H Q → t σ H Q) : PI X tg it t' := ⟨fun pins s σ H R I q => h.run pins s σ H R I (hi _ _ _ q)⟩

variable {wa wb wc : WE}
/-- the first part's end, the second part begun -/
theorem and2 {K : PySem.W.Frag} {σ : St} {H : Hp} {ρ : Env} {S : Sto} {m : List Addr} {R : D → D → Sto → Prop} {T : V → V → Hp → Prop} (hE : RepE K H m ρ σ) (hS : RepS K H m S)
    (h : wa ρ S fun x S1 => wb ρ S1 fun y S2 => R x y S2)
    (k : ∀ m2 H2 S2 v u x y, Ext m H m2 H2 → RepS K H2 m2 S2 → Rep K H2 m2 x v → Rep K H2 m2 y u → R x y S2 → T v u H2) :
    teOf K wa σ H fun v H1 => teOf K wb σ H1 fun u H2 => T v u H2 :=
  ⟨ρ, S, m, _, hE, hS, h, fun v x H1 S1 m1 e1 s1 r1 q1 => ⟨ρ, S1, m1, _, hE.ext e1, s1, q1, fun u y H2 S2 m2 e2 s2 r2 q2 => k m2 H2 S2 v u x y (e1.trans e2) s2 (Rep.ext e2 _ _ r1) r2 q2⟩⟩

/-! ### names, constants -/
theorem d_var (i : Nat) {x : Str} (hN : X.N[i]? = some x := by rfl) (hv : L2.Vis X.env.scope x := by first | exact Or.inl rfl | exact Or.inr (Or.inl rfl) | exact Or.inr (Or.inr rfl)) (hd : (x == ("__debug__" : Str)) = false := by decide)
    (hcd : (x == ("__classdict__" : Str)) = false := by decide) : PE X (.Name x pos) (teOf X.K (wVar i)) := peI (L2.pe_var (i := i) hN hv hd hcd) fun σ H Q ⟨ρ, S, m, R, hE, hS, h, k⟩ => by
  unfold wVar at h
  cases e : lk ρ i with
  | none => rw [e] at h; exact h.elim
  | some d =>
    rw [e] at h
    obtain ⟨v, h1, h2⟩ := hE.get i d e
    exact ⟨v, h1, k v d H S m (Ext.refl _ _) hS h2 h⟩
theorem d_int {i j} : PE X (.Constant (.int i) j pos) (teOf X.K (wC (.int i))) := peI L2.pe_int fun σ H Q ⟨ρ, S, m, R, hE, hS, h, k⟩ => k _ (.int i) H S m (Ext.refl _ _) hS rfl h
theorem d_bl {b j} : PE X (.Constant (.bool b) j pos) (teOf X.K (wC (.bl b))) := peI L2.pe_bl fun σ H Q ⟨ρ, S, m, R, hE, hS, h, k⟩ => k _ (.bl b) H S m (Ext.refl _ _) hS rfl h
theorem d_non {j} : PE X (.Constant .none j pos) (teOf X.K (wC .non)) := peI L2.pe_non fun σ H Q ⟨ρ, S, m, R, hE, hS, h, k⟩ => k _ .non H S m (Ext.refl _ _) hS rfl h
theorem d_str {x j} : PE X (.Constant (.str x) j pos) (teOf X.K (wC (.str x))) := peI L2.pe_str fun σ H Q ⟨ρ, S, m, R, hE, hS, h, k⟩ => k _ (.str x) H S m (Ext.refl _ _) hS rfl h
/-- a built-in type as a value -/
theorem d_ty {x : Str} {n : String} (hg : L2.Gl X x) (hm : X.mg x = none) (hv : bootBuiltins x = some (.type n)) (hn : x ≠ "__name__" := by decide) (hd : (x == ("__debug__" : Str)) = false := by decide) : PE X (.Name x pos) (teOf X.K (wC (.ty n))) :=
  peI (L2.pe_bltn (v := .ty n) hg hm hv rfl hn hd) fun σ H Q ⟨ρ, S, m, R, hE, hS, h, k⟩ => k _ (.ty n) H S m (Ext.refl _ _) hS rfl h
/-- a constant of the module -/
theorem d_glob {x : Str} {v : V} {u : Value} {d : D} (hg : L2.Gl X x) (hm : X.mg x = some u) (r : RelV v u) (hr : ∀ H m, Rep X.K H m d v) (hd : (x == ("__debug__" : Str)) = false := by decide) : PE X (.Name x pos) (teOf X.K (wC d)) :=
  peI (L2.pe_glob hg hm r hd) fun σ H Q ⟨ρ, S, m, R, hE, hS, h, k⟩ => k _ _ H S m (Ext.refl _ _) hS (hr H m) h

/-! ### operators -/
theorem d_op {op : Operator} {r : R2} (ho : OpR X (binaryOp op) (r2Of X.K r)) (ha : PE X a (teOf X.K wa)) (hb : PE X b (teOf X.K wb)) : PE X (.BinOp a op b pos) (teOf X.K (wOp r wa wb)) :=
  peI (L2.pe_op ho ha hb) fun σ H Q ⟨ρ, S, m, R, hE, hS, h, k⟩ => and2 hE hS h fun m2 H2 S2 v u x y e s rx ry q => ⟨m2, S2, x, y, R, s, rx, ry, q, k.ext e⟩
theorem d_un {op : UnaryOp} {r : R1} (ho : UnR X (unaryOp op) (r1Of X.K r)) (ha : PE X a (teOf X.K wa)) : PE X (.UnaryOp op a pos) (teOf X.K (wUn r wa)) :=
  peI (L2.pe_un ho ha) fun σ H Q ⟨ρ, S, m, R, hE, hS, h, k⟩ => ⟨ρ, S, m, _, hE, hS, h, fun v x H1 S1 m1 e1 s1 r1 q1 => ⟨m1, S1, x, R, s1, r1, q1, k.ext e1⟩⟩
theorem d_cmp {op : CmpOp} {r : R2} (ho : OpR X (compareOp op) (r2Of X.K r)) (ha : PE X a (teOf X.K wa)) (hb : PE X b (teOf X.K wb)) (hm : behindInMarks op b = false := by first | exact L2.nobehind _ (by decide) (by decide) | rfl) : PE X (.Compare a [op] [b] pos) (teOf X.K (wOp r wa wb)) :=
  peI (L2.pe_cmpR ho ha hb hm) fun σ H Q ⟨ρ, S, m, R, hE, hS, h, k⟩ => and2 hE hS h fun m2 H2 S2 v u x y e s rx ry q => ⟨m2, S2, x, y, R, s, rx, ry, q, k.ext e⟩
theorem d_ix {r : R2} (ho : IxR X (r2Of X.K r)) (ha : PE X a (teOf X.K wa)) (hb : PE X b (teOf X.K wb)) (hs : L2.PlainIx b := by intro _ _; rfl) : PE X (.Subscript a b pos) (teOf X.K (wOp r wa wb)) :=
  peI (L2.pe_ix ho ha hb hs) fun σ H Q ⟨ρ, S, m, R, hE, hS, h, k⟩ => and2 hE hS h fun m2 H2 S2 v u x y e s rx ry q => ⟨m2, S2, x, y, R, s, rx, ry, q, k.ext e⟩
theorem d_chain {op op' : CmpOp} {r r' : R2} (ho : OpR X (compareOp op) (r2Of X.K r)) (ho' : OpR X (compareOp op') (r2Of X.K r')) (ha : PE X a (teOf X.K wa)) (hb : PE X b (teOf X.K wb)) (hc : PE X c (teOf X.K wc)) (hm : lastMarks [op, op'] [b, c] = false := by rfl) :
    PE X (.Compare a [op, op'] [b, c] pos) (teOf X.K (wChain r r' wa wb wc)) :=
  peI (L2.pe_chain ho ho' ha hb hc (hm := hm)) fun σ H Q ⟨ρ, S, m, R, hE, hS, h, k⟩ => and2 hE hS h fun m2 H2 S2 v u x y e s rx ry q => ⟨m2, S2, x, y, _, s, rx, ry, q, fun z d H3 S3 m3 e3 s3 r3 q3 => by
    cases d with
    | bl kk =>
      refine ⟨kk, r3, ?_⟩
      have q3 : if kk = true then wc ρ S3 fun u S4 => r' y u S4 R else R (.bl false) S3 := q3
      by_cases hk : kk = true
      · rw [if_pos hk] at q3 ⊢
        exact ⟨ρ, S3, m3, _, hE.ext (e.trans e3), s3, q3, fun w d4 H4 S4 m4 e4 s4 r4 q4 => ⟨m4, S4, y, d4, R, s4, Rep.ext (e3.trans e4) _ _ ry, r4, q4, k.ext (e.trans (e3.trans e4))⟩⟩
      · rw [if_neg hk] at q3 ⊢
        exact k _ (.bl false) H3 S3 m3 (e.trans e3) s3 rfl q3
    | _ => exact (show False from q3).elim⟩

/-! ### tests -/
theorem dt_val (h : PE X e (teOf X.K wa)) (he : ∀ whole, isTrue e X.env whole = (do let v ← whole; standAt e.pos; holding [v] (truthy v)) := by intro _; rfl) : PT X e (ttOf X.K (wtVal wa)) :=
  ptI (L2.pt_val h he) fun σ H Q ⟨ρ, S, m, R, hE, hS, h, k⟩ => ⟨ρ, S, m, _, hE, hS, h, fun v d H' S' m' e s r q => by
    cases d with
    | bl b => exact ⟨b, r, k b H' S' m' e s q⟩
    | _ => exact (show False from q).elim⟩
theorem dt_cmp {op : CmpOp} {r : R2} (ho : OpR X (compareOp op) (r2Of X.K r)) (ha : PE X a (teOf X.K wa)) (hb : PE X b (teOf X.K wb)) (hm : behindInMarks op b = false := by first | exact L2.nobehind _ (by decide) (by decide) | rfl) : PT X (.Compare a [op] [b] pos) (ttOf X.K (wtVal (wOp r wa wb))) :=
  ptI (L2.pt_cmpR ho ha hb hm) fun σ H Q ⟨ρ, S, m, R, hE, hS, h, k⟩ => and2 hE hS h fun m2 H2 S2 v u x y e s rx ry q => ⟨m2, S2, x, y, _, s, rx, ry, q, fun z d H3 S3 m3 e3 s3 r3 q3 => by
    cases d with
    | bl kk => exact ⟨kk, r3, k kk H3 S3 m3 (e.trans e3) s3 q3⟩
    | _ => exact (show False from q3).elim⟩
theorem dt_chain {op op' : CmpOp} {r r' : R2} (ho : OpR X (compareOp op) (r2Of X.K r)) (ho' : OpR X (compareOp op') (r2Of X.K r')) (ha : PE X a (teOf X.K wa)) (hb : PE X b (teOf X.K wb)) (hc : PE X c (teOf X.K wc)) (hm : lastMarks [op, op'] [b, c] = false := by rfl) :
    PT X (.Compare a [op, op'] [b, c] pos) (ttOf X.K (wtVal (wChain r r' wa wb wc))) :=
  ptI (L2.pt_chain ho ho' ha hb hc (hm := hm)) fun σ H Q ⟨ρ, S, m, R, hE, hS, h, k⟩ => and2 hE hS h fun m2 H2 S2 v u x y e s rx ry q => ⟨m2, S2, x, y, _, s, rx, ry, q, fun z d H3 S3 m3 e3 s3 r3 q3 => by
    cases d with
    | bl kk =>
      refine ⟨kk, r3, ?_⟩
      have q3 : if kk = true then wc ρ S3 fun u S4 => r' y u S4 _ else _ := q3
      by_cases hk : kk = true
      · rw [if_pos hk] at q3 ⊢
        exact ⟨ρ, S3, m3, _, hE.ext (e.trans e3), s3, q3, fun w d4 H4 S4 m4 e4 s4 r4 q4 => ⟨m4, S4, y, d4, _, s4, Rep.ext (e3.trans e4) _ _ ry, r4, q4, fun v5 d5 H5 S5 m5 e5 s5 r5 q5 => by
          cases d5 with
          | bl k5 => exact ⟨k5, r5, k k5 H5 S5 m5 (e.trans (e3.trans (e4.trans e5))) s5 q5⟩
          | _ => exact (show False from q5).elim⟩⟩
      · rw [if_neg hk] at q3 ⊢
        exact ⟨false, rfl, k false H3 S3 m3 (e.trans e3) s3 q3⟩
    | _ => exact (show False from q3).elim⟩
variable {ta tb : WT} {rest : List Expr}
theorem dt_not (ha : PT X a (ttOf X.K ta)) : PT X (.UnaryOp .Not a pos) (ttOf X.K (wtNot ta)) :=
  ptI (L2.pt_not ha) fun σ H Q ⟨ρ, S, m, R, hE, hS, h, k⟩ => ⟨ρ, S, m, _, hE, hS, h, fun b H' S' m' e s q => k _ H' S' m' e s q⟩
theorem dw_and1 (ha : PT X a (ttOf X.K ta)) : PW X (.BoolOp .And [a] pos) (ttOf X.K ta) := L2.pw_and1 ha
theorem dw_or1 (ha : PT X a (ttOf X.K ta)) : PW X (.BoolOp .Or [a] pos) (ttOf X.K ta) := L2.pw_or1 ha
theorem dw_and (ha : PT X a (ttOf X.K ta)) (hb : PW X (.BoolOp .And (b :: rest) pos) (ttOf X.K tb)) : PW X (.BoolOp .And (a :: b :: rest) pos) (ttOf X.K (wtAnd ta tb)) :=
  pwI (L2.pw_and ha hb) fun σ H Q ⟨ρ, S, m, R, hE, hS, h, k⟩ => ⟨ρ, S, m, _, hE, hS, h, fun b H' S' m' e s q => by
    have q : if b = true then tb ρ S' R else R false S' := q
    show if b = true then ttOf X.K tb σ H' Q else Q false H'
    by_cases hb : b = true
    · rw [if_pos hb] at q ⊢
      exact ⟨ρ, S', m', R, hE.ext e, s, q, fun b2 H2 S2 m2 e2 s2 q2 => k b2 H2 S2 m2 (e.trans e2) s2 q2⟩
    · rw [if_neg hb] at q ⊢
      exact k _ H' S' m' e s q⟩
theorem dw_or (ha : PT X a (ttOf X.K ta)) (hb : PW X (.BoolOp .Or (b :: rest) pos) (ttOf X.K tb)) : PW X (.BoolOp .Or (a :: b :: rest) pos) (ttOf X.K (wtOr ta tb)) :=
  pwI (L2.pw_or ha hb) fun σ H Q ⟨ρ, S, m, R, hE, hS, h, k⟩ => ⟨ρ, S, m, _, hE, hS, h, fun b H' S' m' e s q => by
    have q : if b = true then R true S' else tb ρ S' R := q
    show if b = true then Q true H' else ttOf X.K tb σ H' Q
    by_cases hb : b = true
    · rw [if_pos hb] at q ⊢
      exact k _ H' S' m' e s q
    · rw [if_neg hb] at q ⊢
      exact ⟨ρ, S', m', R, hE.ext e, s, q, fun b2 H2 S2 m2 e2 s2 q2 => k b2 H2 S2 m2 (e.trans e2) s2 q2⟩⟩
/-! as values -/
theorem d_one {op} (h : PE X a (teOf X.K wa)) : PE X (.BoolOp op [a] pos) (teOf X.K wa) := L2.pe_one h
theorem d_and (ha : PE X a (teOf X.K wa)) (hb : PE X (.BoolOp .And (b :: rest) pos) (teOf X.K wb)) : PE X (.BoolOp .And (a :: b :: rest) pos) (teOf X.K (wAnd wa wb)) :=
  peI (L2.pe_and ha hb) fun σ H Q ⟨ρ, S, m, R, hE, hS, h, k⟩ => ⟨ρ, S, m, _, hE, hS, h, fun v d H' S' m' e s r q => by
    cases d with
    | bl c =>
      refine ⟨c, r, ?_⟩
      have q : if c = true then wb ρ S' R else R (.bl false) S' := q
      by_cases hb : c = true
      · rw [if_pos hb] at q ⊢
        exact ⟨ρ, S', m', R, hE.ext e, s, q, k.ext e⟩
      · rw [if_neg hb] at q ⊢
        exact k _ (.bl false) H' S' m' e s rfl q
    | _ => exact (show False from q).elim⟩
theorem d_or (ha : PE X a (teOf X.K wa)) (hb : PE X (.BoolOp .Or (b :: rest) pos) (teOf X.K wb)) : PE X (.BoolOp .Or (a :: b :: rest) pos) (teOf X.K (wOr wa wb)) :=
  peI (L2.pe_or ha hb) fun σ H Q ⟨ρ, S, m, R, hE, hS, h, k⟩ => ⟨ρ, S, m, _, hE, hS, h, fun v d H' S' m' e s r q => by
    cases d with
    | bl c =>
      refine ⟨c, r, ?_⟩
      have q : if c = true then R (.bl true) S' else wb ρ S' R := q
      by_cases hb : c = true
      · rw [if_pos hb] at q ⊢
        exact k _ (.bl true) H' S' m' e s rfl q
      · rw [if_neg hb] at q ⊢
        exact ⟨ρ, S', m', R, hE.ext e, s, q, k.ext e⟩
    | _ => exact (show False from q).elim⟩
theorem d_not (ha : PE X a (teOf X.K wa)) : PE X (.UnaryOp .Not a pos) (teOf X.K (wNot wa)) :=
  peI (L2.pe_not ha) fun σ H Q ⟨ρ, S, m, R, hE, hS, h, k⟩ => ⟨ρ, S, m, _, hE, hS, h, fun v d H' S' m' e s r q => by
    cases d with
    | bl c => exact ⟨c, r, k _ (.bl (!c)) H' S' m' e s rfl q⟩
    | _ => exact (show False from q).elim⟩
theorem d_if (hc : PT X c (ttOf X.K ta)) (ha : PE X a (teOf X.K wa)) (hb : PE X b (teOf X.K wb)) : PE X (.IfExp c a b pos) (teOf X.K (wIf ta wa wb)) :=
  peI (L2.pe_ifExp hc ha hb) fun σ H Q ⟨ρ, S, m, R, hE, hS, h, k⟩ => ⟨ρ, S, m, _, hE, hS, h, fun c H' S' m' e s q => by
    have q : if c = true then wa ρ S' R else wb ρ S' R := q
    show if c = true then teOf X.K wa σ H' Q else teOf X.K wb σ H' Q
    by_cases hb : c = true
    · rw [if_pos hb] at q ⊢
      exact ⟨ρ, S', m', R, hE.ext e, s, q, k.ext e⟩
    · rw [if_neg hb] at q ⊢
      exact ⟨ρ, S', m', R, hE.ext e, s, q, k.ext e⟩⟩

/-! ### displays, calls -/
variable {va : WA}
theorem da_nil : PA X [] (taOf X.K wNil) := paI L2.pa_nil fun σ H Q ⟨ρ, S, m, R, hE, hS, h, k⟩ => k [] [] H S m (Ext.refl _ _) hS rfl h
theorem da_cons (ha : PE X e (teOf X.K wa)) (hr : PA X es (taOf X.K va)) (hs : starEach (e :: es) X.env = (false, eval e X.env) :: starEach es X.env := by rfl) : PA X (e :: es) (taOf X.K (wCons wa va)) :=
  paI (L2.pa_cons ha hr hs) fun σ H Q ⟨ρ, S, m, R, hE, hS, h, k⟩ => ⟨ρ, S, m, _, hE, hS, h, fun v x H1 S1 m1 e1 s1 r1 q1 => ⟨ρ, S1, m1, _, hE.ext e1, s1, q1, fun vs xs H2 S2 m2 e2 s2 r2 q2 =>
    k (v :: vs) (x :: xs) H2 S2 m2 (e1.trans e2) s2 ⟨_, _, rfl, Rep.ext e2 _ _ r1, r2⟩ q2⟩⟩
theorem d_tup {x1} (h : PA X es (taOf X.K va)) : PE X (.Tuple es x1 pos) (teOf X.K (wTup va)) :=
  peI (L2.pe_tup h) fun σ H Q ⟨ρ, S, m, R, hE, hS, h, k⟩ => ⟨ρ, S, m, _, hE, hS, h, fun vs ds H1 S1 m1 e1 s1 r1 ⟨z, q1⟩ => ⟨by rw [r1.len]; exact z, fun p hp =>
    k _ (.tup ds) _ S1 m1 (e1.trans (Ext.fresh hp _)) (s1.fresh hp _) ⟨p, vs, rfl, .inl upd_same, Reps.ext (Ext.fresh hp _) _ _ r1⟩ q1⟩⟩
theorem d_lst (h : PA X es (taOf X.K va)) : PE X (.List es pos) (teOf X.K (wLst va)) :=
  peI (L2.pe_lst h) fun σ H Q ⟨ρ, S, m, R, hE, hS, h, k⟩ => ⟨ρ, S, m, _, hE, hS, h, fun vs ds H1 S1 m1 e1 s1 r1 ⟨z, q1⟩ => ⟨by rw [r1.len]; exact z, fun p hp =>
    k _ (.ref S1.length) _ _ (m1 ++ [p]) (e1.trans (Ext.pushed hp _)) (s1.push hp r1) ⟨p, by rw [← s1.len]; simp, rfl⟩ q1⟩⟩
theorem d_call {n kk : Nat} {f : Addr} {fd : FuncData} {ps : List Str} {sp : Spc} {x : Str} {p : Pos} (F : L2.FnOk X.prog X.w X.K X.mg X.base L2.CX0 kk f fd ps (spOf X.K n sp)) (hr : L2.Room kk X.A) (hg : L2.Gl X x) (hm : X.mg x = some (.ref f))
    (hk : PySem.W.keepIn X.K (.ref f) = true) (hb : L2.Binds X.K fd ps []) (ha : PA X (e :: es) (taOf X.K va)) (hd : (x == ("__debug__" : Str)) = false := by decide)
    (he : starEach (e :: es) X.env = (false, eval e X.env) :: starEach es X.env := by rfl) (hpl : (backTo pos (starEach es X.env)).any (·.1) = false := by rfl) :
    PE X (.Call (.Name x p) (e :: es) [] pos) (teOf X.K (wCall n sp va)) :=
  peI (L2.pe_call (dvs := []) (ds := []) (E := L2.E0) F hr hg hm hk hb .nil L2.pass0 ha hd he hpl) fun σ H Q ⟨ρ, S, m, R, hE, hS, h, k⟩ => ⟨ρ, S, m, _, hE, hS, h, fun vs ds H1 S1 m1 e1 s1 r1 ⟨z, q1⟩ =>
    ⟨m1, S1, ds, R, s1, by rw [List.append_nil]; exact r1, z, q1, k.ext e1⟩⟩
theorem d_callB {id : String} {r : RL} {x : Str} {p : Pos} (hc : CallR X (.builtin id) (rlOf X.K r)) (hg : L2.Gl X x) (hm : X.mg x = none) (hv : bootBuiltins x = some (.builtin id)) (ha : PA X (e :: es) (taOf X.K va)) (hn : x ≠ "__name__" := by decide) (hdb : (x == ("__debug__" : Str)) = false := by decide)
    (he : starEach (e :: es) X.env = (false, eval e X.env) :: starEach es X.env := by rfl) (hpl : (backTo pos (starEach es X.env)).any (·.1) = false := by rfl) : PE X (.Call (.Name x p) (e :: es) [] pos) (teOf X.K (wB r va)) :=
  peI (L2.pe_callB hc hg hm hv ha hn hdb he hpl) fun σ H Q ⟨ρ, S, m, R, hE, hS, h, k⟩ => ⟨ρ, S, m, _, hE, hS, h, fun vs ds H1 S1 m1 e1 s1 r1 q1 => ⟨m1, S1, ds, R, s1, r1, q1, k.ext e1⟩⟩
theorem d_callT {id : String} {r : RL} {x : Str} {p : Pos} (hc : CallR X (.type id) (rlOf X.K r)) (hg : L2.Gl X x) (hm : X.mg x = none) (hv : bootBuiltins x = some (.type id)) (ha : PA X (e :: es) (taOf X.K va)) (hn : x ≠ "__name__" := by decide) (hdb : (x == ("__debug__" : Str)) = false := by decide)
    (he : starEach (e :: es) X.env = (false, eval e X.env) :: starEach es X.env := by rfl) (hpl : (backTo pos (starEach es X.env)).any (·.1) = false := by rfl) : PE X (.Call (.Name x p) (e :: es) [] pos) (teOf X.K (wB r va)) :=
  peI (L2.pe_callTy hc hg hm hv ha hn hdb he hpl) fun σ H Q ⟨ρ, S, m, R, hE, hS, h, k⟩ => ⟨ρ, S, m, _, hE, hS, h, fun vs ds H1 S1 m1 e1 s1 r1 q1 => ⟨m1, S1, ds, R, s1, r1, q1, k.ext e1⟩⟩
/-- a name of the module that holds a built-in function (math.gcd) -/
theorem d_callF {id : String} {r : RL} {x : Str} {p : Pos} (hc : CallR X (.builtin id) (rlOf X.K r)) (hg : L2.Gl X x) (hm : X.mg x = some (.builtin id)) (ha : PA X (e :: es) (taOf X.K va)) (hdb : (x == ("__debug__" : Str)) = false := by decide)
    (he : starEach (e :: es) X.env = (false, eval e X.env) :: starEach es X.env := by rfl) (hpl : (backTo pos (starEach es X.env)).any (·.1) = false := by rfl) : PE X (.Call (.Name x p) (e :: es) [] pos) (teOf X.K (wB r va)) :=
  peI (L2.pe_callBfun hc hg hm ha hdb he hpl) fun σ H Q ⟨ρ, S, m, R, hE, hS, h, k⟩ => ⟨ρ, S, m, _, hE, hS, h, fun vs ds H1 S1 m1 e1 s1 r1 q1 => ⟨m1, S1, ds, R, s1, r1, q1, k.ext e1⟩⟩
theorem isL_ty {K : PySem.W.Frag} {H : Hp} {m : List Addr} {S : Sto} {x : D} {v : V} (s : RepS K H m S) (r : Rep K H m x v) (h : isL x S) : L2.tyV K "list" v H := by
  cases x with
  | ref n =>
    obtain ⟨xs, h⟩ := h
    obtain ⟨a, vs, h1, h2, h3⟩ := s.lst h
    obtain ⟨b, g1, rfl⟩ := r
    rw [h1] at g1
    cases g1
    exact .inl ⟨rfl, vs, L2.SqL.of h2⟩
  | _ => exact (show False from h).elim
variable {o : Expr} {wo : WE}
theorem d_m {name : Str} {id : String} {r : RM} {apos cpos : Pos} (slot : Slot "list" name id) (hty : typeOf (.builtin id) = pure (.type "method_descriptor")) (hm : MtR X id (rmOf X.K r)) (ho : PE X o (teOf X.K wo)) (ha : PA X (e :: es) (taOf X.K va))
    (hbase : attributeBase o name X.env (eval o X.env) = eval o X.env := by rfl)
    (hfew : ((backTo cpos (starEach (e :: es) X.env)).all (fun x => !x.1) && (backToKw cpos (keywordEach [] X.env)).all (fun x => x.1.isSome)
      && decide ((e :: es).length + ([] : List Keyword).length + (if ([] : List Keyword).isEmpty then 0 else 1) < 30)) = true := by rfl)
    (hline : (apos.endLine == cpos.line) = true := by rfl) (hs : starEach (e :: es) X.env = (false, eval e X.env) :: starEach es X.env := by rfl) (hplain : (backTo cpos (starEach es X.env)).any (·.1) = false := by rfl) :
    PE X (.Call (.Attribute o name apos) (e :: es) [] cpos) (teOf X.K (wM r wo va)) :=
  peI (L2.pe_bm PySem.F.plainAttrs_list slot hty hm ho ha hbase hfew hline hs hplain) fun σ H Q ⟨ρ, S, m, R, hE, hS, h, k⟩ => ⟨ρ, S, m, _, hE, hS, h, fun v x H1 S1 m1 e1 s1 r1 ⟨z, q1⟩ =>
    ⟨isL_ty s1 r1 z, ρ, S1, m1, _, hE.ext e1, s1, q1, fun vs ds H2 S2 m2 e2 s2 r2 q2 => ⟨m2, S2, x, ds, R, s2, Rep.ext e2 _ _ r1, r2, q2, k.ext (e1.trans e2)⟩⟩⟩
theorem d_m0 {name : Str} {id : String} {r : RM} {apos cpos : Pos} (slot : Slot "list" name id) (hty : typeOf (.builtin id) = pure (.type "method_descriptor")) (hm : MtR X id (rmOf X.K r)) (ho : PE X o (teOf X.K wo))
    (hbase : attributeBase o name X.env (eval o X.env) = eval o X.env := by rfl) (hline : (apos.endLine == cpos.line) = true := by rfl) :
    PE X (.Call (.Attribute o name apos) [] [] cpos) (teOf X.K (wM0 r wo)) :=
  peI (L2.pe_bm0 PySem.F.plainAttrs_list slot hty hm ho hbase hline) fun σ H Q ⟨ρ, S, m, R, hE, hS, h, k⟩ => ⟨ρ, S, m, _, hE, hS, h, fun v x H1 S1 m1 e1 s1 r1 ⟨z, q1⟩ =>
    ⟨isL_ty s1 r1 z, m1, S1, x, [], R, s1, r1, rfl, q1, k.ext e1⟩⟩
/-! slices -/
theorem dp_no : PO X none (toOf X.K wPNo) := ⟨fun pins s σ H Q I ⟨ρ, S, m, R, hE, hS, h, k⟩ => L2.po_none.run pins s σ H Q I (k none H S m (Ext.refl _ _) hS h)⟩
theorem dp_at (h : PE X e (teOf X.K wa)) : PO X (some e) (toOf X.K (wPAt wa)) := ⟨fun pins s σ H Q I ⟨ρ, S, m, R, hE, hS, hw, k⟩ => (L2.po_some h).run pins s σ H Q I ⟨ρ, S, m, _, hE, hS, hw, fun v d H1 S1 m1 e1 s1 r1 q1 => by
    cases d with
    | int i => exact ⟨i, r1, k _ H1 S1 m1 e1 s1 q1⟩
    | _ => exact (show False from q1).elim⟩⟩
theorem d_sl {r : D → Option Int → Option Int → Sto → VK → Prop} {lo hi : Option Expr} {wl wh : WP} {p2 : Pos} (hr : SlR X (rsOf X.K r)) (ho : PE X o (teOf X.K wo)) (hl : PO X lo (toOf X.K wl)) (hh : PO X hi (toOf X.K wh)) :
    PE X (.Subscript o (.Slice lo hi none p2) pos) (teOf X.K (wSl r wo wl wh)) :=
  peI (L2.pe_slice hr ho hl hh) fun σ H Q ⟨ρ, S, m, R, hE, hS, h, k⟩ => ⟨ρ, S, m, _, hE, hS, h, fun v x H1 S1 m1 e1 s1 r1 q1 => ⟨ρ, S1, m1, _, hE.ext e1, s1, q1, fun i H2 S2 m2 e2 s2 q2 => ⟨ρ, S2, m2, _, hE.ext (e1.trans e2), s2, q2, fun j H3 S3 m3 e3 s3 q3 =>
    ⟨m3, S3, x, R, s3, Rep.ext (e2.trans e3) _ _ r1, q3, k.ext (e1.trans (e2.trans e3))⟩⟩⟩⟩
end
end DL
set_option Elab.async false
set_option linter.all false
set_option maxRecDepth 100000
set_option maxHeartbeats 4000000
/-! DL3: what is walked, targets, statements, loops, comprehensions, defs. -/
namespace DL
open PySem PySem.Spec
open L2 (V Hp HO St TE TT TA TS TG TI TO PE PT PW PA PS PSs PG PI PO Cx Inv RelV Vals SqL SqT Rd upd upd_same upd_ne ne_of ne_of_none OpR UnR CallR MtR IxR SlR It thn)

/-! ### what is walked -/
theorem yields_list {K : PySem.W.Frag} {m : List Addr} {H : Hp} {S : Sto} {n : Nat} {a : Addr} {xs : List D} (ha : m[n]? = some a) : Yields K (L2.Itl K a) xs (fun S' => S'[n]? = some (.lst xs)) m H := by
  intro m1 H1 S1 e s g
  obtain ⟨b, vs, h1, h2, h3⟩ := s.lst g
  have hb := e.pre n a ha
  rw [h1] at hb
  cases hb
  refine ⟨fun i d hd => ?_, fun i hi => ⟨vs, SqL.of h2, by rw [h3.len]; exact hi⟩⟩
  obtain ⟨v, g1, g2⟩ := h3.get i d hd
  exact ⟨⟨vs, v, SqL.of h2, g1⟩, fun x H' ⟨q1, q2⟩ => by
    subst q1
    have ex := q2 vs (SqL.of h2)
    rw [g1] at ex
    cases ex
    exact ⟨m1, Ext.refl _ _, s, g2⟩⟩
theorem yields_tup {K : PySem.W.Frag} {m : List Addr} {H : Hp} {a : Addr} {xs : List D} {vs : List V} (hT : SqT K H a vs) (r : Reps K H m xs vs) : Yields K (L2.Itt K a) xs (fun _ => True) m H := by
  intro m1 H1 S1 e s g
  have h3 := Reps.ext e _ _ r
  refine ⟨fun i d hd => ?_, fun i hi => ⟨vs, e.sqT hT, by rw [h3.len]; exact hi⟩⟩
  obtain ⟨v, g1, g2⟩ := h3.get i d hd
  exact ⟨⟨vs, v, e.sqT hT, g1⟩, fun x H' ⟨q1, q2⟩ => by
    subst q1
    have ex := q2 vs (e.sqT hT)
    rw [g1] at ex
    cases ex
    exact ⟨m1, Ext.refl _ _, s, g2⟩⟩
theorem yields_rol {K : PySem.W.Frag} {m : List Addr} {H : Hp} {a : Addr} {xs : List D} {vs : List V} (hT : RoL K H a vs) (r : Reps K H m xs vs) : Yields K (L2.Itl K a) xs (fun _ => True) m H := by
  intro m1 H1 S1 e s g
  have h3 := Reps.ext e _ _ r
  refine ⟨fun i d hd => ?_, fun i hi => ⟨vs, (e.ro hT).seq, by rw [h3.len]; exact hi⟩⟩
  obtain ⟨v, g1, g2⟩ := h3.get i d hd
  exact ⟨⟨vs, v, (e.ro hT).seq, g1⟩, fun x H' ⟨q1, q2⟩ => by
    subst q1
    have ex := q2 vs (e.ro hT).seq
    rw [g1] at ex
    cases ex
    exact ⟨m1, Ext.refl _ _, s, g2⟩⟩
theorem rangeD_getM {lo hi : Int} {i : Nat} {d : D} (h : (rangeD lo hi)[i]? = some d) : i < (hi - lo).toNat ∧ d = .int (lo + i) := by
  unfold rangeD at h
  rw [List.getElem?_map] at h
  by_cases hi : i < (hi - lo).toNat
  · rw [List.getElem?_range hi] at h
    exact ⟨hi, (Option.some.inj h).symm⟩
  · rw [List.getElem?_eq_none (by simpa using hi)] at h
    cases h
theorem rangeD_lenM (lo hi : Int) : (rangeD lo hi).length = (hi - lo).toNat := by simp [rangeD]
theorem yields_rng {K : PySem.W.Frag} {m : List Addr} {H : Hp} {lo hi : Int} : Yields K (L2.Itr lo (hi - lo).toNat) (rangeD lo hi) (fun _ => True) m H := by
  intro m1 H1 S1 e s g
  refine ⟨fun i d hd => ?_, fun i hi => by rw [rangeD_lenM] at hi; exact hi⟩
  obtain ⟨h1, h2⟩ := rangeD_getM hd
  exact ⟨h1, fun x H' ⟨q1, q2⟩ => ⟨m1, by rw [q1]; exact Ext.refl _ _, by rw [q1]; exact s, by rw [q2, h2]; rfl⟩⟩
section
variable {X : Cx} {tg : Expr} {wa wb : WE} {a b : Expr} {p pos : Pos}
theorem di_it {l : Expr} (hl : PE X l (teOf X.K wa)) : PI X tg l (tiOf X.K (wIt wa)) := by
  refine ⟨fun pins s σ H R I ⟨ρ, S, m, Rd, hE, hS, hw, k⟩ => ?_⟩
  refine thn (hl.run pins s σ H (fun v H1 => ∃ d S1 m1, Ext m H m1 H1 ∧ RepS X.K H1 m1 S1 ∧ Rep X.K H1 m1 d v ∧ (match d with
    | .tup xs => Rd xs (fun _ => True) S1
    | .rol xs => Rd xs (fun _ => True) S1
    | .ref n => match S1[n]? with
      | some (.lst xs) => Rd xs (fun S' => S'[n]? = some (.lst xs)) S1
      | _ => False
    | _ => False)) I ⟨ρ, S, m, _, hE, hS, hw, fun v d H1 S1 m1 e1 s1 r1 q1 => ⟨d, S1, m1, e1, s1, r1, q1⟩⟩) fun u s1 ⟨v, H1, I1, ru, d, S1, m1, e1, hs, rd, q⟩ => ?_
  have new : ∀ b ∈ [s1.heap.objs.size], L2.FpOk X pins H1 b := fun b hb => by
    rw [List.mem_singleton.mp hb]
    exact I1.fpOk (Nat.le_refl _) (I1.hok.fresh (Nat.le_refl _))
  cases d with
  | tup xs =>
    obtain ⟨a, vs, rfl, hT, rs⟩ := rd
    cases ru
    obtain ⟨its, rv, pt, _⟩ := I1.tuple hT.sqT
    refine wpAny_pyIter_tuple (show s1.heap.IsTuple a its.toArray from pt) ?_
    exact ⟨_, [s1.heap.objs.size], _, _, H1, rfl, I1.kept (t' := s1.toks) fun _ _ e => Heap.get?_push_of_some _ e, L2.turn_tuple a _, ⟨_, Heap.get?_push_size _ rfl, rfl, rfl⟩, new, k _ _ _ _ _ _ e1 hs (yields_tup hT.sqT rs) q⟩
  | rol xs =>
    obtain ⟨a, vs, rfl, hT, rs⟩ := rd
    cases ru
    obtain ⟨its, rv, pl, _⟩ := I1.list hT.seq
    refine wpAny_pyIter_list pl.isList ?_
    exact ⟨_, [s1.heap.objs.size], _, _, H1, rfl, I1.kept (t' := s1.toks) fun _ _ e => Heap.get?_push_of_some _ e, L2.turn_list a _, ⟨_, Heap.get?_push_size _ rfl, rfl, rfl⟩, new, k _ _ _ _ _ _ e1 hs (yields_rol hT rs) q⟩
  | ref n =>
    obtain ⟨a, ha, rfl⟩ := rd
    have q : (match S1[n]? with
      | some (.lst xs) => Rd xs (fun S' => S'[n]? = some (.lst xs)) S1
      | _ => False) := q
    split at q
    · rename_i xs hx
      obtain ⟨b, vs, h1, h2, h3⟩ := hs.lst hx
      rw [ha] at h1
      cases h1
      cases ru
      obtain ⟨its, rv, pl, _⟩ := I1.list (SqL.of h2)
      refine wpAny_pyIter_list pl.isList ?_
      exact ⟨_, [s1.heap.objs.size], _, _, H1, rfl, I1.kept (t' := s1.toks) fun _ _ e => Heap.get?_push_of_some _ e, L2.turn_list a _, ⟨_, Heap.get?_push_size _ rfl, rfl, rfl⟩, new, k _ _ _ _ _ _ e1 hs (yields_list (S := S1) ha) q⟩
    · exact q.elim
  | _ => exact (show False from q).elim
theorem di_r1 (hg : L2.Gl X "range") (hm : X.mg "range" = none) (ha : PE X a (teOf X.K wa)) (h1 : starEach [a] X.env = [(false, eval a X.env)] := by rfl) : PI X tg (.Call (.Name "range" p) [a] [] pos) (tiOf X.K (wR1 wa)) :=
  piI (L2.pi_range1 hg hm (da_cons ha da_nil h1) h1) fun σ H Q ⟨ρ, S, m, R, hE, hS, h, k⟩ => ⟨ρ, S, m, fun ds S1 => match ds with
    | [.int j] => smallI j ∧ R (rangeD 0 j) (fun _ => True) S1
    | _ => False, hE, hS, (by
      show wa ρ S _
      refine cast (congrArg (wa ρ S) ?_) h
      funext x S1
      cases x <;> rfl), fun vs ds H' S' m' e s r q => by
      match ds, q, r with
      | [.int j], ⟨⟨q1, q2⟩, q3⟩, ⟨v, r', hv, rv, rn⟩ =>
        rw [show r' = [] from rn] at hv
        refine ⟨j, by rw [hv, show v = V.int j from rv], q1, q2, ?_⟩
        have y := yields_rng (K := X.K) (m := m') (H := H') (lo := 0) (hi := j)
        rw [show j - 0 = j by omega] at y
        exact k _ _ _ _ _ _ e s y q3⟩
theorem di_r2 (hg : L2.Gl X "range") (hm : X.mg "range" = none) (ha : PE X a (teOf X.K wa)) (hb : PE X b (teOf X.K wb)) (h1 : starEach [a, b] X.env = [(false, eval a X.env), (false, eval b X.env)] := by rfl) (h2 : starEach [b] X.env = [(false, eval b X.env)] := by rfl) : PI X tg (.Call (.Name "range" p) [a, b] [] pos) (tiOf X.K (wR2 wa wb)) :=
  piI (L2.pi_range2 hg hm (da_cons ha (da_cons hb da_nil h2) (by rw [h1, h2])) h1 h2) fun σ H Q ⟨ρ, S, m, R, hE, hS, h, k⟩ => ⟨ρ, S, m, fun ds S1 => match ds with
    | [.int i, .int j] => smallI i ∧ smallI j ∧ R (rangeD i j) (fun _ => True) S1
    | _ => False, hE, hS, (by
      show wa ρ S _
      refine cast (congrArg (wa ρ S) ?_) h
      funext x S1
      show wb ρ S1 _ = wb ρ S1 _
      refine congrArg (wb ρ S1) ?_
      funext y S2
      cases x <;> cases y <;> rfl), fun vs ds H' S' m' e s r q => by
      match ds, q, r with
      | [.int i, .int j], ⟨⟨q1, q2⟩, ⟨q3, q4⟩, q5⟩, ⟨v, r', hv, rv, ⟨v2, r2, hv2, rv2, rn⟩⟩ =>
        rw [show r2 = [] from rn] at hv2
        rw [hv2] at hv
        exact ⟨i, j, by rw [hv, show v = V.int i from rv, show v2 = V.int j from rv2], ⟨q1, q2, q3, q4⟩, k _ _ _ _ _ _ e s yields_rng q5⟩⟩

/-! ### targets -/
theorem wipe_get (σ : St) : ∀ (vs : List Nat) (j : Nat), (L2.wipe σ vs)[j]? = if j ∈ vs then (if j < σ.length then some none else none) else σ[j]?
  | [], j => by simp [L2.wipe]
  | v :: vs, j => by
    unfold L2.wipe
    by_cases h : j = v
    · subst h
      rw [List.getElem?_set]
      simp [L2.wipe_length]
    · rw [List.getElem?_set_ne (Ne.symm h), wipe_get σ vs j]
      simp [h]
theorem wipe_set {σ : St} {i : Nat} {x : Option V} {vs : List Nat} (h : i ∈ vs) : L2.wipe (σ.set i x) vs = L2.wipe σ vs := by
  apply List.ext_getElem?
  intro j
  rw [wipe_get, wipe_get, List.length_set]
  by_cases hj : j ∈ vs
  · rw [if_pos hj, if_pos hj]
  · rw [if_neg hj, if_neg hj, List.getElem?_set_ne]
    intro z
    exact hj (z ▸ h)
theorem RepE.wipe {K : PySem.W.Frag} {H : Hp} {m : List Addr} {ρ : Env} {σ : St} (r : RepE K H m ρ σ) : ∀ vs : List Nat, RepE K H m (wipe ρ vs) (L2.wipe σ vs)
  | [] => r
  | v :: vs => (RepE.wipe r vs).drop1 v
theorem dg_name (i : Nat) {x : Str} (hN : X.N.Nodup) (hi : X.N[i]? = some x := by rfl) (hx : L2.Loc X.env.scope x := by first | exact Or.inl rfl | exact Or.inr rfl) (hf : X.fn x = true ∨ X.env.scope.names.lookup x = some .local := by first | exact .inl rfl | exact .inr rfl | assumption) : PG X (.Name x pos) (tgOf X.K [i] (gN i)) :=
  pgI (L2.pg_name hN hi hx hf) fun v σ H Q ⟨d, ρ, S, m, R, hE, hS, r, h, k⟩ => k _ _ _ _ _ (wipe_set (List.mem_singleton.mpr rfl)) (Ext.refl _ _) hS (hE.set r i) h
/-- several names -/
inductive Gs (X : Cx) : List Expr → List Nat → Prop where
  | nil : Gs X [] []
  | cons {e : Expr} {es : List Expr} {i : Nat} {is : List Nat} : PG X e (L2.gName i) → (assignEach (e :: es) X.env).map (·.2) = assign e X.env :: (assignEach es X.env).map (·.2) → Gs X es is → Gs X (e :: es) (i :: is)
theorem dgs_one (i : Nat) {x : Str} {es : List Expr} {is : List Nat} (hN : X.N.Nodup) (r : Gs X es is) (hi : X.N[i]? = some x := by rfl) (hx : L2.Loc X.env.scope x := by first | exact Or.inl rfl | exact Or.inr rfl) (hf : X.fn x = true ∨ X.env.scope.names.lookup x = some .local := by first | exact .inl rfl | exact .inr rfl | assumption)
    (hs : (assignEach (.Name x pos :: es) X.env).map (·.2) = assign (.Name x pos) X.env :: (assignEach es X.env).map (·.2) := by rfl) : Gs X (.Name x pos :: es) (i :: is) := .cons (L2.pg_name hN hi hx hf) hs r
/-- the layer's reading of several names -/
def tgs : List Nat → L2.TGs
  | [] => L2.gNil
  | i :: is => L2.gCons (L2.gName i) (tgs is)
theorem pgs_of {es : List Expr} {is : List Nat} (g : Gs X es is) : L2.PGs X es (tgs is) := by
  induction g with
  | nil => exact L2.pgs_nil
  | cons h hs _ ih => exact L2.pgs_cons h ih hs
theorem tgs_run {K : PySem.W.Frag} {H : Hp} {m : List Addr} {vs0 : List Nat} : ∀ (is : List Nat) (ds : List D) (vs : List V) (ρ ρ' : Env) (σ : St) (Q : St → Hp → Prop), Reps K H m ds vs → RepE K H m ρ σ → gNs is ds ρ = some ρ' → (∀ i ∈ is, i ∈ vs0) →
    (∀ σ', L2.wipe σ' vs0 = L2.wipe σ vs0 → RepE K H m ρ' σ' → Q σ' H) → tgs is vs σ H Q
  | [], [], vs, ρ, ρ', σ, Q, r, hE, h, _, k => by
    have h : some ρ = some ρ' := h
    cases h
    exact ⟨r, k σ rfl hE⟩
  | i :: is, d :: ds, vs, ρ, ρ', σ, Q, ⟨v, rr, hv, r1, r2⟩, hE, h, hi, k =>
    ⟨v, rr, hv, tgs_run is ds rr (up ρ i (some d)) ρ' (σ.set i (some v)) Q r2 (hE.set r1 i) h (fun j hj => hi j (List.mem_cons_of_mem _ hj)) fun σ' w e => k σ' (by rw [w, wipe_set (hi i List.mem_cons_self)]) e⟩
  | [], d :: ds, _, _, _, _, _, _, _, h, _, _ => by cases (show (none : Option Env) = some _ from h)
  | i :: is, [], _, _, _, _, _, _, _, h, _, _ => by cases (show (none : Option Env) = some _ from h)
theorem gNs_len : ∀ (is : List Nat) (ds : List D) (ρ ρ' : Env), gNs is ds ρ = some ρ' → ds.length = is.length
  | [], [], _, _, _ => rfl
  | _ :: is, _ :: ds, ρ, ρ', h => by rw [List.length_cons, List.length_cons, gNs_len is ds _ ρ' h]
  | [], _ :: _, _, _, h => by cases (show (none : Option Env) = some _ from h)
  | _ :: _, [], _, _, h => by cases (show (none : Option Env) = some _ from h)
theorem dg_tup {es : List Expr} {k : Nat} {is : List Nat} (hc : X.calm = true) (g : Gs X es is) (hn : (assignEach es X.env).length = is.length := by rfl) (hst : (assignEach es X.env).findIdx? (·.1) = none := by rfl) : PG X (.Tuple es k pos) (tgOf X.K is (gT is)) :=
  pgI (L2.pg_tup hc (pgs_of g) hn hst) fun v σ H Q ⟨d, ρ, S, m, R, hE, hS, r, h, kk⟩ => by
    cases d with
    | tup ds =>
      obtain ⟨a, vs, rfl, hT, rs⟩ := r
      have h : (match gNs is ds ρ with
        | some ρ' => R ρ' S
        | none => False) := h
      split at h
      · rename_i ρ' hg
        exact ⟨a, vs, rfl, hT.sqT, by rw [rs.len, gNs_len _ _ _ _ hg], tgs_run is ds vs ρ ρ' σ Q rs hE hg (fun _ h => h) fun σ' w e => kk σ' ρ' S m H w (Ext.refl _ _) hS e h⟩
      · exact h.elim
    | _ => exact (show False from h).elim

/-! ### statements -/
variable {e : Expr} {st : Stmt} {rest : List Stmt} {ws wu : WS}
theorem dss_nil : PSs X [] (tsOf X.K sNext) := pssI L2.pss_nil fun D σ H ⟨ρ, S, m, E, hE, hS, h, k, _⟩ => k σ ρ H S m (Ext.refl _ _) hS hE h
theorem dss_cons (h1 : PS X st (tsOf X.K ws)) (h2 : PSs X rest (tsOf X.K wu)) : PSs X (st :: rest) (tsOf X.K (sSeq ws wu)) :=
  pssI (L2.pss_cons h1 h2) fun D σ H ⟨ρ, S, m, E, hE, hS, h, k1, k2, k3, k4⟩ => ⟨ρ, S, m, { E with nx := wu E }, hE, hS, h, fun σ' ρ' H' S' m' e s r q =>
    ⟨ρ', S', m', E, r, s, q, fun σ2 ρ2 H2 S2 m2 e2 s2 r2 q2 => k1 σ2 ρ2 H2 S2 m2 (e.trans e2) s2 r2 q2, k2.ext e, fun σ2 ρ2 H2 S2 m2 e2 s2 r2 q2 => k3 σ2 ρ2 H2 S2 m2 (e.trans e2) s2 r2 q2, fun σ2 ρ2 H2 S2 m2 e2 s2 r2 q2 => k4 σ2 ρ2 H2 S2 m2 (e.trans e2) s2 r2 q2⟩, k2, k3, k4⟩
theorem dss_one (h1 : PS X st (tsOf X.K ws)) : PSs X [st] (tsOf X.K ws) := L2.pss_one h1
theorem ds_pass : PS X (.Pass pos) (tsOf X.K sNext) := psI L2.ps_pass fun D σ H ⟨ρ, S, m, E, hE, hS, h, k, _⟩ => k σ ρ H S m (Ext.refl _ _) hS hE h
theorem ds_break : PS X (.Break pos) (tsOf X.K sBreak) := psI L2.ps_break fun D σ H ⟨ρ, S, m, E, hE, hS, h, _, _, k, _⟩ => k σ ρ H S m (Ext.refl _ _) hS hE h
theorem ds_continue : PS X (.Continue pos) (tsOf X.K sCont) := psI L2.ps_continue fun D σ H ⟨ρ, S, m, E, hE, hS, h, _, _, _, k⟩ => k σ ρ H S m (Ext.refl _ _) hS hE h
theorem ds_expr (he : PE X e (teOf X.K wa)) (hs : swapsWith e none pos.line X.env = pure false := by rfl) : PS X (.Expr e pos) (tsOf X.K (sDrop wa)) :=
  psI (L2.ps_expr he hs) fun D σ H ⟨ρ, S, m, E, hE, hS, h, k, _⟩ => ⟨ρ, S, m, _, hE, hS, h, fun v d H1 S1 m1 e1 s1 r1 q1 => k σ ρ H1 S1 m1 e1 s1 (hE.ext e1) q1⟩
theorem ds_ret (he : PE X e (teOf X.K wa)) : PS X (.Return (some e) pos) (tsOf X.K (sRet wa)) :=
  psI (L2.ps_ret he) fun D σ H ⟨ρ, S, m, E, hE, hS, h, _, k, _⟩ => ⟨ρ, S, m, E.rt, hE, hS, h, k⟩
theorem ds_retN : PS X (.Return none pos) (tsOf X.K sRetN) :=
  psI L2.ps_retN fun D σ H ⟨ρ, S, m, E, hE, hS, h, _, k, _⟩ => k _ .non H S m (Ext.refl _ _) hS rfl h
theorem ds_if {c : Expr} {a b : List Stmt} {tc : WT} (hc : PT X c (ttOf X.K tc)) (ha : PSs X a (tsOf X.K ws)) (hb : PSs X b (tsOf X.K wu)) : PS X (.If c a b pos) (tsOf X.K (sIf tc ws wu)) :=
  psI (L2.ps_if hc ha hb) fun D σ H ⟨ρ, S, m, E, hE, hS, h, k1, k2, k3, k4⟩ => ⟨ρ, S, m, _, hE, hS, h, fun c H1 S1 m1 e1 s1 q => by
    have q : if c = true then ws E ρ S1 else wu E ρ S1 := q
    have go : ∀ w : WS, w E ρ S1 → tsOf X.K w D σ H1 := fun w q => ⟨ρ, S1, m1, E, hE.ext e1, s1, q, fun σ2 ρ2 H2 S2 m2 e2 s2 r2 q2 => k1 σ2 ρ2 H2 S2 m2 (e1.trans e2) s2 r2 q2, k2.ext e1, fun σ2 ρ2 H2 S2 m2 e2 s2 r2 q2 => k3 σ2 ρ2 H2 S2 m2 (e1.trans e2) s2 r2 q2, fun σ2 ρ2 H2 S2 m2 e2 s2 r2 q2 => k4 σ2 ρ2 H2 S2 m2 (e1.trans e2) s2 r2 q2⟩
    show if c = true then tsOf X.K ws D σ H1 else tsOf X.K wu D σ H1
    by_cases hb : c = true
    · rw [if_pos hb] at q ⊢
      exact go _ q
    · rw [if_neg hb] at q ⊢
      exact go _ q⟩
theorem ds_never : PS X st (tsOf X.K sNever) := psI L2.ps_never fun D σ H ⟨ρ, S, m, E, hE, hS, h, _⟩ => h
theorem dss_never {sts : List Stmt} : PSs X sts (tsOf X.K sNever) := pssI L2.pss_never fun D σ H ⟨ρ, S, m, E, hE, hS, h, _⟩ => h
theorem ds_asg {tg : Expr} {vs : List Nat} {g : WG} (he : PE X e (teOf X.K wa)) (hg : PG X tg (tgOf X.K vs g)) (hs : swapsWithSole [tg] e pos.line X.env = pure false := by rfl) (hw : swappedStores [tg] e X.env = pure none := by rfl)
    (h1 : (assignEach [tg] X.env).map (·.2) = [assign tg X.env] := by rfl) : PS X (.Assign [tg] e pos) (tsOf X.K (sAsg wa g)) :=
  psI (L2.ps_asg he hg hs hw h1) fun D σ H ⟨ρ, S, m, E, hE, hS, h, k, _⟩ => ⟨ρ, S, m, _, hE, hS, h, fun v d H1 S1 m1 e1 s1 r1 q1 => ⟨d, ρ, S1, m1, E.nx, hE.ext e1, s1, r1, q1, fun σ' ρ' S' m' H' _ e2 s2 r2 q2 => k σ' ρ' H' S' m' (e1.trans e2) s2 r2 q2⟩⟩
theorem ds_set (i : Nat) {x : Str} {pos' : Pos} (hN : X.N.Nodup) (he : PE X e (teOf X.K wa)) (hi : X.N[i]? = some x := by rfl) (hx : L2.Loc X.env.scope x := by first | exact Or.inl rfl | exact Or.inr rfl) (hs : swapsWith e (some (.Name x pos')) pos.line X.env = pure false := by rfl)
    (hf : X.fn x = true ∨ X.env.scope.names.lookup x = some .local := by first | exact .inl rfl | exact .inr rfl | assumption) : PS X (.Assign [.Name x pos'] e pos) (tsOf X.K (sAsg wa (gN i))) :=
  psI (L2.ps_set hN hi hx he hs hf) fun D σ H ⟨ρ, S, m, E, hE, hS, h, k, _⟩ => ⟨ρ, S, m, _, hE, hS, h, fun v d H1 S1 m1 e1 s1 r1 q1 => k _ _ H1 S1 m1 e1 s1 ((hE.ext e1).set r1 i) q1⟩
theorem ds_par (i j : Nat) {x y : Str} {px py pt : Pos} {kt k2 pt2} (hc : X.calm = true) (hN : X.N.Nodup) (ha : PE X a (teOf X.K wa)) (hb : PE X b (teOf X.K wb)) (hi : X.N[i]? = some x := by rfl) (hj : X.N[j]? = some y := by rfl) (hij : i ≠ j := by decide)
    (hx : X.env.scope.names.lookup x = some .local := by rfl) (hy : X.env.scope.names.lookup y = some .local := by rfl)
    (hw : swappedStores [.Tuple [.Name x px, .Name y py] kt pt] (.Tuple [a, b] k2 pt2) X.env = pure (some [x, y]) := by rfl)
    (hs : swapsWithSole [.Tuple [.Name x px, .Name y py] kt pt] (.Tuple [a, b] k2 pt2) pos.line X.env = pure false := by rfl)
    (e1 : starEach [a, b] X.env = (false, eval a X.env) :: starEach [b] X.env := by rfl) (e2 : starEach [b] X.env = (false, eval b X.env) :: starEach [] X.env := by rfl) :
    PS X (.Assign [.Tuple [.Name x px, .Name y py] kt pt] (.Tuple [a, b] k2 pt2) pos) (tsOf X.K (sPar i j wa wb)) :=
  psI (L2.ps_par hc hN hi hj hij hx hy (da_cons ha (da_cons hb da_nil e2) e1) hw hs) fun D σ H ⟨ρ, S, m, E, hE, hS, h, k, _⟩ =>
    ⟨ρ, S, m, fun ds S2 => match ds with
      | [d, d2] => E.nx (up (up ρ i (some d)) j (some d2)) S2
      | _ => False, hE, hS, h, fun vs ds H2 S2 m2 e s r q => by
      match ds, q, r with
      | [d, d2], q, ⟨v, r', hv, rv, ⟨v2, r2, hv2, rv2, rn⟩⟩ =>
        rw [show r2 = [] from rn] at hv2
        rw [hv2] at hv
        exact ⟨v, v2, hv, k _ _ H2 S2 m2 e s (((hE.ext e).set rv i).set rv2 j) q⟩⟩
theorem ds_aug (i : Nat) {x : Str} {op : Operator} {r : R2} {pos' : Pos} (hN : X.N.Nodup) (ho : OpR X (inplaceOp op) (r2Of X.K r)) (he : PE X e (teOf X.K wa)) (hi : X.N[i]? = some x := by rfl) (hx : L2.Loc X.env.scope x := by first | exact Or.inl rfl | exact Or.inr rfl)
    (hf : X.fn x = true ∨ X.env.scope.names.lookup x = some .local := by first | exact .inl rfl | exact .inr rfl | assumption) : PS X (.AugAssign (.Name x pos') op e pos) (tsOf X.K (sAug i wa r)) :=
  psI (L2.ps_aug hN hi hx he ho hf) fun D σ H ⟨ρ, S, m, E, hE, hS, h, k, _⟩ => by
    unfold sAug at h
    cases el : lk ρ i with
    | none => rw [el] at h; exact h.elim
    | some d =>
      rw [el] at h
      obtain ⟨v, h1, h2⟩ := hE.get i d el
      exact ⟨v, h1, ρ, S, m, _, hE, hS, h, fun u y H1 S1 m1 e1 s1 r1 q1 => ⟨m1, S1, d, y, _, s1, Rep.ext e1 _ _ h2, r1, q1, fun w z H2 S2 m2 e2 s2 r2 q2 => k _ _ H2 S2 m2 (e1.trans e2) s2 ((hE.ext (e1.trans e2)).set r2 i) q2⟩⟩
def rpOf (K : PySem.W.Frag) (r : D → D → D → Sto → (Sto → Prop) → Prop) : V → V → V → Hp → (Hp → Prop) → Prop := fun o i v H Q => ∃ m S x k d R, RepS K H m S ∧ Rep K H m x o ∧ Rep K H m k i ∧ Rep K H m d v ∧ r x k d S R ∧
  ∀ H' S' m', Ext m H m' H' → RepS K H' m' S' → R S' → Q H'
theorem ds_sub {o i : Expr} {wo wi : WE} {r : D → D → D → Sto → (Sto → Prop) → Prop} {spos : Pos} (hp : L2.PSet X (rpOf X.K r)) (he : PE X e (teOf X.K wa)) (ho : PE X o (teOf X.K wo)) (hi : PE X i (teOf X.K wi))
    (ha : ∀ v, assign (.Subscript o i spos) X.env v = (do
      let ov ← holding [v] (eval o X.env)
      let iv ← holding [v, ov] (eval i X.env)
      standAt spos
      holding [v, ov, iv] (setItem ov iv v)
      release [v, ov, iv] []) := by intro _; rfl)
    (hs : swapsWithSole [.Subscript o i spos] e pos.line X.env = pure false := by rfl) (hw : swappedStores [.Subscript o i spos] e X.env = pure none := by rfl)
    (h1 : (assignEach [.Subscript o i spos] X.env).map (·.2) = [assign (.Subscript o i spos) X.env] := by rfl) : PS X (.Assign [.Subscript o i spos] e pos) (tsOf X.K (sSub r wa wo wi)) :=
  psI (L2.ps_asg he (L2.pg_sub ho hi hp ha) hs hw h1) fun D σ H ⟨ρ, S, m, E, hE, hS, h, k, _⟩ => ⟨ρ, S, m, _, hE, hS, h, fun v d H1 S1 m1 e1 s1 r1 q1 => ⟨ρ, S1, m1, _, hE.ext e1, s1, q1, fun v2 x H2 S2 m2 e2 s2 r2 q2 =>
    ⟨ρ, S2, m2, _, hE.ext (e1.trans e2), s2, q2, fun v3 j H3 S3 m3 e3 s3 r3 q3 => ⟨m3, S3, x, j, d, _, s3, Rep.ext e3 _ _ r2, r3, Rep.ext (e2.trans e3) _ _ r1, q3, fun H4 S4 m4 e4 s4 q4 =>
      k σ ρ H4 S4 m4 (e1.trans (e2.trans (e3.trans e4))) s4 (hE.ext (e1.trans (e2.trans (e3.trans e4)))) q4⟩⟩⟩⟩
def rgOf (K : PySem.W.Frag) (r : R2) : V → V → Hp → L2.VK → Prop := r2Of K r
theorem ds_augSub {o i : Expr} {wo wi : WE} {rg ro : R2} {rs : D → D → D → Sto → (Sto → Prop) → Prop} {op : Operator} {spos : Pos} (hg : L2.PGet X (r2Of X.K rg)) (hop : OpR X (inplaceOp op) (r2Of X.K ro)) (hp : L2.PSet X (rpOf X.K rs))
    (ho : PE X o (teOf X.K wo)) (hi : PE X i (teOf X.K wi)) (he : PE X e (teOf X.K wa))
    (ha : ∀ ov iv new, augStore i ov iv new = (do holding [new, ov, iv] (setItem ov iv new); release [new, ov, iv] []; pure .next) := by intros; rfl) :
    PS X (.AugAssign (.Subscript o i spos) op e pos) (tsOf X.K (sAugSub rg ro rs wo wi wa)) :=
  psI (L2.ps_augS ho hi hg he hop hp ha) fun D σ H ⟨ρ, S, m, E, hE, hS, h, k, _⟩ => ⟨ρ, S, m, _, hE, hS, h, fun v x H1 S1 m1 e1 s1 r1 q1 => ⟨ρ, S1, m1, _, hE.ext e1, s1, q1, fun v2 j H2 S2 m2 e2 s2 r2 q2 =>
    ⟨m2, S2, x, j, _, s2, Rep.ext e2 _ _ r1, r2, q2, fun v3 z H3 S3 m3 e3 s3 r3 q3 => ⟨ρ, S3, m3, _, hE.ext (e1.trans (e2.trans e3)), s3, q3, fun v4 y H4 S4 m4 e4 s4 r4 q4 => ⟨m4, S4, z, y, _, s4, Rep.ext e4 _ _ r3, r4, q4, fun v5 u H5 S5 m5 e5 s5 r5 q5 =>
      ⟨m5, S5, x, j, u, _, s5, Rep.ext (e2.trans (e3.trans (e4.trans e5))) _ _ r1, Rep.ext (e3.trans (e4.trans e5)) _ _ r2, r5, q5, fun H6 S6 m6 e6 s6 q6 =>
        k σ ρ H6 S6 m6 (e1.trans (e2.trans (e3.trans (e4.trans (e5.trans e6))))) s6 (hE.ext (e1.trans (e2.trans (e3.trans (e4.trans (e5.trans e6)))))) q6⟩⟩⟩⟩⟩⟩

/-! ### loops -/
theorem ds_for {iter : Expr} {body : List Stmt} {wi : WI} {vs : List Nat} {g : WG} (hc : X.calm = true) (hp : PassesOwn (model X.prog X.w) X.A X.env X.xe) (hi : PI X tg iter (tiOf X.K wi)) (hg : PG X tg (tgOf X.K vs g)) (hb : PSs X body (tsOf X.K ws))
    (hs : ∀ x, foldedSetIterable iter X.env x = pure x := by intro _; rfl) : PS X (.For tg iter body [] pos) (tsOf X.K (sFor wi g ws)) :=
  psI (L2.ps_for hp hc hi hg hb hs) fun D σ H ⟨ρ, S, m, E, hE, hS, h, k1, k2, k3, k4⟩ => ⟨ρ, S, m, _, hE, hS, h, fun J items guard S1 m1 H1 e1 s1 y ⟨I, i0, ig, it, ie⟩ => by
    refine ⟨fun i n σ' H' => n = items.length - i ∧ ∃ ρ' S' m', Ext m1 H1 m' H' ∧ RepS X.K H' m' S' ∧ RepE X.K H' m' ρ' σ' ∧ I i ρ' S' ∧ i ≤ items.length, ⟨_, rfl, ρ, S1, m1, Ext.refl _ _, s1, hE.ext e1, i0, Nat.zero_le _⟩, ?_⟩
    rintro i n σ2 H2 ⟨hn, ρ2, S2, m2, e2, s2, r2, hI, hle⟩
    obtain ⟨yg, ys⟩ := y m2 H2 S2 e2 s2 (ig _ _ _ hI)
    by_cases hlt : i < items.length
    · obtain ⟨go, yd⟩ := yg i items[i] (List.getElem?_eq_getElem hlt)
      refine .inr ⟨go, fun σ' H' => ∃ ρ' S' m', Ext m1 H1 m' H' ∧ RepS X.K H' m' S' ∧ RepE X.K H' m' ρ' σ' ∧ I (i + 1) ρ' S', fun σ' H' ⟨ρ', S', m', e', s', r', hI'⟩ => ⟨_, by omega, rfl, ρ', S', m', e', s', r', hI', hlt⟩, fun x H' hy => ?_⟩
      obtain ⟨m3, e3, s3, rx⟩ := yd x H' hy
      refine ⟨items[i], ρ2, S2, m3, _, r2.ext e3, s3, rx, it i _ ρ2 S2 (List.getElem?_eq_getElem hlt) hI, fun σ4 ρ4 S4 m4 H4 _ e4 s4 r4 q4 => ⟨ρ4, S4, m4, _, r4, s4, q4, fun σ5 ρ5 H5 S5 m5 e5 s5 r5 q5 => ⟨ρ5, S5, m5, e2.trans (e3.trans (e4.trans e5)), s5, r5, q5⟩,
        (k2.ext (e1.trans (e2.trans (e3.trans e4)))), fun σ5 ρ5 H5 S5 m5 e5 s5 r5 q5 => k1 σ5 ρ5 H5 S5 m5 (e1.trans (e2.trans (e3.trans (e4.trans e5)))) s5 r5 q5, fun σ5 ρ5 H5 S5 m5 e5 s5 r5 q5 => ⟨ρ5, S5, m5, e2.trans (e3.trans (e4.trans e5)), s5, r5, q5⟩⟩⟩
    · have ei : i = items.length := by omega
      subst ei
      exact .inl ⟨ys _ (Nat.le_refl _), k1 σ2 ρ2 H2 S2 m2 (e1.trans e2) s2 r2 (ie _ _ hI)⟩⟩
theorem ds_while {c : Expr} {body : List Stmt} {tc : WT} (hp : PassesOwn (model X.prog X.w) X.A X.env X.xe) (hc : PT X c (ttOf X.K tc)) (hb : PSs X body (tsOf X.K ws)) : PS X (.While c body [] pos) (tsOf X.K (sWhile tc ws)) :=
  psI (L2.ps_while hp hc hb) fun D σ H ⟨ρ, S, m, E, hE, hS, ⟨I, ⟨n0, i0⟩, it⟩, k1, k2, k3, k4⟩ => by
    refine ⟨fun n σ' H' => ∃ ρ' S' m', Ext m H m' H' ∧ RepS X.K H' m' S' ∧ RepE X.K H' m' ρ' σ' ∧ I n ρ' S', ⟨n0, ρ, S, m, Ext.refl _ _, hS, hE, i0⟩, ?_⟩
    rintro n σ2 H2 ⟨ρ2, S2, m2, e2, s2, r2, hI⟩
    refine ⟨ρ2, S2, m2, _, r2, s2, it n ρ2 S2 hI, fun b H3 S3 m3 e3 s3 q => ?_⟩
    by_cases hbt : b = true
    · rw [if_pos hbt] at q ⊢
      refine ⟨fun σ' H' => ∃ n', n' < n ∧ ∃ ρ' S' m', Ext m H m' H' ∧ RepS X.K H' m' S' ∧ RepE X.K H' m' ρ' σ' ∧ I n' ρ' S', fun σ' H' h => h, ρ2, S3, m3, _, r2.ext e3, s3, q, fun σ5 ρ5 H5 S5 m5 e5 s5 r5 ⟨n', hn, q5⟩ => ⟨n', hn, ρ5, S5, m5, e2.trans (e3.trans e5), s5, r5, q5⟩,
        k2.ext (e2.trans e3), fun σ5 ρ5 H5 S5 m5 e5 s5 r5 q5 => k1 σ5 ρ5 H5 S5 m5 (e2.trans (e3.trans e5)) s5 r5 q5, fun σ5 ρ5 H5 S5 m5 e5 s5 r5 ⟨n', hn, q5⟩ => ⟨n', hn, ρ5, S5, m5, e2.trans (e3.trans e5), s5, r5, q5⟩⟩
    · rw [if_neg hbt] at q ⊢
      exact k1 σ2 ρ2 H3 S3 m3 (e2.trans e3) s3 (r2.ext e3) q
end
end DL
set_option Elab.async false
set_option linter.all false
set_option maxRecDepth 100000
set_option maxHeartbeats 4000000
/-! DL4: comprehensions, defs, the script. -/
namespace DL
open PySem PySem.Spec
open L2 (V Hp HO St TE TT TA TS TG TI TO PE PT PW PA PS PSs PG PI PO Cx Inv RelV Vals SqL SqT Rd upd upd_same upd_ne ne_of ne_of_none OpR UnR CallR MtR IxR SlR It thn)
section
variable {K : PySem.W.Frag} {m m' m1 : List Addr} {H H' H1 : Hp} {S S' : Sto}
/-- places stay, all but lists stay -/
structure Ex0 (m : List Addr) (H : Hp) (m' : List Addr) (H' : Hp) : Prop where
  pre : ∀ (n : Nat) (a : Addr), m[n]? = some a → m'[n]? = some a
  lst : ∀ (b : Addr) (o : HO), H b = some o → mutO o = false → H' b = some o
theorem Ex0.sqT (e : Ex0 m H m' H') {a : Addr} {vs : List V} (h : SqT K H a vs) : SqT K H' a vs := by
  rcases h with (h | ⟨o, h⟩) | h
  · exact .inl (.inl (e.lst _ _ h rfl))
  · exact .inl (.inr ⟨o, e.lst _ _ h rfl⟩)
  · exact .inr h
theorem Ex0.sqK (e : Ex0 m H m' H') {a : Addr} {vs : List V} (h : SqK K H a vs) : SqK K H' a vs := by
  rcases h with h | ⟨h1, h2⟩
  · exact .inl (e.lst _ _ h rfl)
  · exact .inr ⟨h1, e.sqT h2⟩
theorem Ex0.ro (e : Ex0 m H m' H') {a : Addr} {vs : List V} (h : RoL K H a vs) : RoL K H' a vs := by
  rcases h with ⟨o, h⟩ | h
  · exact .inl ⟨o, e.lst _ _ h rfl⟩
  · exact .inr h
mutual
theorem Rep.ext0 (e : Ex0 m H m' H') : ∀ (d : D) (v : V), Rep K H m d v → Rep K H' m' d v
  | .non, _, h => h
  | .bl _, _, h => h
  | .int _, _, h => h
  | .str _, _, h => h
  | .ty _, _, h => h
  | .ref _, _, ⟨a, h1, h2⟩ => ⟨a, e.pre _ _ h1, h2⟩
  | .tup ds, _, ⟨a, vs, h1, h2, h3⟩ => ⟨a, vs, h1, e.sqK h2, Reps.ext0 e ds vs h3⟩
  | .rol ds, _, ⟨a, vs, h1, h2, h3⟩ => ⟨a, vs, h1, e.ro h2, Reps.ext0 e ds vs h3⟩
theorem Reps.ext0 (e : Ex0 m H m' H') : ∀ (ds : List D) (vs : List V), Reps K H m ds vs → Reps K H' m' ds vs
  | [], _, h => h
  | d :: ds, _, ⟨v, r, h1, h2, h3⟩ => ⟨v, r, h1, Rep.ext0 e d v h2, Reps.ext0 e ds r h3⟩
end
/-- a list beside the store is written -/
theorem Ex0.side {a : Addr} {vs us : List V} (h : H a = some (.lst vs)) : Ex0 m H m (upd H a (.lst us)) where
  pre := fun _ _ h => h
  lst := fun b o q hl => by
    have hne : b ≠ a := fun z => by
      rw [z, h] at q
      rw [← Option.some.inj q] at hl
      cases hl
    rw [upd_ne hne]
    exact q
theorem RepO.ext0 {o : O} {a : Addr} (e : Ex0 m H m' H') (r : RepO K H m o a) (hk : H' a = H a) : RepO K H' m' o a := by
  cases o with
  | lst ds => obtain ⟨vs, h1, h2⟩ := r; exact ⟨vs, hk.trans h1, Reps.ext0 e _ _ h2⟩
  | dK ds => obtain ⟨vs, h1, h2, h3⟩ := r; exact ⟨vs, hk.trans h1, h2, Reps.ext0 e _ _ h3⟩
  | dT ds => obtain ⟨vs, h1, h2, h3⟩ := r; exact ⟨vs, hk.trans h1, h2, Reps.ext0 e _ _ h3⟩
theorem RepS.side {a : Addr} {vs us : List V} (s : RepS K H m S) (h : H a = some (.lst vs)) (hn : a ∉ m) : RepS K (upd H a (.lst us)) m S where
  len := s.len
  nd := s.nd
  obj := fun n o e => by
    obtain ⟨b, h1, h2⟩ := s.obj n o e
    have hne : b ≠ a := fun z => hn (by rw [← z]; exact List.mem_of_getElem? h1)
    exact ⟨b, h1, h2.ext0 (Ex0.side h) (by rw [upd_ne hne])⟩
theorem Ext.side {a : Addr} {o : HO} (e : Ext m H m' H') (h : H a = none) (hn : a ∉ m') : Ext m H m' (upd H' a o) where
  pre := e.pre
  keep := fun b u q hb => by rw [upd_ne (ne_of_none q h)]; exact e.keep b u q hb
  new := e.new
  lst := fun b u q hl => by rw [upd_ne (ne_of_none q h)]; exact e.lst b u q hl
/-- a list beside the store stands -/
theorem Ext.own {a : Addr} {o : HO} (e : Ext m H m' H') (h : H a = some o) (hn : a ∉ m) : H' a = some o ∧ a ∉ m' :=
  ⟨e.keep a o h hn, fun z => by
    rcases e.new a z with q | q
    · exact hn q
    · rw [h] at q; cases q⟩
theorem Ext.adopt {a : Addr} (e : Ext m H m' H') (h : H a = none) : Ext m H (m' ++ [a]) H' where
  pre := fun n b q => by
    have z := e.pre n b q
    rw [List.getElem?_append_left (List.getElem?_eq_some_iff.mp z).1]
    exact z
  keep := e.keep
  new := fun b hb => by
    rcases List.mem_append.mp hb with z | z
    · exact e.new b z
    · rw [List.mem_singleton.mp z]; exact .inr h
  lst := e.lst
theorem RepS.adopt {a : Addr} {ds : List D} {vs : List V} (s : RepS K H m S) (h : H a = some (.lst vs)) (hn : a ∉ m) (r : Reps K H m ds vs) : RepS K H (m ++ [a]) (S ++ [.lst ds]) where
  len := by rw [List.length_append, List.length_append, s.len]; rfl
  nd := fun i j b h1 h2 => by
    have pos : ∀ (i : Nat) (b : Addr), (m ++ [a])[i]? = some b → (m[i]? = some b ∧ b ≠ a) ∨ (i = m.length ∧ b = a) := fun i b e => by
      by_cases hi : i < m.length
      · rw [List.getElem?_append_left hi] at e
        exact .inl ⟨e, fun z => hn (by rw [← z]; exact List.mem_of_getElem? e)⟩
      · have hi' := (List.getElem?_eq_some_iff.mp e).1
        rw [List.length_append] at hi'
        have : i = m.length := by simp at hi'; omega
        subst this
        simp at e
        exact .inr ⟨rfl, e.symm⟩
    rcases pos i b h1 with ⟨e1, n1⟩ | ⟨e1, n1⟩ <;> rcases pos j b h2 with ⟨e2, n2⟩ | ⟨e2, n2⟩
    · exact s.nd i j b e1 e2
    · exact absurd n2 n1
    · exact absurd n1 n2
    · rw [e1, e2]
  obj := fun n u e => by
    have ex : Ex0 m H (m ++ [a]) H := ⟨fun n b q => by rw [List.getElem?_append_left (List.getElem?_eq_some_iff.mp q).1]; exact q, fun _ _ q _ => q⟩
    by_cases hl : n < S.length
    · rw [List.getElem?_append_left hl] at e
      obtain ⟨b, h1, h2⟩ := s.obj n u e
      exact ⟨b, ex.pre _ _ h1, h2.ext0 ex rfl⟩
    · have hi' := (List.getElem?_eq_some_iff.mp e).1
      rw [List.length_append] at hi'
      have : n = S.length := by simp at hi'; omega
      subst this
      simp at e
      subst e
      exact ⟨a, by rw [← s.len]; simp, vs, h, Reps.ext0 ex _ _ r⟩
end
theorem wipe_idem (σ : St) (vs : List Nat) : L2.wipe (L2.wipe σ vs) vs = L2.wipe σ vs := by
  apply List.ext_getElem?
  intro j
  rw [wipe_get, wipe_get, L2.wipe_length]
  by_cases hj : j ∈ vs
  · rw [if_pos hj, if_pos hj]
  · rw [if_neg hj, if_neg hj]
theorem szL_eq : szL = sizeLine := by rfl
section
variable {X : Cx}
theorem dts_nil : L2.PTs X [] (ttOf X.K wtYes) := ⟨fun pins s σ H Q I ⟨ρ, S, m, R, hE, hS, h, k⟩ => L2.pts_nil.run pins s σ H Q I (k true H S m (Ext.refl _ _) hS h)⟩
theorem dts_one {c : Expr} {t : WT} (h : PT X c (ttOf X.K t)) : L2.PTs X [c] (ttOf X.K t) := L2.pts_one h
theorem lc_read {wi : WI} {g : WG} {tt : WT} {te : WE} {vs : List Nat} (K : PySem.W.Frag) (σ : St) (H : Hp) (Q : L2.VK) (h : teOf K (wLc wi g tt te vs) σ H Q) : L2.tLc (tiOf K wi) (tgOf K vs g) (ttOf K tt) (teOf K te) vs σ H Q := by
  obtain ⟨ρ, S, m, R, hE, hS, h, k⟩ := h
  refine ⟨ρ, S, m, _, hE, hS, h, fun J items guard S1 m1 H1 e1 s1 y ⟨hz, I, i0, ig, it, ie⟩ D hD => ?_⟩
  have nD := s1.notin hD
  refine ⟨fun i n H' => n = items.length - i ∧ ∃ S' m' acc av, Ext m1 H1 m' H' ∧ RepS K H' m' S' ∧ D ∉ m' ∧ H' D = some (.lst av) ∧ Reps K H' m' acc av ∧ acc.length ≤ i ∧ I i acc S' ∧ i ≤ items.length,
    ⟨_, rfl, S1, m1, [], [], Ext.fresh hD _, s1.fresh hD _, nD, upd_same, rfl, Nat.le_refl _, i0, Nat.zero_le _⟩, ?_⟩
  rintro i n H2 ⟨hn, S2, m2, acc, av, e2, s2, n2, a2, r2, hl, hI, hle⟩
  obtain ⟨yg, ys⟩ := y m2 H2 S2 e2 s2 (ig _ _ _ hI)
  by_cases hlt : i < items.length
  · obtain ⟨go, yd⟩ := yg i items[i] (List.getElem?_eq_getElem hlt)
    refine .inr ⟨go, fun H' => ∃ S' m' acc av, Ext m1 H1 m' H' ∧ RepS K H' m' S' ∧ D ∉ m' ∧ H' D = some (.lst av) ∧ Reps K H' m' acc av ∧ acc.length ≤ i + 1 ∧ I (i + 1) acc S', fun H' ⟨S', m', acc', av', q1, q2, q3, q4, q5, q6, q7⟩ => ⟨_, by omega, rfl, S', m', acc', av', q1, q2, q3, q4, q5, q6, q7, hlt⟩, fun x H' hy => ?_⟩
    obtain ⟨m3, e3, s3, rx⟩ := yd x H' hy
    obtain ⟨a3, n3⟩ := e3.own a2 n2
    refine ⟨items[i], wipe ρ vs, S2, m3, _, (hE.ext (e1.trans (e2.trans e3))).wipe vs, s3, rx, it i _ acc S2 (List.getElem?_eq_getElem hlt) hI, fun σ4 ρ4 S4 m4 H4 w4 e4 s4 r4 q4 => ⟨by rw [w4, wipe_idem], ρ4, S4, m4, _, r4, s4, q4, fun b H5 S5 m5 e5 s5 q5 => ?_⟩⟩
    obtain ⟨a4, n4⟩ := e4.own a3 n3
    obtain ⟨a5, n5⟩ := e5.own a4 n4
    by_cases hb : b = true
    · rw [if_pos hb] at q5 ⊢
      refine ⟨ρ4, S5, m5, _, r4.ext e5, s5, q5, fun v d H6 S6 m6 e6 s6 r6 q6 => ?_⟩
      obtain ⟨a6, n6⟩ := e6.own a5 n5
      have racc := Reps.ext (e3.trans (e4.trans (e5.trans e6))) _ _ r2
      refine ⟨av, a6, by rw [racc.len, ← szL_eq]; omega, S6, m6, acc ++ [d], av ++ [v], (e2.trans (e3.trans (e4.trans (e5.trans e6)))).side hD n6, s6.side a6 n6, n6, upd_same, ?_, by rw [List.length_append]; simp; omega, q6⟩
      exact Reps.app (Reps.ext0 (Ex0.side a6) _ _ racc) (Reps.one (Rep.ext0 (Ex0.side a6) _ _ r6))
    · rw [if_neg hb] at q5 ⊢
      exact ⟨S5, m5, acc, av, e2.trans (e3.trans (e4.trans e5)), s5, n5, a5, Reps.ext (e3.trans (e4.trans e5)) _ _ r2, by omega, by simpa using q5⟩
  · have ei : i = items.length := by omega
    subst ei
    refine .inl ⟨ys _ (Nat.le_refl _), k _ (.ref S2.length) H2 (S2 ++ [.lst acc]) (m2 ++ [D]) (e1.trans (e2.adopt hD)) (s2.adopt a2 n2 r2) ⟨D, by rw [← s2.len]; simp, rfl⟩ (ie _ _ hI)⟩
theorem d_lc {elt tg iter : Expr} {ifs : List Expr} {scope : Scope} {own : List (Str × Nat)} {pos : Pos} {wi : WI} {g : WG} {tt : WT} {te : WE} (hc : X.calm = true) (hN : X.N.Nodup) (hi : PI X tg iter (tiOf X.K wi)) (ok : L2.BlkOk X.N X.env.scope scope own)
    (hg : ∀ (s : Shared) (H : Hp) (C : Addr) (cl : List (Str × Addr)) (fp : List Addr), PG (X.blk s H scope (compEnvC scope cl C X.env) fp) tg (tgOf X.K (own.map (·.2)) g))
    (ht : ∀ (s : Shared) (H : Hp) (C : Addr) (cl : List (Str × Addr)) (fp : List Addr), L2.PTs (X.blk s H scope (compEnvC scope cl C X.env) fp) ifs (ttOf X.K tt))
    (he : ∀ (s : Shared) (H : Hp) (C : Addr) (cl : List (Str × Addr)) (fp : List Addr), PE (X.blk s H scope (compEnvC scope cl C X.env) fp) elt (teOf X.K te)) (hs : ∀ x, foldedSetIterable iter X.env x = pure x := by intro _; rfl) :
    PE X (.ListComp elt [⟨tg, iter, ifs, 0⟩] scope pos) (teOf X.K (wLc wi g tt te (own.map (·.2)))) :=
  peI (L2.pe_lc hc hN hi ok hg ht he hs) fun σ H Q h => lc_read X.K σ H Q h
/-- name = [..] on one line, the name a local -/
theorem ds_setLc (i : Nat) {y : Str} {py : Pos} {elt tg iter : Expr} {ifs : List Expr} {scope : Scope} {own : List (Str × Nat)} {pos spos : Pos} {wi : WI} {g : WG} {tt : WT} {te : WE} (hc : X.calm = true) (hN : X.N.Nodup) (hi : PI X tg iter (tiOf X.K wi)) (ok : L2.BlkOk X.N X.env.scope scope own)
    (hg : ∀ (s : Shared) (H : Hp) (C : Addr) (cl : List (Str × Addr)) (fp : List Addr), PG (X.blk s H scope (compEnvC scope cl C X.env) fp) tg (tgOf X.K (own.map (·.2)) g))
    (ht : ∀ (s : Shared) (H : Hp) (C : Addr) (cl : List (Str × Addr)) (fp : List Addr), L2.PTs (X.blk s H scope (compEnvC scope cl C X.env) fp) ifs (ttOf X.K tt))
    (he : ∀ (s : Shared) (H : Hp) (C : Addr) (cl : List (Str × Addr)) (fp : List Addr), PE (X.blk s H scope (compEnvC scope cl C X.env) fp) elt (teOf X.K te))
    (hsw : swapsWith (.ListComp elt [⟨tg, iter, ifs, 0⟩] scope pos) (some (.Name y py)) spos.line X.env = pure true) (hy : X.N[i]? = some y := by rfl) (hyl : X.env.scope.names.lookup y = some .local := by rfl)
    (hs : ∀ x, foldedSetIterable iter X.env x = pure x := by intro _; rfl) :
    PS X (.Assign [.Name y py] (.ListComp elt [⟨tg, iter, ifs, 0⟩] scope pos) spos) (tsOf X.K (sAsg (wLc wi g tt te (own.map (·.2))) (gN i))) :=
  psI (L2.ps_setLc hc hN hy hyl hsw hi ok hg ht he hs) fun Dd σ H ⟨ρ, S, m, E, hE, hS, h, k, _⟩ => lc_read X.K σ H _ ⟨ρ, S, m, _, hE, hS, h, fun v d H1 S1 m1 e1 s1 r1 q1 => k _ _ H1 S1 m1 e1 s1 ((hE.ext e1).set r1 i) q1⟩
end

/-! ### defs -/
theorem lk_start : ∀ (ds : List D) (n i : Nat) (d : D), lk (ds.map some ++ List.replicate n none) i = some d → ds[i]? = some d
  | [], n, i, d, h => by
    exfalso
    rw [List.map_nil, List.nil_append] at h
    induction n generalizing i with
    | zero => cases (show (none : Option D) = some d from h)
    | succ n ih =>
      rw [List.replicate_succ] at h
      cases i with
      | zero => cases (show (none : Option D) = some d from h)
      | succ i => exact ih i h
  | x :: ds, n, 0, d, h => by
    have h : some x = some d := h
    cases h
    rfl
  | x :: ds, n, i + 1, d, h => by
    have := lk_start ds n i d h
    simpa using this
theorem rep_start {K : PySem.W.Frag} {H : Hp} {m : List Addr} {ds : List D} {vs : List V} {N : List Str} (r : Reps K H m ds vs) : RepE K H m (start N.length ds) (L2.start N vs) := by
  refine ⟨by simp [start, L2.start, r.len], fun i d h => ?_⟩
  obtain ⟨v, h1, h2⟩ := r.get i d (lk_start _ _ _ _ h)
  refine ⟨v, ?_, h2⟩
  unfold L2.start
  rw [List.getElem?_append_left (by rw [List.length_map]; exact (List.getElem?_eq_some_iff.mp h1).1), List.getElem?_map, h1]
  rfl
section
variable {P : Program} {w : World} {K : PySem.W.Frag} {mg : Str → Option Value} {base : Heap}
/-- THE RULE for a def -/
theorem fn_body {x qual : Str} {st : Stmt} {f : Addr} {fd : FuncData} {N ps : List Str} {k n a : Nat} {sp : Spc} {ws : WS} (F : L2.Fun K x qual st f fd) (Sc : L2.FnScope N ps (L2.defScope st)) (hn : N.length = n) (ha : ps.length = a)
    (hw : ∀ (cdv : Value) (A : Around) (outer : List PySem.Env) (s : Shared) (H : Hp) (E : L2.XK), L2.Room k (A.deeper (PyProof.Rows.envOfC qual (L2.defScope st) s.heap.objs.size f cdv)) →
      PSs (L2.cxOf L2.CX0 P w K mg base N qual (L2.defScope st) f cdv A outer s H E).nox (L2.defBody st) (tsOf K ws)) (hb : Body n a ws sp) : L2.FnOk P w K mg base L2.CX0 (k + 1) f fd ps (spOf K a sp) := by
  refine F.ok Sc (fun vs H Q E ⟨m, S, ds, R, s, r, l, _⟩ => by rw [r.len, l, ha]) (fun cdv A outer s H vs Q E hr ⟨m, S, ds, R, hS, r, l, h, kk⟩ => ⟨_, hw cdv A outer s H E hr, ?_⟩)
  refine ⟨start N.length ds, S, m, { nx := fun _ S' => R .non S', rt := R, bk := fun _ _ => False, ct := fun _ _ => False }, rep_start r, hS, ?_, fun σ' ρ' H' S' m' e s r q => kk .non .non H' S' m' e s rfl q, kk, fun σ' ρ' H' S' m' e s r q => q.elim, fun σ' ρ' H' S' m' e s r q => q.elim⟩
  rw [hn]
  exact hb ds S R l h
/-- a law's promise from that of its def -/
theorem law_sp {sp : Spc} {H : Hp} {a : Addr} {ns : List Int} (hO : L2.Only H) (hS : SqL K H a (ns.map V.int)) (h : sp [.rol (intD ns)] [] fun d _ => d = .bl true) : spOf K 1 sp [.ref a] H (fun v _ => v = .bl true) fun _ _ _ => False := by
  refine ⟨[], [], [.rol (intD ns)], _, ⟨rfl, fun i j a h => by simp at h, fun n o h => by simp at h⟩, ⟨_, [], rfl, ⟨a, _, rfl, ?_, Reps.of_ints⟩, rfl⟩, rfl, h, fun v d H' S' m' e s r q => ?_⟩
  · rcases hS with (h | h) | h
    · rcases hO a with z | ⟨o, xs, z⟩
      · rw [h] at z; cases z
      · rw [h] at z; cases z
    · exact .inl h
    · exact .inr h
  · rw [q] at r
    exact r
end
end DL
set_option Elab.async false
set_option linter.all false
set_option maxRecDepth 100000
set_option maxHeartbeats 4000000
/-! DL5: operations by values. -/
namespace DL
open PySem PySem.Spec
open L2 (V Hp HO St TE TT TA TS TG TI TO PE PT PW PA PS PSs PG PI PO Cx Inv RelV Vals SqL SqT Rd upd upd_same upd_ne ne_of ne_of_none OpR UnR CallR MtR IxR SlR It thn)
section
variable {X : Cx}
/-- a rule between values, from one by the layer -/
theorem r2I {f : Value → Value → Sem Value} {r : L2.R2} {q : R2} (h : OpR X f r) (hi : ∀ x y H Q, r2Of X.K q x y H Q → r x y H Q) : OpR X f (r2Of X.K q) := fun pins s σ H x y v u Q I rx ry hq => h pins s σ H x y v u Q I rx ry (hi _ _ _ _ hq)
theorem r1I {f : Value → Sem Value} {r : V → Hp → L2.VK → Prop} {q : R1} (h : UnR X f r) (hi : ∀ x H Q, r1Of X.K q x H Q → r x H Q) : UnR X f (r1Of X.K q) := fun pins s σ H x v Q I rx hq => h pins s σ H x v Q I rx (hi _ _ _ hq)
theorem rlI {f : Value} {r : List V → Hp → L2.VK → Prop} {q : RL} (h : CallR X f r) (hi : ∀ x H Q, rlOf X.K q x H Q → r x H Q) : CallR X f (rlOf X.K q) := fun pins s σ H x v Q I rx hq => h pins s σ H x v Q I rx (hi _ _ _ hq)
theorem rmI {id : String} {r : V → List V → Hp → L2.VK → Prop} {q : RM} (h : MtR X id r) (hi : ∀ x xs H Q, rmOf X.K q x xs H Q → r x xs H Q) : MtR X id (rmOf X.K q) := fun pins s σ H x xs v us Q I rx rxs hq => h pins s σ H x xs v us Q I rx rxs (hi _ _ _ _ hq)
theorem rix {r : L2.R2} {q : R2} (h : IxR X r) (hi : ∀ x y H Q, r2Of X.K q x y H Q → r x y H Q) : IxR X (r2Of X.K q) := fun e1 e2 pins s σ H x y v u Q I rx ry hq hs => h e1 e2 pins s σ H x y v u Q I rx ry (hi _ _ _ _ hq) hs
theorem rsl {r : V → Option Int → Option Int → Hp → L2.VK → Prop} {q : D → Option Int → Option Int → Sto → VK → Prop} (h : SlR X r) (hi : ∀ x l u H Q, rsOf X.K q x l u H Q → r x l u H Q) : SlR X (rsOf X.K q) := fun pins s σ H x v vl vu lo hi' sl Q I rx hs p1 p2 hq => h pins s σ H x v vl vu lo hi' sl Q I rx hs p1 p2 (hi _ _ _ _ _ hq)
theorem isLst_iff {S : Sto} {n : Nat} {P : List D → Prop} : isLst S n P ↔ ∃ xs, S[n]? = some (.lst xs) ∧ P xs := by
  unfold isLst
  constructor
  · intro h
    split at h
    · rename_i xs e
      exact ⟨xs, e, h⟩
    · exact h.elim
  · rintro ⟨xs, e, h⟩
    rw [e]
    exact h
/-- a new tuple, a new list -/
theorem Kont.tup {K : PySem.W.Frag} {m : List Addr} {H : Hp} {S : Sto} {R : D → Sto → Prop} {Q : V → Hp → Prop} (k : Kont K m H R Q) (s : RepS K H m S) {ds : List D} {vs : List V} (r : Reps K H m ds vs) (q : R (.tup ds) S) : ∀ p, H p = none → Q (.ref p) (upd H p (.tup vs)) :=
  fun p hp => k _ (.tup ds) _ S m (Ext.fresh hp _) (s.fresh hp _) ⟨p, vs, rfl, .inl upd_same, Reps.ext (Ext.fresh hp _) _ _ r⟩ q
theorem Kont.lst {K : PySem.W.Frag} {m : List Addr} {H : Hp} {S : Sto} {R : D → Sto → Prop} {Q : V → Hp → Prop} (k : Kont K m H R Q) (s : RepS K H m S) {ds : List D} {vs : List V} (r : Reps K H m ds vs) (q : R (.ref S.length) (S ++ [.lst ds])) : ∀ p, H p = none → Q (.ref p) (upd H p (.lst vs)) :=
  fun p hp => k _ (.ref S.length) _ _ (m ++ [p]) (Ext.pushed hp _) (s.push hp r) ⟨p, by rw [← s.len]; simp, rfl⟩ q
/-- a list written -/
theorem Kont.put {K : PySem.W.Frag} {m : List Addr} {H : Hp} {S : Sto} {R : D → Sto → Prop} {Q : V → Hp → Prop} (k : Kont K m H R Q) (s : RepS K H m S) {n : Nat} {a : Addr} {ds ds' : List D} {vs vs' : List V} {d : D} {v : V} (e : S[n]? = some (.lst ds)) (ha : m[n]? = some a) (hv : H a = some (.lst vs)) (r : Reps K H m ds' vs')
    (rd : Rep K H m d v) (q : R d (S.set n (.lst ds'))) : Q v (upd H a (.lst vs')) :=
  k v d _ _ m (Ext.wrote (List.mem_of_getElem? ha) hv rfl) (s.set e ha r) (Rep.ext (Ext.wrote (List.mem_of_getElem? ha) hv rfl) _ _ rd) q

theorem szL' : szL = sizeLine := szL_eq
theorem o_add : OpR X (binaryOp .Add) (r2Of X.K rAdd) :=
  r2I ((((L2.op_add (X := X)).or L2.op_catA).or L2.op_add_str).or L2.op_cat) fun x y H Q ⟨m, S, d, e, R, s, rx, ry, h, k⟩ => by
    cases d with
    | int i => cases e with
      | int j => exact .inl (.inl (.inl ⟨i, j, rx, ry, k _ (.int (i + j)) H S m (Ext.refl _ _) s rfl h⟩))
      | _ => exact (show False from h).elim
    | tup xs => cases e with
      | tup ys =>
        obtain ⟨a, vs, rfl, hT, r1⟩ := rx
        obtain ⟨b, us, rfl, hU, r2⟩ := ry
        obtain ⟨hz, q⟩ := h
        refine .inl (.inl (.inr ⟨a, b, vs, us, rfl, rfl, hT.sqT, hU.sqT, by rw [r1.len, r2.len, ← szL']; exact hz, fun e => ?_, fun _ e => ?_, fun _ _ => k.tup s (r1.app r2) q⟩))
        · subst e
          have : xs = [] := List.eq_nil_of_length_eq_zero (by rw [← r1.len]; rfl)
          subst this
          exact k _ (.tup ys) H S m (Ext.refl _ _) s ⟨b, us, rfl, hU, r2⟩ q
        · subst e
          have : ys = [] := List.eq_nil_of_length_eq_zero (by rw [← r2.len]; rfl)
          subst this
          rw [List.append_nil] at q
          exact k _ (.tup xs) H S m (Ext.refl _ _) s ⟨a, vs, rfl, hT, r1⟩ q
      | _ => exact (show False from h).elim
    | str z => cases e with
      | str z' =>
        obtain ⟨hz, q⟩ := h
        exact .inl (.inr ⟨z, z', rx, ry, by rw [← szL']; exact hz, k _ (.str (z ++ z')) H S m (Ext.refl _ _) s rfl q⟩)
      | _ => exact (show False from h).elim
    | ref n => cases e with
      | ref n' =>
        obtain ⟨xs, e1, h⟩ := isLst_iff.mp h
        obtain ⟨ys, e2, hz, q⟩ := isLst_iff.mp h
        obtain ⟨a, vs, h1, h2, h3⟩ := s.lst e1
        obtain ⟨b, us, g1, g2, g3⟩ := s.lst e2
        obtain ⟨a', q1, rfl⟩ := rx
        obtain ⟨b', q2, rfl⟩ := ry
        rw [h1] at q1
        rw [g1] at q2
        cases q1
        cases q2
        exact .inr ⟨a, b, vs, us, rfl, rfl, h2, g2, by rw [h3.len, g3.len, ← szL']; exact hz, k.lst s (h3.app g3) q⟩
      | _ => exact (show False from h).elim
    | _ => exact (show False from h).elim
theorem o_sub : OpR X (binaryOp .Sub) (r2Of X.K rSub) := r2I L2.op_sub fun x y H Q ⟨m, S, d, e, R, s, rx, ry, h, k⟩ => by
  cases d with
  | int i => cases e with
    | int j => exact ⟨i, j, rx, ry, k _ (.int (i - j)) H S m (Ext.refl _ _) s rfl h⟩
    | _ => exact (show False from h).elim
  | _ => exact (show False from h).elim
theorem CMul_or {i j : Int} (h : MulOk i j) : IntMulOk i j := by
  rcases h with (h | h) | ⟨a, b, h1, h2, h3⟩
  · exact L2.CMul.ok (.inl (by have : (2 : Nat) ^ 64 = 18446744073709551616 := by decide
                               have : (2 : Int) ^ 64 = 18446744073709551616 := by decide
                               omega))
  · exact L2.CMul.ok (.inr (by have : (2 : Nat) ^ 64 = 18446744073709551616 := by decide
                               have : (2 : Int) ^ 64 = 18446744073709551616 := by decide
                               omega))
  · have w1 : i.natAbs < 2 ^ (a + 1) := Nat.lt_trans h1 (Nat.pow_lt_pow_right (by decide) (by omega))
    have w2 : j.natAbs < 2 ^ (b + 1) := Nat.lt_trans h2 (Nat.pow_lt_pow_right (by decide) (by omega))
    have x := PySem.Flt.log2_lt_of (by omega) w1
    have y := PySem.Flt.log2_lt_of (by omega) w2
    by_cases hc : i.natAbs.log2 + j.natAbs.log2 < 1000000
    · exact L2.CMulW.ok hc
    · have e1 : i.natAbs.log2 ≤ a := by omega
      have e2 : j.natAbs.log2 ≤ b := by omega
      exfalso
      have ha : a = i.natAbs.log2 := by omega
      have hb : b = j.natAbs.log2 := by omega
      by_cases h0 : i.natAbs = 0
      · rw [h0] at ha
        have : Nat.log2 0 = 0 := by decide
        rw [this] at ha
        have hb1 : 0 < b := by omega
        have := PySem.Flt.log2_lt_of hb1 h2
        omega
      · by_cases ha0 : a = 0
        · subst ha0
          have hb1 : 0 < b := by omega
          have := PySem.Flt.log2_lt_of hb1 h2
          omega
        · have := PySem.Flt.log2_lt_of (by omega : 0 < a) h1
          omega
theorem op_mulAny : OpR X (binaryOp .Mult) (L2.rI (fun i j => IntMulOk i j) fun i j => .int (i * j)) := L2.opI fun _ _ _ _ _ _ _ hc q => PyProof.Rows.mul_int q hc
theorem iop_mulAny : OpR X (inplaceOp .Mult) (L2.rI (fun i j => IntMulOk i j) fun i j => .int (i * j)) := L2.opI fun _ _ _ _ _ _ _ hc q => PyProof.Rows.imul_int q hc

/-- ints alone -/
theorem ii {K : PySem.W.Frag} {x y : V} {H : Hp} {Q : L2.VK} {C : Int → Int → Prop} {g : Int → Int → D} {gv : Int → Int → V} {r : R2} (hg : ∀ i j H m, Rep K H m (g i j) (gv i j)) (hr : ∀ d e S R, r d e S R → ∃ i j, d = .int i ∧ e = .int j ∧ C i j ∧ R (g i j) S) (h : r2Of K r x y H Q) : L2.rI C gv x y H Q := by
  obtain ⟨m, S, d, e, R, s, rx, ry, h, k⟩ := h
  obtain ⟨i, j, rfl, rfl, hc, q⟩ := hr d e S R h
  exact ⟨i, j, rx, ry, hc, k _ _ H S m (Ext.refl _ _) s (hg i j H m) q⟩
theorem o_mul : OpR X (binaryOp .Mult) (r2Of X.K rMul) := r2I ((op_mulAny (X := X)).or L2.op_rep) fun x y H Q ⟨m, S, d, e, R, s, rx, ry, h, k⟩ => by
  cases d with
  | int i => cases e with
    | int j => exact .inl ⟨i, j, rx, ry, CMul_or h.1, k _ (.int (i * j)) H S m (Ext.refl _ _) s rfl h.2⟩
    | _ => exact (show False from h).elim
  | ref n => cases e with
    | int j =>
      obtain ⟨xs, e1, ⟨h1, h2⟩, hz, q⟩ := isLst_iff.mp h
      obtain ⟨a, vs, g1, g2, g3⟩ := s.lst e1
      obtain ⟨a', q1, rfl⟩ := rx
      rw [g1] at q1
      cases q1
      exact .inr ⟨a, j, vs, rfl, ry, g2, h1, h2, by rw [g3.len, ← szL']; exact hz, k.lst s (g3.rep _) q⟩
    | _ => exact (show False from h).elim
  | _ => exact (show False from h).elim
theorem int_of {r : R2} {C : Int → Int → Prop} {g : Int → Int → D} {d e : D} {S : Sto} {R : D → Sto → Prop} (h : r d e S R) (h1 : ∀ i j, r (.int i) (.int j) S R → C i j ∧ R (g i j) S) (h2 : ∀ d e, r d e S R → ∃ i j, d = .int i ∧ e = .int j) : ∃ i j, d = .int i ∧ e = .int j ∧ C i j ∧ R (g i j) S := by
  obtain ⟨i, j, rfl, rfl⟩ := h2 d e h
  exact ⟨i, j, rfl, rfl, h1 i j h⟩
theorem only_ii {r : R2} {S : Sto} {R : D → Sto → Prop} (h0 : ∀ d e, (∀ i j, ¬ (d = .int i ∧ e = .int j)) → ¬ r d e S R) : ∀ d e, r d e S R → ∃ i j, d = .int i ∧ e = .int j := fun d e h => by
  cases d with
  | int i => cases e with
    | int j => exact ⟨i, j, rfl, rfl⟩
    | _ => exact absurd h (h0 _ _ fun _ _ z => nomatch z.2)
  | _ => exact absurd h (h0 _ _ fun _ _ z => nomatch z.1)
theorem i_mul : OpR X (inplaceOp .Mult) (r2Of X.K rMul') := r2I (iop_mulAny (X := X)) fun x y H Q h => ii (g := fun i j => .int (i * j)) (fun _ _ _ _ => rfl) (fun d e S R h => by
  cases d with
  | int i => cases e with
    | int j => exact ⟨i, j, rfl, rfl, CMul_or h.1, h.2⟩
    | _ => exact (show False from h).elim
  | _ => exact (show False from h).elim) h
theorem div_ok {j : Int} (h : DivOk j) (i : Int) : Builtin.divisionGoesByPylong i j = false := by
  refine PyProof.noPylong_of_log2 ?_
  exact PySem.Flt.log2_lt_of (by decide) h.2
theorem op_divAny : OpR X (binaryOp .FloorDiv) (L2.rI (fun _ j => DivOk j) fun i j => .int (i.fdiv j)) := L2.opI fun i j _ _ _ _ _ hc q => PyProof.Rows.floordiv_int hc.1 q (.inl (div_ok hc i))
theorem iop_divAny : OpR X (inplaceOp .FloorDiv) (L2.rI (fun _ j => DivOk j) fun i j => .int (i.fdiv j)) := L2.opI fun i j _ _ _ _ _ hc q => PyProof.Rows.ifloordiv_int hc.1 q (.inl (div_ok hc i))
theorem o_div : OpR X (binaryOp .FloorDiv) (r2Of X.K rDiv) := r2I (op_divAny (X := X)) fun x y H Q h => ii (g := fun i j => .int (i.fdiv j)) (fun _ _ _ _ => rfl) (fun d e S R h => by
  cases d with
  | int i => cases e with
    | int j => exact ⟨i, j, rfl, rfl, h.1, h.2⟩
    | _ => exact (show False from h).elim
  | _ => exact (show False from h).elim) h
theorem i_div : OpR X (inplaceOp .FloorDiv) (r2Of X.K rDiv) := r2I (iop_divAny (X := X)) fun x y H Q h => ii (g := fun i j => .int (i.fdiv j)) (fun _ _ _ _ => rfl) (fun d e S R h => by
  cases d with
  | int i => cases e with
    | int j => exact ⟨i, j, rfl, rfl, h.1, h.2⟩
    | _ => exact (show False from h).elim
  | _ => exact (show False from h).elim) h
theorem o_mod : OpR X (binaryOp .Mod) (r2Of X.K rMod) := r2I (L2.op_modN (X := X)) fun x y H Q h => ii (g := fun i j => .int (i.fmod j)) (fun _ _ _ _ => rfl) (fun d e S R h => by
  cases d with
  | int i => cases e with
    | int j => exact ⟨i, j, rfl, rfl, h.1, h.2⟩
    | _ => exact (show False from h).elim
  | _ => exact (show False from h).elim) h
theorem o_pow : OpR X (binaryOp .Pow) (r2Of X.K rPow) := r2I (L2.op_pow (X := X)) fun x y H Q h => ii (g := fun i j => .int (i ^ j.toNat)) (fun _ _ _ _ => rfl) (fun d e S R h => by
  cases d with
  | int i => cases e with
    | int j => exact ⟨i, j, rfl, rfl, h.1, h.2⟩
    | _ => exact (show False from h).elim
  | _ => exact (show False from h).elim) h
theorem u_neg : UnR X (unaryOp .USub) (r1Of X.K rNeg) := r1I L2.un_neg fun x H Q ⟨m, S, d, R, s, rx, h, k⟩ => by
  cases d with
  | int i => exact ⟨i, rx, k _ (.int (-i)) H S m (Ext.refl _ _) s rfl h⟩
  | _ => exact (show False from h).elim
theorem cmp_of {f : Value → Value → Sem Value} {g : Int → Int → Bool} (h : OpR X f (L2.rI0 fun i j => .bl (g i j))) : OpR X f (r2Of X.K (rCmp g)) := r2I h fun x y H Q ⟨m, S, d, e, R, s, rx, ry, h, k⟩ => by
  cases d with
  | int i => cases e with
    | int j => exact ⟨i, j, rx, ry, k _ (.bl (g i j)) H S m (Ext.refl _ _) s rfl h⟩
    | _ => exact (show False from h).elim
  | _ => exact (show False from h).elim
theorem c_lt : OpR X (compareOp .Lt) (r2Of X.K rLt) := cmp_of L2.op_lt
theorem c_le : OpR X (compareOp .LtE) (r2Of X.K rLe) := cmp_of L2.op_le
theorem c_gt : OpR X (compareOp .Gt) (r2Of X.K rGt) := cmp_of L2.op_gt
theorem c_ge : OpR X (compareOp .GtE) (r2Of X.K rGe) := cmp_of L2.op_ge
/-! equality of plain data -/
mutual
theorem toPy_dp {K : PySem.W.Frag} {H : Hp} {m : List Addr} : ∀ (d : D) (v : V), flat d = true → Rep K H m d v → L2.Dp K H v (toPy d)
  | .non, v, _, h => by rw [show v = .non from h]; exact .non
  | .bl b, v, _, h => by rw [show v = .bl b from h]; exact .bl b
  | .int b, v, _, h => by rw [show v = .int b from h]; exact .int b
  | .str b, v, _, h => by rw [show v = .str b from h]; exact .str b
  | .tup ds, v, f, ⟨a, vs, hv, hT, r⟩ => by rw [hv]; exact .tup hT.sqT (toPys_dp ds vs f r)
  | .rol _, _, f, _ => by cases (show false = true from f)
  | .ref _, _, f, _ => by cases (show false = true from f)
  | .ty _, _, f, _ => by cases (show false = true from f)
theorem toPys_dp {K : PySem.W.Frag} {H : Hp} {m : List Addr} : ∀ (ds : List D) (vs : List V), flats ds = true → Reps K H m ds vs → L2.DpAll K H vs (toPys ds)
  | [], vs, _, h => by rw [show vs = [] from h]; exact .nil
  | d :: ds, vs, f, ⟨v, r, hv, h1, h2⟩ => by
    rw [hv]
    have f := Bool.and_eq_true_iff.mp (show (flat d && flats ds) = true from f)
    exact .cons (toPy_dp d v f.1 h1) (toPys_dp ds r f.2 h2)
end
theorem strOk_of {K : PySem.W.Frag} : True := trivial
mutual
theorem eqv_eq : ∀ (d e : D), flat d = true → flat e = true → PyData.eqv (toPy d) (toPy e) = eqD d e
  | .non, .non, _, _ => rfl
  | .non, .bl _, _, _ => rfl
  | .non, .int _, _, _ => rfl
  | .non, .str _, _, _ => rfl
  | .non, .tup _, _, _ => rfl
  | .bl _, .non, _, _ => rfl
  | .bl _, .bl _, _, _ => rfl
  | .bl _, .int _, _, _ => rfl
  | .bl _, .str _, _, _ => rfl
  | .bl _, .tup _, _, _ => rfl
  | .int _, .non, _, _ => rfl
  | .int _, .bl _, _, _ => rfl
  | .int i, .int j, _, _ => by
    show (i == j) = decide (i = j)
    rw [Bool.beq_eq_decide_eq]
  | .int _, .str _, _, _ => rfl
  | .int _, .tup _, _, _ => rfl
  | .str _, .non, _, _ => rfl
  | .str _, .bl _, _, _ => rfl
  | .str _, .int _, _, _ => rfl
  | .str i, .str j, _, _ => by
    show (i == j) = decide (i = j)
    rw [Bool.beq_eq_decide_eq]
  | .str _, .tup _, _, _ => rfl
  | .tup _, .non, _, _ => rfl
  | .tup _, .bl _, _, _ => rfl
  | .tup _, .int _, _, _ => rfl
  | .tup _, .str _, _, _ => rfl
  | .tup xs, .tup ys, f, g => eqvs_eq xs ys f g
  | .rol _, _, f, _ => by cases (show false = true from f)
  | .ref _, _, f, _ => by cases (show false = true from f)
  | .ty _, _, f, _ => by cases (show false = true from f)
  | _, .rol _, _, f => by cases (show false = true from f)
  | _, .ref _, _, f => by cases (show false = true from f)
  | _, .ty _, _, f => by cases (show false = true from f)
theorem eqvs_eq : ∀ (ds es : List D), flats ds = true → flats es = true → PyData.eqvAll (toPys ds) (toPys es) = eqDs ds es
  | [], [], _, _ => rfl
  | [], _ :: _, _, _ => rfl
  | _ :: _, [], _, _ => rfl
  | d :: ds, e :: es, f, g => by
    have f := Bool.and_eq_true_iff.mp (show (flat d && flats ds) = true from f)
    have g := Bool.and_eq_true_iff.mp (show (flat e && flats es) = true from g)
    show (PyData.eqv (toPy d) (toPy e) && PyData.eqvAll (toPys ds) (toPys es)) = (eqD d e && eqDs ds es)
    rw [eqv_eq d e f.1 g.1, eqvs_eq ds es f.2 g.2]
end
mutual
theorem deep_eq : ∀ d : D, PyData.depth (toPy d) = deep d
  | .non => rfl
  | .bl _ => rfl
  | .int _ => rfl
  | .str _ => rfl
  | .tup ds => by
    show PyData.depthAll (toPys ds) + 1 = deeps ds + 1
    rw [deeps_eq ds]
  | .rol _ => rfl
  | .ref _ => rfl
  | .ty _ => rfl
theorem deeps_eq : ∀ ds : List D, PyData.depthAll (toPys ds) = deeps ds
  | [] => rfl
  | d :: ds => by
    show max (PyData.depth (toPy d)) (PyData.depthAll (toPys ds)) = max (deep d) (deeps ds)
    rw [deep_eq d, deeps_eq ds]
end

end
end DL
set_option Elab.async false
set_option linter.all false
set_option maxRecDepth 100000
set_option maxHeartbeats 4000000
/-! DL6: comparisons of data, subscripts, slices, built-ins, methods, stores. -/
namespace DL
open PySem PySem.Spec
open L2 (V Hp HO St TE TT TA TS TG TI TO PE PT PW PA PS PSs PG PI PO Cx Inv RelV Vals SqL SqT Rd upd upd_same upd_ne ne_of ne_of_none OpR UnR CallR MtR IxR SlR It thn)
section
variable {X : Cx}
mutual
theorem lay_of : ∀ d : D, flat d = true → PyData.canLay0 (toPy d) = true
  | .non, _ => rfl
  | .bl _, _ => rfl
  | .int _, _ => rfl
  | .str x, h => h
  | .tup ds, h => lays_of ds h
  | .rol _, h => by cases (show false = true from h)
  | .ref _, h => by cases (show false = true from h)
  | .ty _, h => by cases (show false = true from h)
theorem lays_of : ∀ ds : List D, flats ds = true → PyData.canLayAll0 (toPys ds) = true
  | [], _ => rfl
  | d :: ds, h => by
    have h := Bool.and_eq_true_iff.mp (show (flat d && flats ds) = true from h)
    show (PyData.canLay0 (toPy d) && PyData.canLayAll0 (toPys ds)) = true
    rw [lay_of d h.1, lays_of ds h.2]
    rfl
end
theorem shaped_of {d : D} (h : flat d = true) (h2 : deep d ≤ 64) : SeqAt.shaped (toPy d) = true := by
  unfold SeqAt.shaped
  rw [lay_of d h, deep_eq, Bool.true_and]
  exact decide_eq_true h2
theorem shapeds_of {ds : List D} (h : flats ds = true) (h2 : deeps ds ≤ 63) : SeqAt.shaped (.list (toPys ds)) = true := by
  unfold SeqAt.shaped
  have e : PyData.canLay0 (.list (toPys ds)) = true := lays_of ds h
  rw [e, Bool.true_and]
  refine decide_eq_true ?_
  show PyData.depthAll (toPys ds) + 1 ≤ 64
  rw [deeps_eq]
  omega
theorem c_eq {kk : Nat} (hr : L2.Room kk X.A) : OpR X (compareOp .Eq) (r2Of X.K rEq) := r2I (L2.op_eqD hr.units) fun x y H Q ⟨m, S, d, e, R, s, rx, ry, ⟨⟨f1, f2, g1, g2⟩, q⟩, k⟩ =>
  ⟨toPy d, toPy e, toPy_dp d x f1 rx, toPy_dp e y f2 ry, shaped_of f1 g1, shaped_of f2 g2, by rw [eqv_eq d e f1 f2]; exact k _ (.bl (eqD d e)) H S m (Ext.refl _ _) s rfl q⟩
theorem c_ne {kk : Nat} (hr : L2.Room kk X.A) : OpR X (compareOp .NotEq) (r2Of X.K rNe) := r2I (L2.op_neD hr.units) fun x y H Q ⟨m, S, d, e, R, s, rx, ry, ⟨⟨f1, f2, g1, g2⟩, q⟩, k⟩ =>
  ⟨toPy d, toPy e, toPy_dp d x f1 rx, toPy_dp e y f2 ry, shaped_of f1 g1, shaped_of f2 g2, by rw [eqv_eq d e f1 f2]; exact k _ (.bl (!eqD d e)) H S m (Ext.refl _ _) s rfl q⟩
theorem isNon_eq {K : PySem.W.Frag} {H : Hp} {m : List Addr} {d : D} {x : V} (r : Rep K H m d x) : isNon d = decide (x = .non) := by
  cases d with
  | non => rw [show x = .non from r]; rfl
  | bl b => rw [show x = .bl b from r]; rfl
  | int b => rw [show x = .int b from r]; rfl
  | str b => rw [show x = .str b from r]; rfl
  | ty b => rw [show x = .ty b from r]; rfl
  | tup b => obtain ⟨a, vs, rfl, _⟩ := r; rfl
  | rol b => obtain ⟨a, vs, rfl, _⟩ := r; rfl
  | ref b => obtain ⟨a, _, rfl⟩ := r; rfl
theorem c_is : OpR X (compareOp .Is) (r2Of X.K rIs) := r2I ((L2.op_isN (X := X)).or L2.op_is_bl) fun x y H Q ⟨m, S, d, e, R, s, rx, ry, h, k⟩ => by
  cases e with
  | non =>
    have h : R (.bl (isNon d)) S := by cases d <;> exact h
    exact .inl ⟨ry, by rw [← isNon_eq rx]; exact k _ (.bl (isNon d)) H S m (Ext.refl _ _) s rfl h⟩
  | bl b => cases d with
    | bl a => exact .inr ⟨a, b, rx, ry, k _ (.bl (decide (a = b))) H S m (Ext.refl _ _) s rfl h⟩
    | _ => exact (show False from h).elim
  | _ => cases d <;> exact (show False from h).elim
theorem c_isnot : OpR X (compareOp .IsNot) (r2Of X.K rIsNot) := r2I ((L2.op_notN (X := X)).or L2.op_isnot_bl) fun x y H Q ⟨m, S, d, e, R, s, rx, ry, h, k⟩ => by
  cases e with
  | non =>
    have h : R (.bl (!isNon d)) S := by cases d <;> exact h
    exact .inl ⟨ry, by rw [← isNon_eq rx]; exact k _ (.bl (!isNon d)) H S m (Ext.refl _ _) s rfl h⟩
  | bl b => cases d with
    | bl a => exact .inr ⟨a, b, rx, ry, k _ (.bl (!decide (a = b))) H S m (Ext.refl _ _) s rfl h⟩
    | _ => exact (show False from h).elim
  | _ => cases d <;> exact (show False from h).elim
/-! in -/
theorem flat0_V {K : PySem.W.Frag} {H : Hp} {m : List Addr} {d : D} {x : V} (r : Rep K H m d x) (h : flat0 d = true) : L2.flatV x = true := by
  cases d with
  | non => rw [show x = .non from r]; rfl
  | bl b => rw [show x = .bl b from r]; rfl
  | int b => rw [show x = .int b from r]; rfl
  | str b => rw [show x = .str b from r]; rfl
  | _ => cases (show false = true from h)
theorem eqV_eq {K : PySem.W.Frag} {H : Hp} {m : List Addr} {d e : D} {x y : V} (r : Rep K H m d x) (r' : Rep K H m e y) (h : flat0 d = true) (h' : flat0 e = true) : L2.eqV x y = eqD d e := by
  cases d with
  | non => cases e with
    | non => rw [show x = .non from r, show y = .non from r']; rfl
    | bl b => rw [show x = .non from r, show y = .bl b from r']; rfl
    | int b => rw [show x = .non from r, show y = .int b from r']; rfl
    | str b => rw [show x = .non from r, show y = .str b from r']; rfl
    | _ => cases (show false = true from h')
  | bl a => cases e with
    | non => rw [show x = .bl a from r, show y = .non from r']; rfl
    | bl b => rw [show x = .bl a from r, show y = .bl b from r']; rfl
    | int b => rw [show x = .bl a from r, show y = .int b from r']; rfl
    | str b => rw [show x = .bl a from r, show y = .str b from r']; rfl
    | _ => cases (show false = true from h')
  | int a => cases e with
    | non => rw [show x = .int a from r, show y = .non from r']; rfl
    | bl b => rw [show x = .int a from r, show y = .bl b from r']; rfl
    | int b =>
      rw [show x = .int a from r, show y = .int b from r']
      show (a == b) = decide (a = b)
      rw [Bool.beq_eq_decide_eq]
    | str b => rw [show x = .int a from r, show y = .str b from r']; rfl
    | _ => cases (show false = true from h')
  | str a => cases e with
    | non => rw [show x = .str a from r, show y = .non from r']; rfl
    | bl b => rw [show x = .str a from r, show y = .bl b from r']; rfl
    | int b => rw [show x = .str a from r, show y = .int b from r']; rfl
    | str b =>
      rw [show x = .str a from r, show y = .str b from r']
      show (a == b) = decide (a = b)
      rw [Bool.beq_eq_decide_eq]
    | _ => cases (show false = true from h')
  | _ => cases (show false = true from h)
theorem inV_eq {K : PySem.W.Frag} {H : Hp} {m : List Addr} {d : D} {x : V} (r : Rep K H m d x) (h : flat0 d = true) : ∀ (ds : List D) (vs : List V), Reps K H m ds vs → ds.all flat0 = true → L2.inV x vs = (ds.any fun y => eqD y d) ∧ vs.all L2.flatV = true
  | [], vs, rs, _ => by rw [show vs = [] from rs]; exact ⟨rfl, rfl⟩
  | e :: ds, vs, ⟨v, us, hv, r1, r2⟩, f => by
    rw [hv]
    have f := Bool.and_eq_true_iff.mp (show (flat0 e && ds.all flat0) = true from f)
    obtain ⟨h1, h2⟩ := inV_eq r h ds us r2 f.2
    refine ⟨?_, ?_⟩
    · show (L2.eqV v x || us.any fun y => L2.eqV y x) = (eqD e d || ds.any fun y => eqD y d)
      rw [eqV_eq r1 r f.1 h]
      exact congrArg (eqD e d || ·) h1
    · show (L2.flatV v && us.all L2.flatV) = true
      rw [flat0_V r1 f.1, h2]
      rfl
theorem any_py {d : D} (h : flat d = true) : ∀ ds : List D, flats ds = true → ((toPys ds).any fun z => PyData.eqv z (toPy d)) = ds.any fun y => eqD y d
  | [], _ => rfl
  | e :: ds, f => by
    have f := Bool.and_eq_true_iff.mp (show (flat e && flats ds) = true from f)
    show (PyData.eqv (toPy e) (toPy d) || (toPys ds).any fun z => PyData.eqv z (toPy d)) = (eqD e d || ds.any fun y => eqD y d)
    rw [eqv_eq e d f.1 h, any_py h ds f.2]
theorem room65 {kk : Nat} (hr : L2.Room kk X.A) : X.A.units + 65 < cLine := by
  have := hr.un
  omega
theorem c_in {kk : Nat} (hr : L2.Room kk X.A) : OpR X (compareOp .In) (r2Of X.K (rIn false)) := r2I (L2.op_in_seq.or (L2.op_inD (room65 hr))) fun x y H Q ⟨m, S, d, e, R, s, rx, ry, h, k⟩ => by
  cases e with
  | tup ys =>
    have h : (flat0 d = true ∧ ys.all flat0 = true) ∧ R (.bl (ys.any fun y => eqD y d)) S := by cases d <;> exact h
    obtain ⟨⟨f, g⟩, q⟩ := h
    obtain ⟨a, vs, rfl, hT, rs⟩ := ry
    obtain ⟨h1, h2⟩ := inV_eq rx f ys vs rs g
    refine .inl ⟨a, vs, rfl, .inr hT.sqT, flat0_V rx f, h2, ?_⟩
    show Q (.bl (L2.inV x vs)) H
    rw [h1]
    exact k _ (.bl (ys.any fun y => eqD y d)) H S m (Ext.refl _ _) s rfl q
  | ref n =>
    have h : isLst S n fun ys => (flat d = true ∧ flats ys = true ∧ deep d ≤ 63 ∧ deeps ys ≤ 63) ∧ R (.bl (ys.any fun y => eqD y d)) S := by cases d <;> exact h
    obtain ⟨ys, e1, ⟨f1, f2, g1, g2⟩, q⟩ := isLst_iff.mp h
    obtain ⟨a, vs, h1, h2, h3⟩ := s.lst e1
    obtain ⟨b, q1, rfl⟩ := ry
    rw [h1] at q1
    cases q1
    exact .inr ⟨toPy d, toPys ys, toPy_dp d x f1 rx, .lst (SqL.of h2) (toPys_dp ys vs f2 h3), shaped_of f1 (by omega), shapeds_of f2 g2, by rw [any_py f1 ys f2]; exact k _ (.bl (ys.any fun y => eqD y d)) H S m (Ext.refl _ _) s rfl q⟩
  | _ => cases d <;> exact (show False from h).elim
theorem c_notin {kk : Nat} (hr : L2.Room kk X.A) : OpR X (compareOp .NotIn) (r2Of X.K (rIn true)) := r2I (L2.op_notIn_seq.or (L2.op_notInD (room65 hr))) fun x y H Q ⟨m, S, d, e, R, s, rx, ry, h, k⟩ => by
  cases e with
  | tup ys =>
    have h : (flat0 d = true ∧ ys.all flat0 = true) ∧ R (.bl (!ys.any fun y => eqD y d)) S := by cases d <;> exact h
    obtain ⟨⟨f, g⟩, q⟩ := h
    obtain ⟨a, vs, rfl, hT, rs⟩ := ry
    obtain ⟨h1, h2⟩ := inV_eq rx f ys vs rs g
    refine .inl ⟨a, vs, rfl, .inr hT.sqT, flat0_V rx f, h2, ?_⟩
    show Q (.bl (!L2.inV x vs)) H
    rw [h1]
    exact k _ (.bl (!ys.any fun y => eqD y d)) H S m (Ext.refl _ _) s rfl q
  | ref n =>
    have h : isLst S n fun ys => (flat d = true ∧ flats ys = true ∧ deep d ≤ 63 ∧ deeps ys ≤ 63) ∧ R (.bl (!ys.any fun y => eqD y d)) S := by cases d <;> exact h
    obtain ⟨ys, e1, ⟨f1, f2, g1, g2⟩, q⟩ := isLst_iff.mp h
    obtain ⟨a, vs, h1, h2, h3⟩ := s.lst e1
    obtain ⟨b, q1, rfl⟩ := ry
    rw [h1] at q1
    cases q1
    exact .inr ⟨toPy d, toPys ys, toPy_dp d x f1 rx, .lst (SqL.of h2) (toPys_dp ys vs f2 h3), shaped_of f1 (by omega), shapeds_of f2 g2, by rw [any_py f1 ys f2]; exact k _ (.bl (!ys.any fun y => eqD y d)) H S m (Ext.refl _ _) s rfl q⟩
  | _ => cases d <;> exact (show False from h).elim
/-! subscripts -/
theorem atZ_rep {K : PySem.W.Frag} {H : Hp} {m : List Addr} {ds : List D} {vs : List V} (r : Reps K H m ds vs) {i : Int} {d : D} (h : atZ ds i = some d) : ∃ v, L2.atI vs i = some v ∧ Rep K H m d v := by
  unfold atZ at h
  unfold L2.atI
  rw [r.len]
  cases e : ixZ ds.length i with
  | none => rw [e] at h; cases h
  | some j =>
    rw [e] at h
    obtain ⟨v, h1, h2⟩ := r.get j d h
    have e' : L2.ixN ds.length i = some j := e
    exact ⟨v, by rw [e']; exact h1, h2⟩
theorem i_ix : IxR X (r2Of X.K rIx) := rix L2.ix_seq fun x y H Q ⟨m, S, d, e, R, s, rx, ry, h, k⟩ => by
  cases d with
  | tup xs => cases e with
    | int i =>
      obtain ⟨d, hd, q⟩ := h
      obtain ⟨a, vs, rfl, hT, rs⟩ := rx
      obtain ⟨v, h1, h2⟩ := atZ_rep rs hd
      exact .inr (.inl ⟨a, vs, i, v, rfl, ry, hT.sqT, h1, k _ _ H S m (Ext.refl _ _) s h2 q⟩)
    | _ => exact (show False from h).elim
  | rol xs => cases e with
    | int i =>
      obtain ⟨d, hd, q⟩ := h
      obtain ⟨a, vs, rfl, hT, rs⟩ := rx
      obtain ⟨v, h1, h2⟩ := atZ_rep rs hd
      exact .inl ⟨a, vs, i, v, rfl, ry, hT.seq, h1, k _ _ H S m (Ext.refl _ _) s h2 q⟩
    | _ => exact (show False from h).elim
  | ref n => cases e with
    | int i =>
      obtain ⟨xs, e1, d, hd, q⟩ := isLst_iff.mp h
      obtain ⟨a, vs, h1, h2, h3⟩ := s.lst e1
      obtain ⟨b, q1, rfl⟩ := rx
      rw [h1] at q1
      cases q1
      obtain ⟨v, g1, g2⟩ := atZ_rep h3 hd
      exact .inl ⟨a, vs, i, v, rfl, ry, SqL.of h2, g1, k _ _ H S m (Ext.refl _ _) s g2 q⟩
    | _ => exact (show False from h).elim
  | str z => cases e with
    | int i =>
      obtain ⟨hz, c, hc, q⟩ := h
      exact .inr (.inr ⟨z, i, c, rx, ry, by rw [← szL']; exact hz, hc, k _ (.str ⟨#[c]⟩) H S m (Ext.refl _ _) s rfl q⟩)
    | _ => exact (show False from h).elim
  | _ => cases e <;> exact (show False from h).elim
theorem sIx_eq (n d : Nat) (o : Option Int) : sIx n d o = HT.sIx n d o := by
  cases o with
  | none => rfl
  | some v =>
    show (if v < 0 then (v + n).toNat else min v.toNat n) = _
    rfl

theorem cut_rep {K : PySem.W.Frag} {H : Hp} {m : List Addr} {ds : List D} {vs : List V} (r : Reps K H m ds vs) (lo hi : Option Int) : Reps K H m (cut ds lo hi) (L2.cutV vs lo hi) := by
  unfold cut L2.cutV
  rw [r.len, sIx_eq, sIx_eq]
  exact (r.drop _).take _
theorem cut_full {K : PySem.W.Frag} {H : Hp} {m : List Addr} {ds : List D} {vs : List V} (r : Reps K H m ds vs) (lo hi : Option Int) (h : HT.sIx vs.length 0 lo = 0 ∧ HT.sIx vs.length vs.length hi = vs.length) : cut ds lo hi = ds := by
  unfold cut
  rw [sIx_eq, sIx_eq, ← r.len, h.1, h.2, List.drop_zero, Nat.sub_zero, r.len, List.take_length]
theorem s_cut : SlR X (rsOf X.K rSl) := rsl ((L2.sl_tupA (X := X)).or L2.sl_list) fun x l u H Q ⟨m, S, d, R, s, rx, h, k⟩ => by
  cases d with
  | tup xs =>
    obtain ⟨a, vs, rfl, hT, rs⟩ := rx
    refine .inl ⟨a, vs, rfl, hT.sqT, fun hf => ?_, fun _ => k.tup s (cut_rep rs l u) h⟩
    have h : R (.tup (cut xs l u)) S := h
    rw [cut_full rs l u hf] at h
    exact k _ (.tup xs) H S m (Ext.refl _ _) s ⟨a, vs, rfl, hT, rs⟩ h
  | ref n =>
    obtain ⟨xs, e1, q⟩ := isLst_iff.mp h
    obtain ⟨a, vs, h1, h2, h3⟩ := s.lst e1
    obtain ⟨b, q1, rfl⟩ := rx
    rw [h1] at q1
    cases q1
    exact .inr ⟨a, vs, rfl, SqL.of h2, k.lst s (cut_rep h3 l u) q⟩
  | _ => exact (show False from h).elim

/-! ### built-ins -/
theorem reps1 {K : PySem.W.Frag} {H : Hp} {m : List Addr} {d : D} {vs : List V} (r : Reps K H m [d] vs) : ∃ v, vs = [v] ∧ Rep K H m d v := by
  obtain ⟨v, us, hv, h1, h2⟩ := r
  exact ⟨v, by rw [hv, show us = [] from h2], h1⟩
theorem reps2 {K : PySem.W.Frag} {H : Hp} {m : List Addr} {d e : D} {vs : List V} (r : Reps K H m [d, e] vs) : ∃ v u, vs = [v, u] ∧ Rep K H m d v ∧ Rep K H m e u := by
  obtain ⟨v, us, hv, h1, h2⟩ := r
  obtain ⟨u, rfl, h3⟩ := reps1 h2
  exact ⟨v, u, hv, h1, h3⟩
theorem b_len : CallR X (.builtin "len") (rlOf X.K rLen) := rlI L2.call_len fun xs H Q ⟨m, S, ds, R, s, rx, h, k⟩ => by
  match ds, h, rx with
  | [.tup ys], h, rx =>
    obtain ⟨v, rfl, a, vs, rfl, hT, rs⟩ := reps1 rx
    exact ⟨_, vs.length, rfl, .inr ⟨vs, hT.sqT, rfl⟩, by rw [rs.len]; exact k _ (.int ys.length) H S m (Ext.refl _ _) s rfl h⟩
  | [.rol ys], h, rx =>
    obtain ⟨v, rfl, a, vs, rfl, hT, rs⟩ := reps1 rx
    exact ⟨_, vs.length, rfl, .inl ⟨vs, hT.seq, rfl⟩, by rw [rs.len]; exact k _ (.int ys.length) H S m (Ext.refl _ _) s rfl h⟩
  | [.str z], h, rx =>
    obtain ⟨v, rfl, hv⟩ := reps1 rx
    have hv : v = .str z := hv
    subst hv
    exact ⟨_, z.length, rfl, ⟨by rw [← szL']; exact h.1, rfl⟩, k _ (.int z.length) H S m (Ext.refl _ _) s rfl h.2⟩
  | [.ref n], h, rx =>
    obtain ⟨v, rfl, b, q1, rfl⟩ := reps1 rx
    obtain ⟨ys, e1, q⟩ := isLst_iff.mp h
    obtain ⟨a, vs, h1, h2, h3⟩ := s.lst e1
    rw [h1] at q1
    cases q1
    exact ⟨_, vs.length, rfl, .inl ⟨vs, SqL.of h2, rfl⟩, by rw [h3.len]; exact k _ (.int ys.length) H S m (Ext.refl _ _) s rfl q⟩
theorem b_abs : CallR X (.builtin "abs") (rlOf X.K rAbs) := rlI L2.call_abs fun xs H Q ⟨m, S, ds, R, s, rx, h, k⟩ => by
  match ds, h, rx with
  | [.int i], h, rx =>
    obtain ⟨v, rfl, hv⟩ := reps1 rx
    have hv : v = .int i := hv
    subst hv
    refine ⟨i, rfl, ?_⟩
    have e : (if i < 0 then -i else i) = (i.natAbs : Int) := by split <;> omega
    rw [e]
    exact k _ (.int i.natAbs) H S m (Ext.refl _ _) s rfl h
theorem b_int : CallR X (.type "int") (rlOf X.K rInt) := rlI L2.call_int1 fun xs H Q ⟨m, S, ds, R, s, rx, h, k⟩ => by
  match ds, h, rx with
  | [.int i], h, rx =>
    obtain ⟨v, rfl, hv⟩ := reps1 rx
    have hv : v = .int i := hv
    subst hv
    exact .inl ⟨i, rfl, k _ (.int i) H S m (Ext.refl _ _) s rfl h⟩
  | [.bl i], h, rx =>
    obtain ⟨v, rfl, hv⟩ := reps1 rx
    have hv : v = .bl i := hv
    subst hv
    exact .inr ⟨i, rfl, k _ (.int (if i = true then 1 else 0)) H S m (Ext.refl _ _) s rfl h⟩
theorem b_max2 (hc : X.calm = true) : CallR X (.builtin "max") (rlOf X.K rMax2) := rlI (L2.call_max2 hc) fun xs H Q ⟨m, S, ds, R, s, rx, h, k⟩ => by
  match ds, h, rx with
  | [.int i, .int j], h, rx =>
    obtain ⟨v, u, rfl, hv, hu⟩ := reps2 rx
    have hv : v = .int i := hv
    have hu : u = .int j := hu
    subst hv hu
    refine ⟨i, j, rfl, ?_⟩
    have e : (if j > i then j else i) = max i j := by split <;> omega
    rw [e]
    exact k _ (.int (max i j)) H S m (Ext.refl _ _) s rfl h
theorem b_min2 (hc : X.calm = true) : CallR X (.builtin "min") (rlOf X.K rMin2) := rlI (L2.call_min2 hc) fun xs H Q ⟨m, S, ds, R, s, rx, h, k⟩ => by
  match ds, h, rx with
  | [.int i, .int j], h, rx =>
    obtain ⟨v, u, rfl, hv, hu⟩ := reps2 rx
    have hv : v = .int i := hv
    have hu : u = .int j := hu
    subst hv hu
    refine ⟨i, j, rfl, ?_⟩
    have e : (if j < i then j else i) = min i j := by split <;> omega
    rw [e]
    exact k _ (.int (min i j)) H S m (Ext.refl _ _) s rfl h
theorem b_list : CallR X (.type "list") (rlOf X.K rList) := rlI L2.call_list_of fun xs H Q ⟨m, S, ds, R, s, rx, h, k⟩ => by
  match ds, h, rx with
  | [.tup ys], h, rx =>
    obtain ⟨v, rfl, a, vs, rfl, hT, rs⟩ := reps1 rx
    exact ⟨a, vs, rfl, .inr hT.sqT, k.lst s rs h⟩
  | [.rol ys], h, rx =>
    obtain ⟨v, rfl, a, vs, rfl, hT, rs⟩ := reps1 rx
    exact ⟨a, vs, rfl, .inl hT.seq, k.lst s rs h⟩
  | [.ref n], h, rx =>
    obtain ⟨v, rfl, b, q1, rfl⟩ := reps1 rx
    obtain ⟨ys, e1, q⟩ := isLst_iff.mp h
    obtain ⟨a, vs, h1, h2, h3⟩ := s.lst e1
    rw [h1] at q1
    cases q1
    exact ⟨b, vs, rfl, .inl (SqL.of h2), k.lst s h3 q⟩
theorem b_tuple : CallR X (.type "tuple") (rlOf X.K rTuple) := rlI L2.call_tuple_of fun xs H Q ⟨m, S, ds, R, s, rx, h, k⟩ => by
  match ds, h, rx with
  | [.tup ys], h, rx =>
    obtain ⟨v, rfl, a, vs, rfl, hT, rs⟩ := reps1 rx
    exact ⟨a, vs, rfl, .inr ⟨hT.sqT, k _ (.tup ys) H S m (Ext.refl _ _) s ⟨a, vs, rfl, hT, rs⟩ h⟩⟩
  | [.rol ys], h, rx =>
    obtain ⟨v, rfl, a, vs, rfl, hT, rs⟩ := reps1 rx
    exact ⟨a, vs, rfl, .inl ⟨hT.seq, k.tup s rs h⟩⟩
  | [.ref n], h, rx =>
    obtain ⟨v, rfl, b, q1, rfl⟩ := reps1 rx
    obtain ⟨ys, e1, q⟩ := isLst_iff.mp h
    obtain ⟨a, vs, h1, h2, h3⟩ := s.lst e1
    rw [h1] at q1
    cases q1
    exact ⟨b, vs, rfl, .inl ⟨SqL.of h2, k.tup s h3 q⟩⟩
theorem b_all (hc : X.calm = true) : CallR X (.builtin "all") (rlOf X.K rAll) := rlI (L2.cr_all hc) fun xs H Q ⟨m, S, ds, R, s, rx, h, k⟩ => by
  match ds, h, rx with
  | [.ref n], h, rx =>
    obtain ⟨v, rfl, b, q1, rfl⟩ := reps1 rx
    obtain ⟨bs, e1, q⟩ := h
    obtain ⟨a, vs, h1, h2, h3⟩ := s.lst e1
    rw [h1] at q1
    cases q1
    exact ⟨b, bs, rfl, by rw [← h3.bls]; exact SqL.of h2, k _ (.bl (bs.all id)) H S m (Ext.refl _ _) s rfl q⟩
theorem b_any (hc : X.calm = true) : CallR X (.builtin "any") (rlOf X.K rAny) := rlI (L2.cr_any hc) fun xs H Q ⟨m, S, ds, R, s, rx, h, k⟩ => by
  match ds, h, rx with
  | [.ref n], h, rx =>
    obtain ⟨v, rfl, b, q1, rfl⟩ := reps1 rx
    obtain ⟨bs, e1, q⟩ := h
    obtain ⟨a, vs, h1, h2, h3⟩ := s.lst e1
    rw [h1] at q1
    cases q1
    exact ⟨b, bs, rfl, by rw [← h3.bls]; exact SqL.of h2, k _ (.bl (bs.any id)) H S m (Ext.refl _ _) s rfl q⟩
theorem b_gcd : CallR X (.builtin "math.gcd") (rlOf X.K rGcd) := rlI L2.cr_gcd fun xs H Q ⟨m, S, ds, R, s, rx, h, k⟩ => by
  match ds, h, rx with
  | [.int i, .int j], h, rx =>
    obtain ⟨v, u, rfl, hv, hu⟩ := reps2 rx
    have hv : v = .int i := hv
    have hu : u = .int j := hu
    subst hv hu
    exact ⟨i, j, rfl, k _ (.int (Nat.gcd i.natAbs j.natAbs : Nat)) H S m (Ext.refl _ _) s rfl h⟩
theorem kit5 {K : PySem.W.Frag} {a t : String} {b : Bool} (h : (["bool", "int", "str", "tuple", "list"].all fun t => decide (L2.kitB a t = some (if t = a then true else if (a, t) = ("bool", "int") then true else false))) = true) (ht : t ∈ ["bool", "int", "str", "tuple", "list"])
    (hb : b = (if t = a then true else if (a, t) = ("bool", "int") then true else false)) : PySem.W.kitOne K (.type a) (.type t) = some b := by
  refine L2.kit_ty ?_
  rw [hb]
  exact of_decide_eq_true (List.all_eq_true.mp h t ht)
theorem b_isi : CallR X (.builtin "isinstance") (rlOf X.K rIsi) := rlI L2.call_isi fun xs H Q ⟨m, S, ds, R, s, rx, h, k⟩ => by
  match ds, h, rx with
  | [d, .ty t], ⟨b, hb, q⟩, rx =>
    obtain ⟨v, u, rfl, hv, hu⟩ := reps2 rx
    have hu : u = .ty t := hu
    subst hu
    have fin : ∀ {T : String}, L2.TyX X.K H v (.type T) → PySem.W.kitOne X.K (.type T) (.type t) = some b → L2.rIsi X.K [v, .ty t] H Q := fun ty e => ⟨v, .ty t, _, _, b, rfl, .ty t, ty, e, k _ (.bl b) H S m (Ext.refl _ _) s rfl q⟩
    cases d with
    | non =>
      have hv : v = .non := hv
      subst hv
      have hb : (if t ∈ ["bool", "int", "str", "tuple", "list"] then some false else none) = some b := hb
      split at hb
      · rename_i ht
        cases hb
        refine fin (.base .non) ?_
        simp at ht
        rcases ht with rfl | rfl | rfl | rfl | rfl
        · exact kit5 (by decide +kernel) (by decide) (by decide)
        · exact kit5 (by decide +kernel) (by decide) (by decide)
        · exact kit5 (by decide +kernel) (by decide) (by decide)
        · exact kit5 (by decide +kernel) (by decide) (by decide)
        · exact kit5 (by decide +kernel) (by decide) (by decide)
      · cases hb
    | bl c =>
      have hv : v = .bl c := hv
      subst hv
      have hb : (if t ∈ ["bool", "int"] then some true else if t ∈ ["str", "tuple", "list"] then some false else none) = some b := hb
      refine fin (.base (.bl c)) ?_
      split at hb
      · rename_i ht
        cases hb
        simp at ht
        rcases ht with rfl | rfl
        · exact kit5 (by decide +kernel) (by decide) (by decide)
        · exact kit5 (by decide +kernel) (by decide) (by decide)
      · split at hb
        · rename_i ht
          cases hb
          simp at ht
          rcases ht with rfl | rfl | rfl
          · exact kit5 (by decide +kernel) (by decide) (by decide)
          · exact kit5 (by decide +kernel) (by decide) (by decide)
          · exact kit5 (by decide +kernel) (by decide) (by decide)
        · cases hb
    | int c =>
      have hv : v = .int c := hv
      subst hv
      have hb : (if t = "int" then some true else if t ∈ ["bool", "str", "tuple", "list"] then some false else none) = some b := hb
      refine fin (.base (.int c)) ?_
      split at hb
      · rename_i ht
        cases hb
        subst ht
        exact kit5 (by decide +kernel) (by decide) (by decide)
      · split at hb
        · rename_i ht
          cases hb
          simp at ht
          rcases ht with rfl | rfl | rfl | rfl
          · exact kit5 (by decide +kernel) (by decide) (by decide)
          · exact kit5 (by decide +kernel) (by decide) (by decide)
          · exact kit5 (by decide +kernel) (by decide) (by decide)
          · exact kit5 (by decide +kernel) (by decide) (by decide)
        · cases hb
    | str c =>
      have hv : v = .str c := hv
      subst hv
      have hb : (if t = "str" then some true else if t ∈ ["bool", "int", "tuple", "list"] then some false else none) = some b := hb
      refine fin (.base (.str c)) ?_
      split at hb
      · rename_i ht
        cases hb
        subst ht
        exact kit5 (by decide +kernel) (by decide) (by decide)
      · split at hb
        · rename_i ht
          cases hb
          simp at ht
          rcases ht with rfl | rfl | rfl | rfl
          · exact kit5 (by decide +kernel) (by decide) (by decide)
          · exact kit5 (by decide +kernel) (by decide) (by decide)
          · exact kit5 (by decide +kernel) (by decide) (by decide)
          · exact kit5 (by decide +kernel) (by decide) (by decide)
        · cases hb
    | tup c =>
      obtain ⟨a, vs, rfl, hT, rs⟩ := hv
      have hb : (if t = "tuple" then some true else if t ∈ ["bool", "int", "str", "list"] then some false else none) = some b := hb
      have ty : L2.TyX X.K H (.ref a) (.type "tuple") := by
        rcases hT.sqT with (hT | ⟨o, hT⟩) | ⟨o, its, n, h1, h2, _⟩
        · exact .base (.tup hT)
        · exact .fTuple hT
        · exact .kTuple h1 h2
      refine fin ty ?_
      split at hb
      · rename_i ht
        cases hb
        subst ht
        exact kit5 (by decide +kernel) (by decide) (by decide)
      · split at hb
        · rename_i ht
          cases hb
          simp at ht
          rcases ht with rfl | rfl | rfl | rfl
          · exact kit5 (by decide +kernel) (by decide) (by decide)
          · exact kit5 (by decide +kernel) (by decide) (by decide)
          · exact kit5 (by decide +kernel) (by decide) (by decide)
          · exact kit5 (by decide +kernel) (by decide) (by decide)
        · cases hb
    | _ => cases (show (none : Option Bool) = some b from hb)
end
end DL
set_option Elab.async false
set_option linter.all false
set_option maxRecDepth 100000
set_option maxHeartbeats 8000000
/-! DL7: sums, greatest and least, sorting, sorted sets of ints, methods of lists, stores. -/
namespace L2
open PySem PySem.Spec PyProof.Rows
section
variable {P : Program} {w : World} {A : Around} {E : Value → Shared → Prop} {s : Shared}
theorem set_ints_list {l : Addr} {items : Array Value} (ns : List Int) {Q : Value → Shared → Prop} (hh : A.handled = none) (hl : s.heap.IsList l items) (hit : IntsAre items.toList ns) (hb : ns.length + 1 < scanBound)
    (h : ∀ (h' : Heap) (tk c : Nat), SetR w h' s.heap.objs.size (fun j => decide (j ∈ ns)) c → c ≤ ns.length → (∀ b o, s.heap.get? b = some o → h'.get? b = some o) → Q (.ref s.heap.objs.size) { s with heap := h', toks := tk }) :
    wpAny (model P w) A (call (.type "set") [.ref l]) Q E s := by
  have hisz : items.size = ns.length := by
    have q := IntsAre.length hit
    rw [Array.length_toList] at q
    exact q
  obtain ⟨c, tl, hmro⟩ := F.called_set.mro
  have hmade := F.called_set.made
  have hsub := F.called_set.sub
  refine wpAny_call (codeAny_of_tree ?_)
  show wpAny _ _ (callAny (.type "set") _) _ _ _
  refine wpAny_pure ⟨Code.quiet_builtin _ (by decide +kernel), codeAny_builtin F.entry_type_call ?_⟩
  rw [Around.under_plain (weight_type_call_type "set" [.ref l] []) rfl]
  have h1 := F.called_set.notType
  have h2 := F.called_set.canCreate
  have hct := F.typeCall_set_1 (.ref l)
  repeat (any_goals (first | assumption | wp_step))

  refine codeAny_mono (code_set_led1 (.ref l) (E := E) (Q₁ := fun obj s₁ => obj = .ref s.heap.objs.size ∧ s₁ = { s with heap := s.heap.push { cls := .type "set", dict := none, data := .set #[] 0 (.fresh 0 0 (!w.params.followText "set-order")) } }) ⟨rfl, rfl⟩) fun r s₁ hr => ?_
  cases r with
  | error e => exact hr
  | ok fl =>
    cases fl with
    | ret obj =>
      obtain ⟨rfl, rfl⟩ := hr
      have hS : (s.heap.push { cls := .type "set", dict := none, data := .set #[] 0 (.fresh 0 0 (!w.params.followText "set-order")) }).get? s.heap.objs.size = some { cls := .type "set", dict := none, data := .set #[] 0 (.fresh 0 0 (!w.params.followText "set-order")) } := Heap.get?_push_size _ rfl
      have hT : Shared.TypeIs { s with heap := s.heap.push { cls := .type "set", dict := none, data := .set #[] 0 (.fresh 0 0 (!w.params.followText "set-order")) } } (.ref s.heap.objs.size) "set" := ⟨_, hS, rfl⟩
      have hli := F.called_set.init.lookup
      have hbi := F.called_set.init.bind (.ref s.heap.objs.size)
      repeat (any_goals (first | assumption | wp_step))

      refine codeAny_mono (codeAny_call_builtin (R := wants (fun r s₂ => r = .none ∧ ∃ h' tk c, s₂ = { s with heap := h', toks := tk } ∧ SetR w h' s.heap.objs.size (fun j => decide (j ∈ ns)) c ∧ c ≤ ns.length ∧
          (∀ b o, s.heap.get? b = some o → h'.get? b = some o)) E) F.called_set.init.plain F.entry_set_init (check_set_init_1 hT ?_)) fun r₂ s₂ hr₂ => ?_
      · obtain ⟨ol, hol, hcl, nl, hdl⟩ := hl
        obtain ⟨ocls, odict, odata, oslots⟩ := ol
        simp only at hcl hdl
        subst hcl; subst hdl
        have hol' : (s.heap.push { cls := .type "set", dict := none, data := .set #[] 0 (.fresh 0 0 (!w.params.followText "set-order")) }).get? l = some { cls := .type "list", dict := odict, data := .seq items nl, slots := oslots } := Heap.get?_push_of_some _ hol
        have hsls := F.sub_list_set
        have hslf := F.sub_list_frozenset
        have hne : (Value.type "list" == Value.type "dict") = false := by decide
        have hl1 : (s.heap.push { cls := .type "set", dict := none, data := .set #[] 0 (.fresh 0 0 (!w.params.followText "set-order")) }).IsList l items := ⟨_, hol', rfl, nl, rfl⟩
        unfold Builtin.«set.__init__» noKeywords Builtin.Frozenset.updateFrom
        generalize hPI : pyIter = PI
        wp_walk
        subst hPI

        refine wpAny_pyIter_list hl1 ?_
        refine wpAny_bind (wpAny_runValue ?_)
        have hlS : l < s.heap.objs.size := Heap.lt_size hol
        have hh3 : A.in1.in1.in1.handled = none := by simp [hh]
        have hz1 : (s.heap.push { cls := .type "set", dict := none, data := .set #[] 0 (.fresh 0 0 (!w.params.followText "set-order")) }).objs.size = s.heap.objs.size + 1 := Heap.size_push ..
        have hneI : l ≠ (s.heap.push { cls := .type "set", dict := none, data := .set #[] 0 (.fresh 0 0 (!w.params.followText "set-order")) }).objs.size := by
          rw [Heap.size_push]; exact Nat.ne_of_lt (Nat.lt_succ_of_lt hlS)
        have hSf : s.heap.objs.size ∉ [(s.heap.push { cls := .type "set", dict := none, data := .set #[] 0 (.fresh 0 0 (!w.params.followText "set-order")) }).objs.size, l] := by
          rw [Heap.size_push]; simp only [List.mem_cons, List.mem_singleton, List.not_mem_nil, or_false, not_or]
          exact ⟨Nat.ne_of_lt (Nat.lt_succ_self _), Nat.ne_of_gt hlS⟩
        have hval : ∀ (i : Nat) (v : Value), items[i]? = some v → ∃ k t, ns[i]? = some k ∧ v = .int k t := fun i v hv => by
          have hi : i < ns.length := by rw [← hisz]; exact (Array.getElem?_eq_some_iff.mp hv).1
          obtain ⟨t, e⟩ := PyProof.Rows.IntsAre.int_at hit i v (by rw [Array.getElem?_toList]; exact hv)
          refine ⟨ns[i], t, List.getElem?_eq_getElem hi, ?_⟩
          rw [e, List.getD_eq_getElem?_getD, List.getElem?_eq_getElem hi] <;> rfl
        refine set_update_ints ((Walks.list hh3 _ l hneI items).toS) s.heap.objs.size
          hSf ns hisz hb hval (items.size - 0) 0 _ (by omega) (Nat.zero_le _)
          ⟨⟨_, Heap.get?_push_size _ rfl, rfl, rfl⟩, (hl1.push _)⟩ ?hS0 ?hR
        case hS0 =>
          have hget : ((s.heap.push { cls := .type "set", dict := none, data := .set #[] 0 (.fresh 0 0 (!w.params.followText "set-order")) }).push { cls := .type "list_iterator", data := .fields #[.ref l, .int 0 0] }).get? s.heap.objs.size
              = some { cls := .type "set", dict := none, data := .set #[] 0 (.fresh 0 0 (!w.params.followText "set-order")) } := Heap.get?_push_of_some _ hS
          exact ⟨0, Nat.le_refl 0, setR_new_at hget⟩
        case hR =>
          intro s' c' hm hc' hS'
          obtain ⟨h', g2, d', tk', os'⟩ := s'
          have eg : g2 = s.gens := hm.gens
          have ed : d' = s.drawn := hm.drawn
          have eo : os' = s.os := hm.os
          subst eg; subst ed; subst eo
          show wpAny _ _ _ _ _ _
          refine wpAny_pure ?_
          show wpAny _ _ (ret Value.none) _ _ _
          rw [hisz] at hc'
          refine wpAny_pure ⟨rfl, h', tk', c', rfl, hS', hc', fun b o e => ?_⟩
          have hb0 : b < s.heap.objs.size := Heap.lt_size e
          have hb1 : b ≠ s.heap.objs.size := Nat.ne_of_lt hb0
          have hb2 : b ≠ (s.heap.push { cls := .type "set", dict := none, data := .set #[] 0 (.fresh 0 0 (!w.params.followText "set-order")) }).objs.size := by
            rw [Heap.size_push]; exact Nat.ne_of_lt (Nat.lt_succ_of_lt hb0)
          exact hm.heap b o (by simp only [List.mem_cons, List.mem_singleton, List.not_mem_nil, or_false, not_or]; exact ⟨hb1, hb2⟩) (Heap.get?_push_of_some _ (Heap.get?_push_of_some _ e))

      · cases r₂ with
        | error e => exact hr₂
        | ok fl₂ =>
          cases fl₂ with
          | ret r =>
            obtain ⟨rfl, h', tk, c', rfl, hS', hc', hk'⟩ := hr₂
            repeat (any_goals (first | assumption | wp_step))
            exact h _ _ _ hS' hc' hk'
          | _ => exact hr₂.elim
    | _ => exact hr.elim

end
end L2
namespace DL
open PySem PySem.Spec
open L2 (V Hp HO St TE TT TA TS TG TI TO PE PT PW PA PS PSs PG PI PO Cx Inv RelV Vals SqL SqT Rd upd upd_same upd_ne ne_of ne_of_none OpR UnR CallR MtR IxR SlR It thn)
section
variable {X : Cx}
theorem sum_tup (hc : X.calm = true) : CallR X (.builtin "sum") (fun xs H Q => ∃ (a : Addr) (ns : List Int), xs = [V.ref a] ∧ SqT X.K H a (ns.map V.int) ∧ Q (.int ns.sum) H) := by
  intro pins s σ H xs us Q I r h
  obtain ⟨a, ns, rfl, hT, q⟩ := h
  rw [L2.Vals.ref1 r]
  obtain ⟨its, rv, pt, _⟩ := I.tuple hT
  have hi := L2.Vals.ints rv
  obtain ⟨zs, e⟩ := hi.allInts.items
  have hn : numsOf (intItems zs).toList = ns := by rw [← e]; exact hi.numsOf
  rw [nums_intItems] at hn
  have pt' : s.heap.IsTuple a (intItems zs) := by rw [← e]; exact pt
  refine PySem.W.ktm_sumG (I.ok.hd hc) pt' fun h' tk t' hk => ?_
  have e2 : preSum (numAt zs) zs.size = ns.sum := by rw [preSum_eq, List.take_of_length_le (by simp), hn]
  rw [e2]
  exact ⟨.int ns.sum, H, I.kept (h' := h') (t' := tk) hk, ⟨t', rfl⟩, q⟩
theorem itemsAt_rep {K : PySem.W.Frag} {H : Hp} {m : List Addr} {S : Sto} {d : D} {v : V} {xs : List D} (s : RepS K H m S) (r : Rep K H m d v) (h : itemsAt d S = some xs) : (∃ a vs, v = .ref a ∧ SqL K H a vs ∧ Reps K H m xs vs) ∨ ∃ a vs, v = .ref a ∧ SqT K H a vs ∧ Reps K H m xs vs := by
  cases d with
  | tup ys =>
    have h : some ys = some xs := h
    cases h
    obtain ⟨a, vs, rfl, hT, rs⟩ := r
    exact .inr ⟨a, vs, rfl, hT.sqT, rs⟩
  | ref n =>
    obtain ⟨a, ha, rfl⟩ := r
    have h : (match S[n]? with
      | some (.lst xs) => some xs
      | _ => none) = some xs := h
    split at h
    · rename_i ys hy
      cases h
      obtain ⟨b, vs, h1, h2, h3⟩ := s.lst hy
      rw [ha] at h1
      cases h1
      exact .inl ⟨a, vs, rfl, SqL.of h2, h3⟩
    · cases h
  | _ => cases (show (none : Option (List D)) = some xs from h)
theorem b_sum (hc : X.calm = true) : CallR X (.builtin "sum") (rlOf X.K rSum) := rlI ((L2.cr_sum hc).or (sum_tup hc)) fun xs H Q ⟨m, S, ds, R, s, rx, h, k⟩ => by
  match ds, h, rx with
  | [d], ⟨ns, h1, q⟩, rx =>
    obtain ⟨v, rfl, hv⟩ := reps1 rx
    rcases itemsAt_rep s hv h1 with ⟨a, vs, rfl, hL, rs⟩ | ⟨a, vs, rfl, hL, rs⟩
    · exact .inl ⟨a, ns, rfl, by rw [← rs.ints]; exact hL, k _ (.int ns.sum) H S m (Ext.refl _ _) s rfl q⟩
    · exact .inr ⟨a, ns, rfl, by rw [← rs.ints]; exact hL, k _ (.int ns.sum) H S m (Ext.refl _ _) s rfl q⟩

theorem readsI {h : Heap} : ∀ {us : List Value} {ns : List Int}, PyProof.Rows.IntsAre us ns → ReadsAll h us (ns.map PyData.int) []
  | _, _, .nil => .nil
  | _, _, .cons n t r => by
    have := ReadsAll.cons (h := h) (Reads.int n t) (readsI r)
    simpa using this
theorem alike_all_ints (ns : List Int) : PySem.W.AlikeAll (ns.map PyData.int) := by
  refine ⟨fun x hx y hy => ?_, fun x hx z => ?_⟩
  · obtain ⟨a, _, rfl⟩ := List.mem_map.mp hx
    obtain ⟨b, _, rfl⟩ := List.mem_map.mp hy
    simp [PySem.W.alike]
  · obtain ⟨a, _, rfl⟩ := List.mem_map.mp hx
    cases z
theorem fold_max : ∀ (ns : List Int) (n : Int), (ns.foldl max n = n ∨ ns.foldl max n ∈ ns) ∧ n ≤ ns.foldl max n ∧ ∀ y ∈ ns, y ≤ ns.foldl max n
  | [], n => ⟨.inl rfl, Int.le_refl _, fun y hy => nomatch hy⟩
  | a :: ns, n => by
    obtain ⟨h1, h2, h3⟩ := fold_max ns (max n a)
    rw [List.foldl_cons]
    refine ⟨?_, by omega, fun y hy => ?_⟩
    · rcases h1 with h1 | h1
      · rw [h1]
        by_cases c : n ≤ a
        · exact .inr (by rw [Int.max_eq_right c]; exact List.mem_cons_self)
        · exact .inl (Int.max_eq_left (by omega))
      · exact .inr (List.mem_cons_of_mem _ h1)
    · rcases List.mem_cons.mp hy with rfl | hy
      · omega
      · exact h3 y hy
theorem fold_min : ∀ (ns : List Int) (n : Int), (ns.foldl min n = n ∨ ns.foldl min n ∈ ns) ∧ ns.foldl min n ≤ n ∧ ∀ y ∈ ns, ns.foldl min n ≤ y
  | [], n => ⟨.inl rfl, Int.le_refl _, fun y hy => nomatch hy⟩
  | a :: ns, n => by
    obtain ⟨h1, h2, h3⟩ := fold_min ns (min n a)
    rw [List.foldl_cons]
    refine ⟨?_, by omega, fun y hy => ?_⟩
    · rcases h1 with h1 | h1
      · rw [h1]
        by_cases c : a ≤ n
        · exact .inr (by rw [Int.min_eq_right c]; exact List.mem_cons_self)
        · exact .inl (Int.min_eq_left (by omega))
      · exact .inr (List.mem_cons_of_mem _ h1)
    · rcases List.mem_cons.mp hy with rfl | hy
      · omega
      · exact h3 y hy
theorem depth_ints : ∀ ns : List Int, PyData.depthAll (ns.map PyData.int) = 0
  | [] => rfl
  | n :: ns => by
    show max 0 (PyData.depthAll (ns.map PyData.int)) = 0
    rw [depth_ints ns]
    rfl
theorem max_tup {kk : Nat} (hc : X.calm = true) (hr : L2.Room kk X.A) : CallR X (.builtin "max") (fun xs H Q => ∃ (a : Addr) (ns : List Int), xs = [V.ref a] ∧ SqT X.K H a (ns.map V.int) ∧ 0 < ns.length ∧ ∀ m, m ∈ ns → (∀ y, y ∈ ns → y ≤ m) → Q (.int m) H) := by
  intro pins s σ H xs us Q I r h
  obtain ⟨a, ns, rfl, hT, hn, q⟩ := h
  rw [L2.Vals.ref1 r]
  obtain ⟨its, rv, pt, _⟩ := I.tuple hT
  have hi := L2.Vals.ints rv
  cases ns with
  | nil => exact absurd hn (Nat.lt_irrefl 0)
  | cons n ns =>
    refine PySem.W.max_tuple_data (I.ok.hd hc) (show s.heap.IsTuple a its.toArray from pt) (x := .int n) (xs := ns.map PyData.int) (as := []) (by simpa using readsI hi) (alike_all_ints (n :: ns)) ?_ fun i v h' tk bs _ rd hk => ?_
    · have e := depth_ints (n :: ns)
      rw [List.map_cons] at e
      rw [e]
      have := hr.un
      omega
    · rw [PySem.W.maxD_ints] at rd
      obtain ⟨h1, h2, h3⟩ := fold_max ns n
      cases rd with
      | int _ t =>
        refine ⟨.int (ns.foldl max n), H, I.kept (h' := h') (t' := tk) hk, ⟨t, rfl⟩, q _ ?_ fun y hy => ?_⟩
        · rcases h1 with h1 | h1
          · rw [h1]; exact List.mem_cons_self
          · exact List.mem_cons_of_mem _ h1
        · rcases List.mem_cons.mp hy with rfl | hy
          · exact h2
          · exact h3 y hy
theorem min_tup {kk : Nat} (hc : X.calm = true) (hr : L2.Room kk X.A) : CallR X (.builtin "min") (fun xs H Q => ∃ (a : Addr) (ns : List Int), xs = [V.ref a] ∧ SqT X.K H a (ns.map V.int) ∧ 0 < ns.length ∧ ∀ m, m ∈ ns → (∀ y, y ∈ ns → m ≤ y) → Q (.int m) H) := by
  intro pins s σ H xs us Q I r h
  obtain ⟨a, ns, rfl, hT, hn, q⟩ := h
  rw [L2.Vals.ref1 r]
  obtain ⟨its, rv, pt, _⟩ := I.tuple hT
  have hi := L2.Vals.ints rv
  cases ns with
  | nil => exact absurd hn (Nat.lt_irrefl 0)
  | cons n ns =>
    refine PySem.W.min_tuple_data (I.ok.hd hc) (show s.heap.IsTuple a its.toArray from pt) (x := .int n) (xs := ns.map PyData.int) (as := []) (by simpa using readsI hi) (alike_all_ints (n :: ns)) ?_ fun i v h' tk bs _ rd hk => ?_
    · have e := depth_ints (n :: ns)
      rw [List.map_cons] at e
      rw [e]
      have := hr.un
      omega
    · rw [PySem.W.minD_ints] at rd
      obtain ⟨h1, h2, h3⟩ := fold_min ns n
      cases rd with
      | int _ t =>
        refine ⟨.int (ns.foldl min n), H, I.kept (h' := h') (t' := tk) hk, ⟨t, rfl⟩, q _ ?_ fun y hy => ?_⟩
        · rcases h1 with h1 | h1
          · rw [h1]; exact List.mem_cons_self
          · exact List.mem_cons_of_mem _ h1
        · rcases List.mem_cons.mp hy with rfl | hy
          · exact h2
          · exact h3 y hy
theorem b_max {kk : Nat} (hc : X.calm = true) (hr : L2.Room kk X.A) : CallR X (.builtin "max") (rlOf X.K rMax) := rlI ((L2.cr_max hc).or (max_tup hc hr)) fun xs H Q ⟨m, S, ds, R, s, rx, h, k⟩ => by
  match ds, h, rx with
  | [d], ⟨ns, h1, h2, q⟩, rx =>
    obtain ⟨v, rfl, hv⟩ := reps1 rx
    rcases itemsAt_rep s hv h1 with ⟨a, vs, rfl, hL, rs⟩ | ⟨a, vs, rfl, hL, rs⟩
    · exact .inl ⟨a, ns, rfl, by rw [← rs.ints]; exact hL, h2, fun n hn hy => k _ (.int n) H S m (Ext.refl _ _) s rfl (q n hn hy)⟩
    · exact .inr ⟨a, ns, rfl, by rw [← rs.ints]; exact hL, h2, fun n hn hy => k _ (.int n) H S m (Ext.refl _ _) s rfl (q n hn hy)⟩
theorem b_min {kk : Nat} (hc : X.calm = true) (hr : L2.Room kk X.A) : CallR X (.builtin "min") (rlOf X.K rMin) := rlI ((L2.cr_min hc).or (min_tup hc hr)) fun xs H Q ⟨m, S, ds, R, s, rx, h, k⟩ => by
  match ds, h, rx with
  | [d], ⟨ns, h1, h2, q⟩, rx =>
    obtain ⟨v, rfl, hv⟩ := reps1 rx
    rcases itemsAt_rep s hv h1 with ⟨a, vs, rfl, hL, rs⟩ | ⟨a, vs, rfl, hL, rs⟩
    · exact .inl ⟨a, ns, rfl, by rw [← rs.ints]; exact hL, h2, fun n hn hy => k _ (.int n) H S m (Ext.refl _ _) s rfl (q n hn hy)⟩
    · exact .inr ⟨a, ns, rfl, by rw [← rs.ints]; exact hL, h2, fun n hn hy => k _ (.int n) H S m (Ext.refl _ _) s rfl (q n hn hy)⟩
/-! methods, stores -/
theorem refL {K : PySem.W.Frag} {H : Hp} {m : List Addr} {S : Sto} {n : Nat} {x : V} {P : List D → Prop} (s : RepS K H m S) (r : Rep K H m (.ref n) x) (h : isLst S n P) : ∃ a vs xs, x = .ref a ∧ m[n]? = some a ∧ H a = some (.lst vs) ∧ Reps K H m xs vs ∧ S[n]? = some (.lst xs) ∧ P xs := by
  obtain ⟨xs, e1, q⟩ := isLst_iff.mp h
  obtain ⟨a, vs, h1, h2, h3⟩ := s.lst e1
  obtain ⟨b, q1, rfl⟩ := r
  rw [h1] at q1
  cases q1
  exact ⟨_, vs, xs, rfl, h1, h2, h3, e1, q⟩
theorem m_append : MtR X "list.append" (rmOf X.K rAppend) := rmI L2.mt_append fun x xs H Q ⟨m, S, d, ds, R, s, rx, rs, h, k⟩ => by
  match d, ds, h, rx, rs with
  | .ref n, [d], h, rx, rs =>
    obtain ⟨a, vs, ys, rfl, h1, h2, h3, e1, hz, q⟩ := refL s rx h
    obtain ⟨v, rfl, hv⟩ := reps1 rs
    exact ⟨a, vs, v, rfl, rfl, h2, by rw [h3.len, ← szL']; exact hz, k.put s e1 h1 h2 (h3.app (Reps.one hv)) (d := .non) rfl q⟩
theorem m_pop : MtR X "list.pop" (rmOf X.K rPop) := rmI L2.mt_pop fun x xs H Q ⟨m, S, d, ds, R, s, rx, rs, h, k⟩ => by
  match d, ds, h, rx, rs with
  | .ref n, [], h, rx, rs =>
    obtain ⟨a, vs, ys, rfl, h1, h2, h3, e1, d, hd, q⟩ := refL s rx h
    obtain ⟨v, g1, g2⟩ := h3.get _ _ hd
    exact ⟨a, vs, v, rfl, rs, h2, by rw [h3.len]; exact g1, k.put s e1 h1 h2 h3.dropLast g2 q⟩
theorem ixZ_seq {n : Nat} {i : Int} {j : Nat} (h : ixZ n i = some j) : seqIndex? i n = some j ∧ j < n ∧ -(n : Int) ≤ i ∧ i < n := L2.ixN_seq h
theorem m_popAt : MtR X "list.pop" (rmOf X.K rPopAt) := rmI L2.mt_popAt fun x xs H Q ⟨m, S, d, ds, R, s, rx, rs, h, k⟩ => by
  match d, ds, h, rx, rs with
  | .ref n, [.int i], h, rx, rs =>
    obtain ⟨a, vs, ys, rfl, h1, h2, h3, e1, ⟨i0, i1⟩, j, d, hj, hd, q⟩ := refL s rx h
    obtain ⟨v, rfl, hv⟩ := reps1 rs
    have hv : v = .int i := hv
    subst hv
    obtain ⟨u, g1, g2⟩ := h3.get _ _ hd
    obtain ⟨p1, p2, p3, p4⟩ := ixZ_seq hj
    exact ⟨a, vs, i, j, u, rfl, rfl, h2, i0, i1, by rw [h3.len]; exact p1, g1, k.put s e1 h1 h2 (h3.erase j) g2 q⟩
theorem m_reverse : MtR X "list.reverse" (rmOf X.K rReverse) := rmI L2.mt_reverse fun x xs H Q ⟨m, S, d, ds, R, s, rx, rs, h, k⟩ => by
  match d, ds, h, rx, rs with
  | .ref n, [], h, rx, rs =>
    obtain ⟨a, vs, ys, rfl, h1, h2, h3, e1, q⟩ := refL s rx h
    exact ⟨a, vs, rfl, rs, h2, k.put s e1 h1 h2 h3.rev (d := .non) rfl q⟩
theorem m_insert : MtR X "list.insert" (rmOf X.K rInsert) := rmI L2.mt_insert fun x xs H Q ⟨m, S, d, ds, R, s, rx, rs, h, k⟩ => by
  match d, ds, h, rx, rs with
  | .ref n, [.int i, d], h, rx, rs =>
    obtain ⟨a, vs, ys, rfl, h1, h2, h3, e1, hz, ⟨i0, i1⟩, q⟩ := refL s rx h
    obtain ⟨v, u, rfl, hv, hu⟩ := reps2 rs
    have hv : v = .int i := hv
    subst hv
    exact ⟨a, vs, i, u, rfl, rfl, h2, by rw [h3.len, ← szL']; exact hz, i0, i1, k.put s e1 h1 h2 (((h3.take _).app (Reps.one hu)).app (h3.drop _)) (d := .non) rfl q⟩
theorem p_put : L2.PSet X (rpOf X.K rPut) := fun pins s σ H o i v ov iv u Q I ro ri rv ⟨m, S, x, j, d, R, hs, rx, rk, rd, h, k⟩ => by
  match x, j, h, rx, rk with
  | .ref n, .int z, h, rx, rk =>
    obtain ⟨a, vs, ys, rfl, h1, h2, h3, e1, jj, hj, q⟩ := refL hs rx h
    have rk : i = .int z := rk
    subst rk
    refine L2.set_list pins s σ H (.ref a) (.int z) v ov iv u Q I ro ri rv ⟨a, vs, z, jj, rfl, rfl, h2, by rw [h3.len]; exact hj, ?_⟩
    exact k _ _ m (Ext.wrote (List.mem_of_getElem? h1) h2 rfl) (hs.set e1 h1 (h3.set jj rd)) q

/-! sorting -/
mutual
theorem akin_eq : ∀ a b : D, akin a b = true → PySem.W.alike (toPy a) (toPy b) = true
  | .int _, .int _, _ => by simp [toPy, PySem.W.alike]
  | .str _, .str _, _ => by simp [toPy, PySem.W.alike]
  | .tup xs, .tup ys, h => by
    have := akins_eq xs ys h
    simpa [toPy, PySem.W.alike] using this
  | .non, b, h => by cases b <;> cases (show false = true from h)
  | .bl _, b, h => by cases b <;> cases (show false = true from h)
  | .rol _, b, h => by cases b <;> cases (show false = true from h)
  | .ref _, b, h => by cases b <;> cases (show false = true from h)
  | .ty _, b, h => by cases b <;> cases (show false = true from h)
  | .int _, .non, h | .int _, .bl _, h | .int _, .str _, h | .int _, .tup _, h | .int _, .rol _, h | .int _, .ref _, h | .int _, .ty _, h => by cases (show false = true from h)
  | .str _, .non, h | .str _, .bl _, h | .str _, .int _, h | .str _, .tup _, h | .str _, .rol _, h | .str _, .ref _, h | .str _, .ty _, h => by cases (show false = true from h)
  | .tup _, .non, h | .tup _, .bl _, h | .tup _, .int _, h | .tup _, .str _, h | .tup _, .rol _, h | .tup _, .ref _, h | .tup _, .ty _, h => by cases (show false = true from h)
theorem akins_eq : ∀ a b : List D, akins a b = true → PySem.W.alikeAll (toPys a) (toPys b) = true
  | [], _, _ => by simp [toPys, PySem.W.alikeAll]
  | _ :: _, [], _ => by simp [toPys, PySem.W.alikeAll]
  | x :: xs, y :: ys, h => by
    have h := Bool.and_eq_true_iff.mp (show (akin x y && akins xs ys) = true from h)
    simp [toPys, PySem.W.alikeAll, akin_eq x y h.1, akins_eq xs ys h.2]
end
mutual
theorem lt_eq : ∀ a b : D, flat a = true → flat b = true → akin a b = true → PySem.W.dataLt (toPy a) (toPy b) = ltD a b
  | .int i, .int j, _, _, _ => PySem.W.dataLt_int i j
  | .str i, .str j, _, _, _ => PySem.W.dataLt_str i j
  | .tup xs, .tup ys, f, g, h => by
    show PySem.W.dataLt (.tuple (toPys xs)) (.tuple (toPys ys)) = ltDs xs ys
    rw [PySem.W.dataLt_tuple]
    exact lts_eq xs ys f g h
  | .non, b, _, _, h => by cases b <;> cases (show false = true from h)
  | .bl _, b, _, _, h => by cases b <;> cases (show false = true from h)
  | .rol _, b, _, _, h => by cases b <;> cases (show false = true from h)
  | .ref _, b, _, _, h => by cases b <;> cases (show false = true from h)
  | .ty _, b, _, _, h => by cases b <;> cases (show false = true from h)
  | .int _, .non, _, _, h | .int _, .bl _, _, _, h | .int _, .str _, _, _, h | .int _, .tup _, _, _, h | .int _, .rol _, _, _, h | .int _, .ref _, _, _, h | .int _, .ty _, _, _, h => by cases (show false = true from h)
  | .str _, .non, _, _, h | .str _, .bl _, _, _, h | .str _, .int _, _, _, h | .str _, .tup _, _, _, h | .str _, .rol _, _, _, h | .str _, .ref _, _, _, h | .str _, .ty _, _, _, h => by cases (show false = true from h)
  | .tup _, .non, _, _, h | .tup _, .bl _, _, _, h | .tup _, .int _, _, _, h | .tup _, .str _, _, _, h | .tup _, .rol _, _, _, h | .tup _, .ref _, _, _, h | .tup _, .ty _, _, _, h => by cases (show false = true from h)
theorem lts_eq : ∀ a b : List D, flats a = true → flats b = true → akins a b = true → PyProof.Rows.lexLt PyProof.Rows.itemOrd (PySem.W.keyToksAll (toPys a)) (PySem.W.keyToksAll (toPys b)) = ltDs a b
  | [], [], _, _, _ => PyProof.Rows.lex_irrefl _
  | [], y :: ys, _, _, _ => by
    exact PyProof.Rows.lex_true.mpr (.inl rfl)
  | x :: xs, [], _, _, _ => by
    exact PyProof.Rows.lex_false.mpr ⟨rfl, .inl rfl⟩
  | x :: xs, y :: ys, f, g, h => by
    have f := Bool.and_eq_true_iff.mp (show (flat x && flats xs) = true from f)
    have g := Bool.and_eq_true_iff.mp (show (flat y && flats ys) = true from g)
    have h := Bool.and_eq_true_iff.mp (show (akin x y && akins xs ys) = true from h)
    show PyProof.Rows.lexLt PyProof.Rows.itemOrd (PySem.W.keyToksAll (toPy x :: toPys xs)) (PySem.W.keyToksAll (toPy y :: toPys ys)) = if eqD x y = true then ltDs xs ys else ltD x y
    rw [PySem.W.dataLt_cons (akin_eq x y h.1), eqv_eq x y f.1 g.1, lts_eq xs ys f.2 g.2 h.2, lt_eq x y f.1 g.1 h.1]
end

theorem sort_trans (a b c : D) : PySem.W.dataLe false toPy a b = true → PySem.W.dataLe false toPy b c = true → PySem.W.dataLe false toPy a c = true := by
  rw [PySem.W.dataLe_eq]
  show (!PySem.W.dataLt (toPy b) (toPy a)) = true → (!PySem.W.dataLt (toPy c) (toPy b)) = true → (!PySem.W.dataLt (toPy c) (toPy a)) = true
  intro h1 h2
  cases e : PySem.W.dataLt (toPy c) (toPy a) with
  | false => rfl
  | true =>
    rcases PyProof.Rows.lex_negTrans _ (PySem.W.keyToks (toPy b)) _ e with q | q
    · rw [show PySem.W.dataLt (toPy c) (toPy b) = true from q] at h2; cases h2
    · rw [show PySem.W.dataLt (toPy b) (toPy a) = true from q] at h1; cases h1
theorem sort_total (a b : D) : (PySem.W.dataLe false toPy a b || PySem.W.dataLe false toPy b a) = true := by
  rw [PySem.W.dataLe_eq]
  show ((!PySem.W.dataLt (toPy b) (toPy a)) || (!PySem.W.dataLt (toPy a) (toPy b))) = true
  cases e : PySem.W.dataLt (toPy b) (toPy a) with
  | false => rfl
  | true =>
    cases e2 : PySem.W.dataLt (toPy a) (toPy b) with
    | false => rfl
    | true =>
      have := PyProof.Rows.lex_trans _ _ _ (show PyProof.Rows.lexLt PyProof.Rows.itemOrd (PySem.W.keyToks (toPy b)) (PySem.W.keyToks (toPy a)) = true from e) e2
      rw [PyProof.Rows.lex_irrefl] at this
      cases this
theorem flats_mem : ∀ {xs : List D}, flats xs = true → ∀ a ∈ xs, flat a = true
  | [], _, a, h => nomatch h
  | x :: xs, f, a, h => by
    have f := Bool.and_eq_true_iff.mp (show (flat x && flats xs) = true from f)
    rcases List.mem_cons.mp h with rfl | h
    · exact f.1
    · exact flats_mem f.2 a h
theorem deeps_mem : ∀ {xs : List D} (a : D), a ∈ xs → deep a ≤ deeps xs
  | [], a, h => nomatch h
  | x :: xs, a, h => by
    show deep a ≤ max (deep x) (deeps xs)
    rcases List.mem_cons.mp h with rfl | h
    · exact Nat.le_max_left _ _
    · exact Nat.le_trans (deeps_mem a h) (Nat.le_max_right _ _)
/-- a value that stands for plain data -/
def Stands (K : PySem.W.Frag) (H : Hp) (m : List Addr) (u : Value) (d : D) : Prop := ∃ v, RelV v u ∧ Rep K H m d v
theorem stands_all {K : PySem.W.Frag} {H : Hp} {m : List Addr} : ∀ {ds : List D} {vs : List V} {us : List Value}, Reps K H m ds vs → Vals vs us → PySem.W.EachIs (Stands K H m) us ds
  | [], _, _, r, rv => by
    rw [show _ = ([] : List V) from r] at rv
    cases rv
    exact .nil
  | d :: ds, _, _, ⟨v, r, h1, h2, h3⟩, rv => by
    subst h1
    cases rv with
    | cons a b => exact .cons ⟨v, a, h2⟩ (stands_all h3 b)
theorem stands_back {K : PySem.W.Frag} {H : Hp} {m : List Addr} : ∀ {ds : List D} {us : List Value}, PySem.W.EachIs (Stands K H m) us ds → ∃ vs, Reps K H m ds vs ∧ Vals vs us
  | _, _, .nil => ⟨[], rfl, .nil⟩
  | _, _, .cons ⟨v, h1, h2⟩ t => by
    obtain ⟨vs, g1, g2⟩ := stands_back t
    exact ⟨v :: vs, ⟨v, vs, rfl, h2, g1⟩, .cons h1 g2⟩
theorem toPy_tup {d : D} {x : D} {r : List D} (h : d = .tup (x :: r)) : ∃ y s, toPy d = .tuple (y :: s) := ⟨toPy x, toPys r, by rw [h]; rfl⟩
theorem b_sorted {kk : Nat} (hr : L2.Room kk X.A) : CallR X (.builtin "sorted") (rlOf X.K rSorted) := by
  intro pins s σ H vs us Q I rv ⟨m, S, ds, R, hS, rs, h, k⟩
  match ds, h, rs with
  | [.ref n], h, rs =>
    obtain ⟨v, rfl, hv⟩ := reps1 rs
    obtain ⟨a, ws, xs, rfl, h1, h2, h3, e1, ⟨f, dp, ak, so⟩, q⟩ := refL hS hv h
    rw [L2.Vals.ref1 rv]
    obtain ⟨its, rw', pl, hz⟩ := I.list (SqL.of h2)
    have st := stands_all h3 rw'
    have hm : ∀ b ∈ xs, flat b = true := flats_mem f
    have rd : ∀ {ds : List D} {us : List Value}, PySem.W.EachIs (Stands X.K H m) us ds → (∀ d ∈ ds, flat d = true) → PySem.W.EachIs (fun u d => ∃ as, Reads s.heap u (toPy d) as) us ds := by
      intro ds us e
      induction e with
      | nil => intro _; exact .nil
      | cons h t ih =>
        intro hf
        obtain ⟨v, g1, g2⟩ := h
        exact .cons (L2.Dp.reads I _ _ _ (toPy_dp _ _ (hf _ List.mem_cons_self) g2) g1) (ih fun d hd => hf d (List.mem_cons_of_mem _ hd))
    refine PySem.W.sorted_data (enc := toPy) (bs := xs) (R := Stands X.K H m) pl.isList st (rd st hm) ?_ ?_ (by rw [← h3.len]; exact hz) (fun b hb => ?_) fun out ho eo => ?_
    · intro d hd d' hd'
      obtain ⟨b, hb, rfl⟩ := List.mem_map.mp hd
      obtain ⟨b', hb', rfl⟩ := List.mem_map.mp hd'
      exact akin_eq b b' (ak b hb b' hb')
    · rcases so with so | so
      · refine .inl fun d hd => ?_
        obtain ⟨b, hb, rfl⟩ := List.mem_map.mp hd
        obtain ⟨x, r, e⟩ := so b hb
        exact toPy_tup e
      · refine .inr fun d hd => ?_
        obtain ⟨b, hb, rfl⟩ := List.mem_map.mp hd
        obtain ⟨n1, n2⟩ := so b hb
        have fb := hm b hb
        cases b with
        | non => exact absurd rfl n1
        | tup ys => exact absurd rfl (n2 ys)
        | rol _ => cases (show false = true from fb)
        | ref _ => cases (show false = true from fb)
        | ty _ => cases (show false = true from fb)
        | bl _ => exact ⟨(fun z => nomatch z), (fun _ z => nomatch z)⟩
        | int _ => exact ⟨(fun z => nomatch z), (fun _ z => nomatch z)⟩
        | str _ => exact ⟨(fun z => nomatch z), (fun _ z => nomatch z)⟩
    · rw [deep_eq]
      have := deeps_mem b hb
      have := hr.units
      omega
    · obtain ⟨c, hc⟩ := PyProof.Rows.sortedAll_at s.heap its out.toArray
      obtain ⟨ys, g1, g2⟩ := stands_back eo
      have hp : H (s.heap.objs.size + 1) = none := I.hok.fresh (Nat.le_succ _)
      have perm := List.mergeSort_perm xs (PySem.W.dataLe false toPy)
      have pw := List.pairwise_mergeSort sort_trans sort_total xs
      refine ⟨.ref (s.heap.objs.size + 1), upd H (s.heap.objs.size + 1) (.lst ys), I.laid (t' := s.toks) (fun _ _ => PyProof.Rows.sortedAll_old) (Nat.le_succ _) ⟨?_, out, c, g2, hc⟩, rfl, ?_⟩
      · rw [g1.len, List.length_mergeSort, ← h3.len]
        exact hz
      · refine k.lst hS g1 (q _ perm ?_) _ hp
        refine List.Pairwise.imp_of_mem (fun {x y} hx hy hxy => ?_) pw
        have hx' := perm.mem_iff.mp hx
        have hy' := perm.mem_iff.mp hy
        have hxy : (!PySem.W.dataLt (toPy y) (toPy x)) = true := hxy
        rw [lt_eq y x (hm y hy') (hm x hx') (ak y hy' x hx')] at hxy
        simpa using hxy
/-- set(xs) of ints: tracked beside -/
theorem set_ints (hc : X.calm = true) : CallR X (.type "set") (fun xs H Q => ∃ (a : Addr) (ns : List Int), xs = [V.ref a] ∧ (SqL X.K H a (ns.map V.int) ∨ SqT X.K H a (ns.map V.int)) ∧ ns.length < 60 ∧
    ∀ p c, H p = none → c ≤ ns.length → Q (.ref p) (upd H p (L2.SetO X.w p (fun j => decide (j ∈ ns)) c))) := by
  intro pins s σ H xs us Q I r h
  obtain ⟨a, ns, rfl, hT, hn, q⟩ := h
  rw [L2.Vals.ref1 r]
  have hb : ns.length + 1 < scanBound := by unfold scanBound; omega
  have hp : H s.heap.objs.size = none := I.hok.fresh (Nat.le_refl _)
  rcases hT with hT | hT
  · obtain ⟨its, rv, pt, _⟩ := I.list hT
    refine L2.set_ints_list (items := its.toArray) ns (I.ok.hd hc) pt.isList (by simpa using L2.Vals.ints rv) hb fun h' tk c R hc hk => ?_
    exact ⟨.ref s.heap.objs.size, _, I.laid (t' := tk) hk (Nat.le_refl _) (L2.setO_new R), rfl, q _ c hp hc⟩
  · obtain ⟨its, rv, pt, _⟩ := I.tuple hT
    refine L2.call_set_tupI (items := its.toArray) ns (I.ok.hd hc) (show s.heap.IsTuple a its.toArray from pt) (by simpa using L2.Vals.ints rv) hb fun h' tk c R hc hk => ?_
    exact ⟨.ref s.heap.objs.size, _, I.laid (t' := tk) hk (Nat.le_refl _) (L2.setO_new R), rfl, q _ c hp hc⟩
theorem d_sortedSet {e : Expr} {wa : WE} {p p2 pos pos2 : Pos} (hc : X.calm = true) (hg : L2.Gl X "sorted") (hm : X.mg "sorted" = none) (hg2 : L2.Gl X "set") (hm2 : X.mg "set" = none) (he : PE X e (teOf X.K wa))
    (h1 : starEach [e] X.env = [(false, eval e X.env)] := by rfl) : PE X (.Call (.Name "sorted" p) [.Call (.Name "set" p2) [e] [] pos2] [] pos) (teOf X.K (wSortedSet wa)) :=
  peI (L2.pe_callB (L2.cr_sortedSet hc) hg hm (by decide +kernel) (L2.pa_cons (L2.pe_callTy (set_ints hc) hg2 hm2 (by decide +kernel) (L2.pa_cons he L2.pa_nil h1) (he := h1)) L2.pa_nil)) fun σ H Q ⟨ρ, S, m, R, hE, hS, h, k⟩ =>
    ⟨ρ, S, m, _, hE, hS, h, fun v d H1 S1 m1 e1 s1 r1 ⟨ns, g1, g2, q⟩ => by
      have go : ∀ (a : Addr), v = .ref a → (SqL X.K H1 a (ns.map V.int) ∨ SqT X.K H1 a (ns.map V.int)) → ∃ (a : Addr) (ns' : List Int), [v] = [V.ref a] ∧ (SqL X.K H1 a (ns'.map V.int) ∨ SqT X.K H1 a (ns'.map V.int)) ∧ ns'.length < 60 ∧
          ∀ p c, H1 p = none → c ≤ ns'.length → (L2.tNil σ (upd H1 p (L2.SetO X.w p (fun j => decide (j ∈ ns')) c)) fun xs H2 => L2.rSortedSet X.w (V.ref p :: xs) H2 Q) := by
        rintro a rfl hT
        refine ⟨a, ns, rfl, hT, g2, fun p c hp hcl => ⟨p, _, c, rfl, upd_same, by omega, fun ms p2 pw mem hl hp2 => ?_⟩⟩
        have e2 := e1.trans (Ext.fresh (m := m1) hp (L2.SetO X.w p (fun j => decide (j ∈ ns)) c))
        exact (k.ext e2).lst (s1.fresh hp _) (ds := intD ms) Reps.of_ints (q ms pw fun kk => by rw [mem kk]; simp) p2 hp2
      rcases itemsAt_rep s1 r1 g1 with ⟨a, vs, e, hL, rs⟩ | ⟨a, vs, e, hL, rs⟩
      · exact go a e (.inl (by rw [← rs.ints]; exact hL))
      · exact go a e (.inr (by rw [← rs.ints]; exact hL))⟩
end
end DL
set_option Elab.async false
set_option linter.all false
set_option maxRecDepth 100000
set_option maxHeartbeats 4000000
/-! DL8: defs as they are called. -/
namespace DL
open PySem PySem.Spec
open L2 (V Hp HO St TE TT TA TS TG TI TO PE PT PW PA PS PSs PG PI PO Cx Inv RelV Vals SqL SqT Rd upd upd_same upd_ne ne_of ne_of_none OpR UnR CallR MtR IxR SlR It thn)
/-- the def that stands at the name x: it keeps sp, with k calls within one another -/
structure Callee (P : Program) (w : World) (K : PySem.W.Frag) (mg : Str → Option Value) (base : Heap) (x : Str) (k n : Nat) (sp : Spc) : Prop where
  ex : ∃ (f : Addr) (fd : FuncData) (ps : List Str), L2.FnOk P w K mg base L2.CX0 k f fd ps (spOf K n sp) ∧ mg x = some (.ref f) ∧ PySem.W.keepIn K (.ref f) = true ∧ L2.Binds K fd ps []
theorem Callee.imp {P : Program} {w : World} {K : PySem.W.Frag} {mg : Str → Option Value} {base : Heap} {x : Str} {k n : Nat} {sp sp' : Spc} (C : Callee P w K mg base x k n sp) (h : ∀ ds S Q, sp' ds S Q → sp ds S Q) : Callee P w K mg base x k n sp' := by
  obtain ⟨f, fd, ps, h1, h2, h3, h4⟩ := C.ex
  exact ⟨f, fd, ps, h1.imp fun vs H Q E ⟨m, S, ds, R, a, b, c, d, e⟩ => ⟨m, S, ds, R, a, b, c, h _ _ _ d, e⟩, h2, h3, h4⟩
section
variable {X : Cx} {e : Expr} {es : List Expr} {pos p : Pos} {va : WA}
theorem d_calle {kk k0 n : Nat} {sp : Spc} {x : Str} (C : Callee X.prog X.w X.K X.mg X.base x k0 n sp) (hr : L2.Room kk X.A) (hk : k0 ≤ kk) (hg : L2.Gl X x) (ha : PA X (e :: es) (taOf X.K va)) (hd : (x == ("__debug__" : Str)) = false := by decide)
    (he : starEach (e :: es) X.env = (false, eval e X.env) :: starEach es X.env := by rfl) (hpl : (backTo pos (starEach es X.env)).any (·.1) = false := by rfl) :
    PE X (.Call (.Name x p) (e :: es) [] pos) (teOf X.K (wCall n sp va)) := by
  obtain ⟨f, fd, ps, h1, h2, h3, h4⟩ := C.ex
  exact d_call h1 (hr.mono hk) hg h2 h3 h4 ha hd he hpl
end
section
variable {P : Program} {w : World} {K : PySem.W.Frag} {mg : Str → Option Value} {base : Heap}
theorem callee_of {x : Str} {st : Stmt} {f : Addr} {fd : FuncData} {N ps : List Str} {k n a : Nat} {sp : Spc} {ws : WS} (F : L2.Fun K x x st f fd) (hm : mg x = some (.ref f)) (hb : L2.Binds K fd ps []) (Sc : L2.FnScope N ps (L2.defScope st)) (hn : N.length = n) (ha : ps.length = a)
    (hw : ∀ (cdv : Value) (A : Around) (outer : List PySem.Env) (s : Shared) (H : Hp) (E : L2.XK), L2.Room k (A.deeper (PyProof.Rows.envOfC x (L2.defScope st) s.heap.objs.size f cdv)) →
      PSs (L2.cxOf L2.CX0 P w K mg base N x (L2.defScope st) f cdv A outer s H E).nox (L2.defBody st) (tsOf K ws)) (body : Body n a ws sp) : Callee P w K mg base x (k + 1) a sp :=
  ⟨f, fd, ps, fn_body F Sc hn ha hw body, hm, F.kp, hb⟩
/-- nobody calls with no calls left -/
theorem callee_none {x : Str} {st : Stmt} {f : Addr} {fd : FuncData} {ps : List Str} {a : Nat} {sp : Spc} (F : L2.Fun K x x st f fd) (hm : mg x = some (.ref f)) (hb : L2.Binds K fd ps []) (h : ∀ ds S Q, ¬ sp ds S Q) : Callee P w K mg base x 0 a sp :=
  ⟨f, fd, ps, ⟨fun vs H Q E ⟨m, S, ds, R, _, _, _, d, _⟩ => absurd d (h _ _ _), fun A outer s H args us vs Q E _ _ _ _ ⟨m, S, ds, R, _, _, _, d, _⟩ => absurd d (h _ _ _)⟩, hm, F.kp, hb⟩
end
end DL
set_option linter.all false
/-! DLX: more operations by values. -/
namespace DL
/-- a list turned -/
@[reducible] def rRevL : R1
  | .ref n, S, Q => isLst S n fun xs => Q (.ref S.length) (S ++ [.lst xs.reverse])
  | _, _, _ => False
/-- sorted of a list or a tuple -/
@[reducible] def rSortedA : RL
  | [.ref n], S, Q => isLst S n fun xs => sortOk xs ∧ ∀ ys, ys.Perm xs → ys.Pairwise (fun a b => ltD b a = false) → Q (.ref S.length) (S ++ [.lst ys])
  | [.tup xs], S, Q => sortOk xs ∧ ∀ ys, ys.Perm xs → ys.Pairwise (fun a b => ltD b a = false) → Q (.ref S.length) (S ++ [.lst ys])
  | _, _, _ => False
/-- x += y: ints, texts -/
@[reducible] def rIAdd : R2
  | .int i, .int j, S, Q => Q (.int (i + j)) S
  | .str x, .str y, S, Q => x.length + y.length ≤ szL ∧ Q (.str (x ++ y)) S
  | .ref m, .ref n, S, Q => isLst S m fun xs => isLst S n fun ys => xs.length + ys.length ≤ szL ∧ Q (.ref m) (S.set m (.lst (xs ++ ys)))
  | _, _, _, _ => False
/-! ranges with a step, ranges as lists and tuples -/
def rg3N (i j k : Int) : Nat := (if 0 < k then (if i < j then (j - i - 1) / k + 1 else 0) else (if j < i then (i - j - 1) / (-k) + 1 else 0)).toNat
def rangeD3 (i j k : Int) : List D := (List.range (rg3N i j k)).map fun (t : Nat) => D.int (i + t * k)
@[reducible] def wR3 (a b c : WE) : WI := fun ρ S R => a ρ S fun x S1 => b ρ S1 fun y S2 => c ρ S2 fun z S3 => match x, y, z with
  | .int i, .int j, .int k => (k ≠ 0 ∧ (-(2 ^ 29) < k ∧ k < 2 ^ 29) ∧ (-(2 ^ 61) ≤ i ∧ i < 2 ^ 61) ∧ (-(2 ^ 61) ≤ j ∧ j < 2 ^ 61)) ∧ R (rangeD3 i j k) (fun _ => True) S3
  | _, _, _ => False
@[reducible] def wLstR (a : WE) : WE := fun ρ S Q => a ρ S fun x S1 => match x with
  | .int j => (smallI j ∧ j ≤ szL) ∧ Q (.ref S1.length) (S1 ++ [.lst (rangeD 0 j)])
  | _ => False
@[reducible] def wTupR (a : WE) : WE := fun ρ S Q => a ρ S fun x S1 => match x with
  | .int j => (smallI j ∧ j ≤ szL) ∧ Q (.tup (rangeD 0 j)) S1
  | _ => False
end DL
set_option Elab.async false
set_option linter.all false
set_option maxRecDepth 100000
set_option maxHeartbeats 4000000
/-! DL9: more rules. -/
namespace DL
open PySem PySem.Spec
open L2 (V Hp HO St TE TT TA TS TG TI TO PE PT PW PA PS PSs PG PI PO Cx Inv RelV Vals SqL SqT Rd upd upd_same upd_ne ne_of ne_of_none OpR UnR CallR MtR IxR SlR It thn)
section
variable {X : Cx} {o : Expr} {pos p1 p2 p3 : Pos} {wo : WE}
theorem d_revL {k : Nat} (ho : PE X o (teOf X.K wo)) : PE X (.Subscript o (.Slice none none (some (.UnaryOp .USub (.Constant (.int 1) k p1) p2)) p3) pos) (teOf X.K (wUn rRevL wo)) :=
  peI (L2.pe_revL ho) fun σ H Q ⟨ρ, S, m, R, hE, hS, h, k⟩ => ⟨ρ, S, m, _, hE, hS, h, fun v x H1 S1 m1 e1 s1 r1 q1 => by
    cases x with
    | ref n =>
      obtain ⟨ys, e2, q⟩ := isLst_iff.mp q1
      obtain ⟨a, vs, h1, h2, h3⟩ := s1.lst e2
      obtain ⟨b, q2, rfl⟩ := r1
      rw [h1] at q2
      cases q2
      exact ⟨a, vs, rfl, SqL.of h2, (k.ext e1).lst s1 h3.rev q⟩
    | _ => exact (show False from q1).elim⟩
end
theorem i_add {X : Cx} : OpR X (inplaceOp .Add) (r2Of X.K rIAdd) := r2I (((L2.iop_add (X := X)).or L2.iop_add_str).or L2.iop_ext) fun x y H Q ⟨m, S, d, e, R, s, rx, ry, h, k⟩ => by
  cases d with
  | int i => cases e with
    | int j => exact .inl (.inl ⟨i, j, rx, ry, k _ (.int (i + j)) H S m (Ext.refl _ _) s rfl h⟩)
    | _ => exact (show False from h).elim
  | str z => cases e with
    | str z' =>
      obtain ⟨hz, q⟩ := h
      exact .inl (.inr ⟨z, z', rx, ry, by rw [← szL']; exact hz, k _ (.str (z ++ z')) H S m (Ext.refl _ _) s rfl q⟩)
    | _ => exact (show False from h).elim
  | ref i => cases e with
    | ref j =>
      obtain ⟨xs, e1, h⟩ := isLst_iff.mp h
      obtain ⟨ys, e2, hz, q⟩ := isLst_iff.mp h
      obtain ⟨a, vs, h1, h2, h3⟩ := s.lst e1
      obtain ⟨b, us, g1, g2, g3⟩ := s.lst e2
      obtain ⟨a', q1, rfl⟩ := rx
      obtain ⟨b', q2, rfl⟩ := ry
      rw [h1] at q1
      rw [g1] at q2
      cases q1
      cases q2
      exact .inr ⟨a, b, vs, us, rfl, rfl, h2, g2, by rw [h3.len, g3.len, ← szL']; exact hz, k.put s e1 h1 h2 (h3.app g3) (d := .ref i) ⟨a, h1, rfl⟩ q⟩
    | _ => exact (show False from h).elim
  | _ => exact (show False from h).elim
section
variable {X : Cx} {tg : Expr} {wa wb wc : WE} {a b c : Expr} {p p2 pos pos2 : Pos}
theorem rg3_ok {i j k : Int} (h : k ≠ 0 ∧ (-(2 ^ 29) < k ∧ k < 2 ^ 29) ∧ (-(2 ^ 61) ≤ i ∧ i < 2 ^ 61) ∧ (-(2 ^ 61) ≤ j ∧ j < 2 ^ 61)) : L2.RgC i j k (rg3N i j k) := by
  obtain ⟨h0, ⟨k1, k2⟩, ⟨i1, i2⟩, j1, j2⟩ := h
  have e : Builtin.Range.rangeSize i j k = (rg3N i j k : Int) ∧ (rg3N i j k : Int) < 2 ^ 63 := by
    unfold Builtin.Range.rangeSize rg3N
    by_cases hk : 0 < k
    · rw [if_pos hk]
      by_cases hc : i < j
      · rw [if_pos hc]
        have a1 : (j - i - 1) / k ≤ j - i - 1 := Int.ediv_le_self k (by omega)
        have a2 : 0 ≤ (j - i - 1) / k := Int.ediv_nonneg (by omega) (by omega)
        omega
      · rw [if_neg hc]; omega
    · rw [if_neg hk]
      by_cases hc : j < i
      · rw [if_pos hc]
        have a1 : (i - j - 1) / -k ≤ i - j - 1 := Int.ediv_le_self (-k) (by omega)
        have a2 : 0 ≤ (i - j - 1) / -k := Int.ediv_nonneg (by omega) (by omega)
        omega
      · rw [if_neg hc]; omega
  refine ⟨h0, by omega, ?_, e.1⟩
  unfold Builtin.Range.small Builtin.Range.rangeFitsLong
  rw [e.1]
  have := e.2
  have n0 : (0 : Int) ≤ rg3N i j k := by omega
  generalize (rg3N i j k : Int) = n at *
  by_cases hk : 0 < k
  · rw [if_pos hk]
    simp only [Bool.and_eq_true, Bool.or_eq_true, decide_eq_true_eq]
    omega
  · rw [if_neg hk]
    simp only [Bool.and_eq_true, Bool.or_eq_true, decide_eq_true_eq]
    omega
theorem yields_rng3 {K : PySem.W.Frag} {m : List Addr} {H : Hp} {i j k : Int} : Yields K (L2.Itc i k (rg3N i j k)) (rangeD3 i j k) (fun _ => True) m H := by
  intro m1 H1 S1 e s g
  refine ⟨fun t d hd => ?_, fun t ht => by unfold rangeD3 at ht; rw [List.length_map, List.length_range] at ht; exact ht⟩
  unfold rangeD3 at hd
  rw [List.getElem?_map] at hd
  by_cases hi : t < rg3N i j k
  · rw [List.getElem?_range hi] at hd
    have h2 := (Option.some.inj hd).symm
    exact ⟨hi, fun x H' ⟨q1, q2⟩ => ⟨m1, by rw [q1]; exact Ext.refl _ _, by rw [q1]; exact s, by rw [q2, h2]; rfl⟩⟩
  · rw [List.getElem?_eq_none (by simpa using hi)] at hd
    cases hd
theorem di_r3 (hg : L2.Gl X "range") (hm : X.mg "range" = none) (ha : PE X a (teOf X.K wa)) (hb : PE X b (teOf X.K wb)) (hc : PE X c (teOf X.K wc)) (h1 : starEach [a, b, c] X.env = (false, eval a X.env) :: starEach [b, c] X.env := by rfl) (h2 : starEach [b, c] X.env = (false, eval b X.env) :: starEach [c] X.env := by rfl)
    (h3 : starEach [c] X.env = (false, eval c X.env) :: starEach [] X.env := by rfl) (h4 : ((backTo pos (starEach [b, c] X.env)).any fun x => x.fst) = false := by rfl) : PI X tg (.Call (.Name "range" p) [a, b, c] [] pos) (tiOf X.K (wR3 wa wb wc)) :=
  piI (L2.pi_range3 hg hm (da_cons ha (da_cons hb (da_cons hc da_nil h3) h2) h1) h1 h4) fun σ H Q ⟨ρ, S, m, R, hE, hS, h, k⟩ => ⟨ρ, S, m, fun ds S1 => match ds with
    | [.int i, .int j, .int l] => (l ≠ 0 ∧ (-(2 ^ 29) < l ∧ l < 2 ^ 29) ∧ (-(2 ^ 61) ≤ i ∧ i < 2 ^ 61) ∧ (-(2 ^ 61) ≤ j ∧ j < 2 ^ 61)) ∧ R (rangeD3 i j l) (fun _ => True) S1
    | _ => False, hE, hS, (by
      show wa ρ S _
      refine cast (congrArg (wa ρ S) ?_) h
      funext x S1
      show wb ρ S1 _ = wb ρ S1 _
      refine congrArg (wb ρ S1) ?_
      funext y S2
      show wc ρ S2 _ = wc ρ S2 _
      refine congrArg (wc ρ S2) ?_
      funext z S3
      cases x <;> cases y <;> cases z <;> rfl), fun vs ds H' S' m' e s r q => by
      match ds, q, r with
      | [.int i, .int j, .int l], ⟨hok, q5⟩, ⟨v, r', hv, rv, ⟨v2, r2, hv2, rv2, ⟨v3, r3, hv3, rv3, rn⟩⟩⟩ =>
        rw [show r3 = [] from rn] at hv3
        rw [hv3] at hv2
        rw [hv2] at hv
        exact ⟨i, j, l, _, by rw [hv, show v = V.int i from rv, show v2 = V.int j from rv2, show v3 = V.int l from rv3], rg3_ok hok, k _ _ _ _ _ _ e s yields_rng3 q5⟩⟩
theorem rgV_rep {K : PySem.W.Frag} {H : Hp} {m : List Addr} (j : Int) : Reps K H m (rangeD 0 j) (L2.rgV 0 j) := by
  unfold rangeD L2.rgV
  generalize List.range (j - 0).toNat = l
  induction l with
  | nil => rfl
  | cons x l ih => exact ⟨_, _, rfl, rfl, ih⟩
theorem rgOk_of {j : Int} (h : smallI j ∧ j ≤ szL) : L2.RgOk 0 j := by
  obtain ⟨⟨h1, h2⟩, h3⟩ := h
  unfold szL at h3
  exact ⟨by omega, by omega, h1, h2, by omega⟩
theorem d_lstR (hc : X.calm = true) (hg : L2.Gl X "list") (hm : X.mg "list" = none) (hg2 : L2.Gl X "range") (hm2 : X.mg "range" = none) (ha : PE X a (teOf X.K wa)) (h1 : starEach [a] X.env = (false, eval a X.env) :: starEach [] X.env := by rfl)
    (h2 : starEach [Expr.Call (.Name "range" p2) [a] [] pos2] X.env = (false, eval (Expr.Call (.Name "range" p2) [a] [] pos2) X.env) :: starEach [] X.env := by rfl) : PE X (.Call (.Name "list" p) [.Call (.Name "range" p2) [a] [] pos2] [] pos) (teOf X.K (wLstR wa)) :=
  peI (L2.pe_listRg hc hg hm (L2.prg_1 hg2 hm2 ha h1) h2) fun σ H Q ⟨ρ, S, m, R, hE, hS, h, k⟩ => ⟨ρ, S, m, _, hE, hS, h, fun v x H1 S1 m1 e1 s1 r1 q1 => by
    cases x with
    | int j => exact ⟨j, r1, rgOk_of q1.1, (k.ext e1).lst s1 (rgV_rep j) q1.2⟩
    | _ => exact (show False from q1).elim⟩
theorem d_tupR (hc : X.calm = true) (hg : L2.Gl X "tuple") (hm : X.mg "tuple" = none) (hg2 : L2.Gl X "range") (hm2 : X.mg "range" = none) (ha : PE X a (teOf X.K wa)) (h1 : starEach [a] X.env = (false, eval a X.env) :: starEach [] X.env := by rfl)
    (h2 : starEach [Expr.Call (.Name "range" p2) [a] [] pos2] X.env = (false, eval (Expr.Call (.Name "range" p2) [a] [] pos2) X.env) :: starEach [] X.env := by rfl) : PE X (.Call (.Name "tuple" p) [.Call (.Name "range" p2) [a] [] pos2] [] pos) (teOf X.K (wTupR wa)) :=
  peI (L2.pe_tupRg hc hg hm (L2.prg_1 hg2 hm2 ha h1) h2) fun σ H Q ⟨ρ, S, m, R, hE, hS, h, k⟩ => ⟨ρ, S, m, _, hE, hS, h, fun v x H1 S1 m1 e1 s1 r1 q1 => by
    cases x with
    | int j => exact ⟨j, r1, rgOk_of q1.1, (k.ext e1).tup s1 (rgV_rep j) q1.2⟩
    | _ => exact (show False from q1).elim⟩
end
/-- a tuple of ints that the top has made -/
theorem rep_ints {K : PySem.W.Frag} {t : Addr} {od : Option Addr} {its : Array Value} {n : Nat} {sl : Array (Option Value)} {ns : List Int} (hc : cst = true) (hl : K.lookup t = some ⟨.type "tuple", od, .seq its n, sl⟩) (hz : its.size ≤ sizeLine) (hv : Vals (ns.map V.int) its.toList) (H : Hp) (m : List Addr) : Rep K H m (.tup (intD ns)) (.ref t) :=
  ⟨t, ns.map V.int, rfl, .inr ⟨hc, .inr ⟨_, its, n, hl, rfl, rfl, hz, hv⟩⟩, Reps.of_ints⟩
end DL
set_option Elab.async false
set_option linter.all false
set_option maxRecDepth 100000
set_option maxHeartbeats 4000000
/-! DLS: sorted(a tuple). -/
namespace DL
open PySem PySem.Spec PyProof PyProof.Rows
section
theorem collect_seqE {prog : Program} {w : World} {A : Around} {E : Value → Shared → Prop} {s : Shared} {Q : List Value → Shared → Prop} (it : Addr) {T : String} {o : Obj} {items : Array Value} {n : Nat} (hT : T = "list" ∨ T = "tuple") (ho : s.heap.get? it = some o) (hc : o.cls = Value.type T) (hd : o.data = Data.seq items n)
    (hQ : ∀ h' : Heap, (∀ (b : Addr) (o' : Obj), s.heap.get? b = some o' → h'.get? b = some o') → s.heap.objs.size ≤ h'.objs.size → Q items.toList { heap := h', gens := s.gens, drawn := s.drawn, toks := s.toks, os := s.os }) (hsz : items.size ≤ sizeLine) : wpAny (model prog w) A (collect (.ref it)) Q E s := by
  unfold collect
  refine wpAny_bind (wpAny_runValue (codeAny_builtin F.entry_proto_collect ?_))
  rw [Around.under_plainId F.plain_proto_collect]
  refine wpAny_bind (wpAny_newObj_type (wpAny_pure ⟨plainId_quiet F.plain_list_iadd _, codeAny_builtin F.entry_list_iadd ?_⟩))
  rw [Around.under_plainId F.plain_list_iadd]
  refine wpAny_extend_seq (R := fun r s' => match r with
      | Except.ok (Flow.ret v) => wpAny (model prog w) A (match v with
          | Value.ref a => do
            let __do_lift ← load a
            match __do_lift.data with
            | Data.seq xs epoch => pure xs.toList
            | x => unsupported "internal:collect"
          | x => unsupported "internal:collect") Q E s'
      | Except.ok a => False
      | Except.error e => E e s') s.heap.objs.size it (.ref s.heap.objs.size) 0 hT ?_ ?_ hc hd ?_ hsz
  · exact Heap.get?_push_size s.heap rfl
  · exact Heap.get?_push_of_some _ ho
  · show wpAny (model prog w) A _ Q E _
    refine wpAny_bind (wpAny_load (Heap.get?_update_self _ (Heap.get?_push_size s.heap rfl) rfl) ?_)
    refine wpAny_pure ?_
    have e : ((fun x => x ++ items) (#[] : Array Value)).toList = items.toList := by simp
    rw [e]
    refine hQ _ (fun b o' hb => ?_) ?_
    · rw [Heap.get?_update_other _ _ (Ne.symm (Nat.ne_of_lt (Heap.lt_size hb)))]
      exact Heap.get?_push_of_some _ hb
    · rw [Heap.size_update]
      show s.heap.objs.size ≤ (s.heap.push _).objs.size
      rw [PyProof.Rows.size_push']
      omega
theorem sorted_tup {prog : Program} {w : World} {A : Around} {E : Value → Shared → Prop} {s : Shared} {β : Type} {vs : List Value} {bs : List β} {enc : β → PyData} {R : Value → β → Prop} {l : Addr} {Q : Value → Shared → Prop}
    (hl : s.heap.IsTuple l vs.toArray) (e : PySem.W.EachIs R vs bs) (er : PySem.W.EachIs (fun v b => ∃ as, Reads s.heap v (enc b) as) vs bs) (hal : PySem.W.AllAlike (bs.map enc)) (hk : PySem.W.Sortable (bs.map enc)) (hL : bs.length ≤ sizeLine) (hu : ∀ b, b ∈ bs → A.units + 2 + (enc b).depth < cLine)
    (h : ∀ (out : List Value) (h1 : Heap) (a : Addr), out.length = bs.length → PySem.W.EachIs R out (bs.mergeSort (PySem.W.dataLe false enc)) → (∀ (b : Addr) (o : Obj), s.heap.get? b = some o → h1.get? b = some o) → s.heap.objs.size ≤ a → (∃ c, h1.get? a = some (PyProof.Rows.seqObj "list" out.toArray c)) →
      Q (.ref a) { heap := h1, gens := s.gens, drawn := s.drawn, toks := s.toks, os := s.os }) : wpAny (model prog w) A (call (.builtin "sorted") [.ref l]) Q E s := by
  obtain ⟨o, ho, hc, n, hd⟩ := hl
  have hLv : vs.length ≤ sizeLine := by rw [e.length]; exact hL
  refine PyProof.Rows.call_function_entry_kw PyProof.Rows.kind_sorted PyProof.Rows.plain_sorted PyProof.Rows.entry_sorted (PyProof.Rows.args_sorted1 (.ref l)) ?_
  refine wpAny_bind (wpAny_pure (wpAny_bind (collect_seqE l (.inr rfl) ho hc hd (fun h' keep hsz => ?_) (by simpa using hLv))))
  have hat : (h'.push (PyProof.Rows.seqObj "list" vs.toArray 0)).get? h'.objs.size = some (PyProof.Rows.seqObj "list" vs.toArray 0) := Heap.get?_push_size h' rfl
  have old1 : ∀ (b : Addr) (o : Obj), s.heap.get? b = some o → (h'.push (PyProof.Rows.seqObj "list" vs.toArray 0)).get? b = some o ∧ b < h'.objs.size := fun b o hb => by
    have hk := keep b o hb
    have hlt := Heap.lt_size hk
    exact ⟨by rw [Heap.get?_push_ne h' b _ (Nat.ne_of_lt hlt)]; exact hk, hlt⟩
  have old2 : ∀ (b : Addr) (o : Obj), s.heap.get? b = some o → (PySem.W.sortingHeap (h'.push (PyProof.Rows.seqObj "list" vs.toArray 0)) h'.objs.size vs).get? b = some o := fun b o hb => by
    obtain ⟨h1, h2⟩ := old1 b o hb
    unfold PySem.W.sortingHeap
    have z1 : ((h'.push (PyProof.Rows.seqObj "list" vs.toArray 0)).update h'.objs.size (Obj.mapSeq fun x => #[])).objs.size = h'.objs.size + 1 := by rw [Heap.size_update, PyProof.Rows.size_push']
    have z2 : (((h'.push (PyProof.Rows.seqObj "list" vs.toArray 0)).update h'.objs.size (Obj.mapSeq fun x => #[])).push (PyProof.Rows.seqObj "tuple" vs.toArray 0)).objs.size = h'.objs.size + 1 + 1 := by rw [PyProof.Rows.size_push', z1]
    rw [Heap.get?_push_ne _ b _ (by rw [z2]; exact Nat.ne_of_lt (Nat.lt_succ_of_lt (Nat.lt_succ_of_lt h2))), Heap.get?_push_ne _ b _ (by rw [z1]; exact Nat.ne_of_lt (Nat.lt_succ_of_lt h2)), Heap.get?_update_ne _ b _ _ (Nat.ne_of_lt h2)]
    exact h1
  have er' := PySem.W.EachIs.mono (fun x y ⟨as, r⟩ => (⟨as, PyProof.Rows.Reads.keeps (h' := PySem.W.sortingHeap (h'.push (PyProof.Rows.seqObj "list" vs.toArray 0)) h'.objs.size vs) (fun b o hb => old2 b o hb) r⟩ : ∃ as, _)) er
  have S := PySem.W.SortsAt.data (prog := prog) (w := w) (A := A.in1.in1) (s := { heap := PySem.W.sortingHeap (h'.push (PyProof.Rows.seqObj "list" vs.toArray 0)) h'.objs.size vs, gens := s.gens, drawn := s.drawn, toks := s.toks, os := s.os }) (PySem.W.each_map enc er') hal hk (PySem.W.bound_map hu)
  refine wpAny_bind (wpAny_newList ?_ (by simpa using hLv))
  refine wpAny_bind (wpAny_holding (PyProof.Rows.wpAny_call_entry_kw PyProof.Rows.slot_list_sort ⟨PyProof.Rows.seqObj "list" vs.toArray 0, hat, rfl⟩ PyProof.Rows.entry_list_sort ?_ (PyProof.Rows.args_list_sort (.ref h'.objs.size))))
  refine PySem.W.list_sort_vals hat S hLv ⟨.none, rfl, wpAny_pure ⟨.ref h'.objs.size, rfl, ?_⟩⟩
  refine h _ _ _ (by rw [PySem.W.sortVals_length false rfl]; exact e.length) (PySem.W.sortVals_data false e er' hal) (fun b o hb => ?_) hsz (PyProof.Rows.sortedHeap_at hat)
  obtain ⟨h1, h2⟩ := old1 b o hb
  rw [PyProof.Rows.sortedHeap_old (Nat.ne_of_lt h2) (by rw [PyProof.Rows.size_push']; exact Nat.lt_succ_of_lt h2)]
  exact h1
end
section
open L2 (V Hp HO St TE TT TA TS TG TI TO PE PT PW PA PS PSs PG PI PO Cx Inv RelV Vals SqL SqT Rd upd upd_same upd_ne ne_of ne_of_none OpR UnR CallR MtR IxR SlR It thn)
variable {X : Cx}
theorem b_sortedA {kk : Nat} (hr : L2.Room kk X.A) : CallR X (.builtin "sorted") (rlOf X.K rSortedA) := by
  intro pins s σ H vs us Q I rv ⟨m, S, ds, R, hS, rs, h, k⟩
  match ds, h, rs with
  | [.ref n], h, rs => exact b_sorted hr pins s σ H vs us Q I rv ⟨m, S, [.ref n], R, hS, rs, h, k⟩
  | [.tup xs], h, rs =>
    obtain ⟨v, rfl, a, ws, rfl, h2, h3⟩ := reps1 rs
    obtain ⟨⟨f, dp, ak, so⟩, q⟩ := h
    rw [L2.Vals.ref1 rv]
    obtain ⟨its, rw', pl, hz⟩ := I.tuple h2.sqT
    have st := stands_all h3 rw'
    have hm : ∀ b ∈ xs, flat b = true := flats_mem f
    have rd : ∀ {ds : List D} {us : List Value}, PySem.W.EachIs (Stands X.K H m) us ds → (∀ d ∈ ds, flat d = true) → PySem.W.EachIs (fun u d => ∃ as, Reads s.heap u (toPy d) as) us ds := by
      intro ds us e
      induction e with
      | nil => intro _; exact .nil
      | cons h t ih =>
        intro hf
        obtain ⟨v, g1, g2⟩ := h
        exact .cons (L2.Dp.reads I _ _ _ (toPy_dp _ _ (hf _ List.mem_cons_self) g2) g1) (ih fun d hd => hf d (List.mem_cons_of_mem _ hd))
    refine sorted_tup (enc := toPy) (bs := xs) (R := Stands X.K H m) pl st (rd st hm) ?_ ?_ (by rw [← h3.len]; exact hz) (fun b hb => ?_) fun out hh aa ho eo keep hge hat => ?_
    · intro d hd d' hd'
      obtain ⟨b, hb, rfl⟩ := List.mem_map.mp hd
      obtain ⟨b', hb', rfl⟩ := List.mem_map.mp hd'
      exact akin_eq b b' (ak b hb b' hb')
    · rcases so with so | so
      · refine .inl fun d hd => ?_
        obtain ⟨b, hb, rfl⟩ := List.mem_map.mp hd
        obtain ⟨x, r, e⟩ := so b hb
        exact toPy_tup e
      · refine .inr fun d hd => ?_
        obtain ⟨b, hb, rfl⟩ := List.mem_map.mp hd
        obtain ⟨n1, n2⟩ := so b hb
        have fb := hm b hb
        cases b with
        | non => exact absurd rfl n1
        | tup ys => exact absurd rfl (n2 ys)
        | rol _ => cases (show false = true from fb)
        | ref _ => cases (show false = true from fb)
        | ty _ => cases (show false = true from fb)
        | bl _ => exact ⟨(fun z => nomatch z), (fun _ z => nomatch z)⟩
        | int _ => exact ⟨(fun z => nomatch z), (fun _ z => nomatch z)⟩
        | str _ => exact ⟨(fun z => nomatch z), (fun _ z => nomatch z)⟩
    · rw [deep_eq]
      have := deeps_mem b hb
      have := hr.units
      omega
    · obtain ⟨c, hc⟩ := hat
      obtain ⟨ys, g1, g2⟩ := stands_back eo
      have hp : H aa = none := I.hok.fresh hge
      have perm := List.mergeSort_perm xs (PySem.W.dataLe false toPy)
      have pw := List.pairwise_mergeSort sort_trans sort_total xs
      refine ⟨.ref aa, upd H aa (.lst ys), I.laid (t' := s.toks) keep hge ⟨?_, out, c, g2, hc⟩, rfl, ?_⟩
      · rw [g1.len, List.length_mergeSort, ← h3.len]
        exact hz
      · refine k.lst hS g1 (q _ perm ?_) _ hp
        refine List.Pairwise.imp_of_mem (fun {x y} hx hy hxy => ?_) pw
        have hx' := perm.mem_iff.mp hx
        have hy' := perm.mem_iff.mp hy
        have hxy : (!PySem.W.dataLt (toPy y) (toPy x)) = true := hxy
        rw [lt_eq y x (hm y hy') (hm x hx') (ak y hy' x hx')] at hxy
        simpa using hxy
end
end DL
set_option linter.all false
/-! DLY: dicts by values: keys ints and texts, or tuples of them. -/
namespace DL
def kyOf : D → Option Ky
  | .int i => some (.inl i)
  | .str x => some (.inr x)
  | _ => none
def kysOf : List D → Option (List Ky)
  | [] => some []
  | d :: r => match kyOf d, kysOf r with
    | some k, some ks => some (k :: ks)
    | _, _ => none
def kyt : D → Option (List Ky)
  | .tup ds => kysOf ds
  | _ => none
section
variable {κ : Type} [DecidableEq κ]
def valK (kvs : List (κ × D)) (k : κ) : Option D := (kvs.find? fun kv => decide (kv.1 = k)).map (·.2)
def putD (kvs : List (κ × D)) (k : κ) (v : D) : List (κ × D) :=
  if (kvs.any fun kv => decide (kv.1 = k)) = true then kvs.map (fun kv => if kv.1 = k then (kv.1, v) else kv) else kvs ++ [(k, v)]
end
/-- what x holds at k -/
@[reducible] def dGet : D → D → Sto → (Option D → Prop) → Prop
  | .ref n, k, S, P => match S[n]? with
    | some (.dK kvs) => ∃ y, kyOf k = some y ∧ P (valK kvs y)
    | some (.dT kvs) => ∃ y, kyt k = some y ∧ P (valK kvs y)
    | _ => False
  | _, _, _, _ => False
@[reducible] def rDIx : R2 := fun x k S Q => dGet x k S fun o => ∃ v, o = some v ∧ Q v S
@[reducible] def rDIn (neg : Bool) : R2 := fun k x S Q => dGet x k S fun o => Q (.bl (if neg then !o.isSome else o.isSome)) S
@[reducible] def wDNewK : WE := fun _ S Q => Q (.ref S.length) (S ++ [.dK []])
@[reducible] def wDNewT : WE := fun _ S Q => Q (.ref S.length) (S ++ [.dT []])
@[reducible] def isDc : D → Sto → Prop
  | .ref n, S => (∃ kvs, S[n]? = some (.dK kvs)) ∨ ∃ kvs, S[n]? = some (.dT kvs)
  | _, _ => False
/-- d.get(k, x) -/
@[reducible] def wDGet2 (o k f : WE) : WE := fun ρ S Q => o ρ S fun x S1 => isDc x S1 ∧ k ρ S1 fun y S2 => f ρ S2 fun z S3 => dGet x y S3 fun o => Q (o.getD z) S3
/-- d[k] = v -/
@[reducible] def rDPut : D → D → D → Sto → (Sto → Prop) → Prop
  | .ref n, k, d, S, Q => match S[n]? with
    | some (.dK kvs) => ∃ y, kyOf k = some y ∧ kvs.length < szL ∧ Q (S.set n (.dK (putD kvs y d)))
    | some (.dT kvs) => ∃ y, kyt k = some y ∧ kvs.length < szL ∧ Q (S.set n (.dT (putD kvs y d)))
    | _ => False
  | _, _, _, _, _ => False
/-- a, b, c = x, y, z by names -/
@[reducible] def sPar3 (i j l : Nat) (a b c : WE) : WS := fun E ρ S => a ρ S fun x S1 => b ρ S1 fun y S2 => c ρ S2 fun z S3 => E.nx (up (up (up ρ i (some x)) j (some y)) l (some z)) S3
/-- two lists alike -/
@[reducible] def rEqL : R2
  | .ref m, .ref n, S, Q => isLst S m fun xs => isLst S n fun ys => (flats xs = true ∧ flats ys = true ∧ deeps xs ≤ 63 ∧ deeps ys ≤ 63) ∧ Q (.bl (eqDs xs ys)) S
  | _, _, _, _ => False
end DL
set_option Elab.async false
set_option linter.all false
set_option maxRecDepth 100000
set_option maxHeartbeats 8000000
/-! DLG: more rules. -/
namespace DL
open PySem PySem.Spec
open L2 (V Hp HO St TE TT TA TS TG TI TO PE PT PW PA PS PSs PG PI PO Cx Inv RelV Vals SqL SqT Rd upd upd_same upd_ne ne_of ne_of_none OpR UnR CallR MtR IxR SlR It thn Key kV valV putK DGet DPut)
section
variable {X : Cx} {kk : Nat} {o i e f a b c : Expr} {wo wi we wf wa wb wc : WE} {pos apos cpos : Pos}
theorem c_eqL (hr : L2.Room kk X.A) : OpR X (compareOp .Eq) (r2Of X.K rEqL) := r2I (L2.op_eqD hr.units) fun x y H Q ⟨m, S, d, e, R, s, rx, ry, h, k⟩ => by
  cases d with
  | ref i => cases e with
    | ref j =>
      obtain ⟨xs, e1, h⟩ := isLst_iff.mp h
      obtain ⟨ys, e2, ⟨f1, f2, g1, g2⟩, q⟩ := isLst_iff.mp h
      obtain ⟨a, vs, h1, h2, h3⟩ := s.lst e1
      obtain ⟨b, us, l1, l2, l3⟩ := s.lst e2
      obtain ⟨a', q1, rfl⟩ := rx
      rw [h1] at q1
      cases q1
      obtain ⟨b', q2, rfl⟩ := ry
      rw [l1] at q2
      cases q2
      refine ⟨.list (toPys xs), .list (toPys ys), .lst (SqL.of h2) (toPys_dp xs vs f1 h3), .lst (SqL.of l2) (toPys_dp ys us f2 l3), shapeds_of f1 g1, shapeds_of f2 g2, ?_⟩
      have ee : PyData.eqv (.list (toPys xs)) (.list (toPys ys)) = eqDs xs ys := by
        rw [← eqvs_eq xs ys f1 f2]
        rfl
      rw [ee]
      exact k _ (.bl (eqDs xs ys)) H S m (Ext.refl _ _) s rfl q
    | _ => exact (show False from h).elim
  | _ => exact (show False from h).elim
theorem ds_par3 (i j l : Nat) {x y z : Str} {px py pz pt : Pos} {kt k2 pt2} (hc : X.calm = true) (hN : X.N.Nodup) (ha : PE X a (teOf X.K wa)) (hb : PE X b (teOf X.K wb)) (hcc : PE X c (teOf X.K wc)) (hi : X.N[i]? = some x := by rfl) (hj : X.N[j]? = some y := by rfl) (hl : X.N[l]? = some z := by rfl) (hij : i ≠ j := by decide) (hil : i ≠ l := by decide) (hjl : j ≠ l := by decide)
    (hx : X.env.scope.names.lookup x = some .local := by rfl) (hy : X.env.scope.names.lookup y = some .local := by rfl) (hz : X.env.scope.names.lookup z = some .local := by rfl)
    (hw : swappedStores [.Tuple [.Name x px, .Name y py, .Name z pz] kt pt] (.Tuple [a, b, c] k2 pt2) X.env = pure (some [x, y, z]) := by rfl)
    (hs : swapsWithSole [.Tuple [.Name x px, .Name y py, .Name z pz] kt pt] (.Tuple [a, b, c] k2 pt2) pos.line X.env = pure false := by rfl)
    (e1 : starEach [a, b, c] X.env = (false, eval a X.env) :: starEach [b, c] X.env := by rfl) (e2 : starEach [b, c] X.env = (false, eval b X.env) :: starEach [c] X.env := by rfl) (e3 : starEach [c] X.env = (false, eval c X.env) :: starEach [] X.env := by rfl) :
    PS X (.Assign [.Tuple [.Name x px, .Name y py, .Name z pz] kt pt] (.Tuple [a, b, c] k2 pt2) pos) (tsOf X.K (sPar3 i j l wa wb wc)) :=
  psI (L2.ps_par3 hc hN hi hj hl hij hil hjl hx hy hz (da_cons ha (da_cons hb (da_cons hcc da_nil e3) e2) e1) hw hs) fun D σ H ⟨ρ, S, m, E, hE, hS, h, k, _⟩ =>
    ⟨ρ, S, m, fun ds S2 => match ds with
      | [d, d2, d3] => E.nx (up (up (up ρ i (some d)) j (some d2)) l (some d3)) S2
      | _ => False, hE, hS, h, fun vs ds H2 S2 m2 e s r q => by
      match ds, q, r with
      | [d, d2, d3], q, ⟨v, r', hv, rv, ⟨v2, r2, hv2, rv2, ⟨v3, r3, hv3, rv3, rn⟩⟩⟩ =>
        rw [show r3 = [] from rn] at hv3
        rw [hv3] at hv2
        rw [hv2] at hv
        exact ⟨v, v2, v3, hv, k _ _ H2 S2 m2 e s ((((hE.ext e).set rv i).set rv2 j).set rv3 l) q⟩⟩
end
end DL
set_option Elab.async false
set_option linter.all false
set_option maxRecDepth 100000
set_option maxHeartbeats 8000000
/-! DLD: the rules of dicts. -/
namespace DL
open PySem PySem.Spec
open L2 (V Hp HO St TE TT TA TS TG TI TO PE PT PW PA PS PSs PG PI PO Cx Inv RelV Vals SqL SqT Rd upd upd_same upd_ne ne_of ne_of_none OpR UnR CallR MtR IxR SlR It thn Key kV valV putK DGet DPut)
section
variable {K : PySem.W.Frag} {m m' : List Addr} {H H' : Hp} {S : Sto}
theorem ky_rep {d : D} {v : V} {y : Ky} (h : kyOf d = some y) (r : Rep K H m d v) : v = kV y := by
  cases d with
  | int i => cases h; exact r
  | str x => cases h; exact r
  | _ => cases h
theorem kys_rep : ∀ {ds : List D} {vs : List V} {ys : List Ky}, kysOf ds = some ys → Reps K H m ds vs → vs = ys.map kV
  | [], _, _, h, r => by cases h; exact r
  | d :: ds, _, ys, h, ⟨v, w, e, r1, r2⟩ => by
    unfold kysOf at h
    cases e1 : kyOf d with
    | none => rw [e1] at h; cases h
    | some y =>
      cases e2 : kysOf ds with
      | none => rw [e1, e2] at h; cases h
      | some zs =>
        rw [e1, e2] at h
        cases h
        rw [e, ky_rep e1 r1, kys_rep e2 r2]
        rfl
theorem kyt_rep {d : D} {v : V} {ys : List Ky} (h : kyt d = some ys) (r : Rep K H m d v) : ∃ b, v = .ref b ∧ H b = some (.tup (ys.map kV)) := by
  cases d with
  | tup ds =>
    obtain ⟨b, vs, rfl, hT, rs⟩ := r
    rw [← kys_rep h rs]
    rcases hT with hT | ⟨hc, _⟩
    · exact ⟨b, rfl, hT⟩
    · cases hc
  | _ => cases h
section
variable {κ : Type} [DecidableEq κ]
/-- what is held on both sides -/
def RelO (K : PySem.W.Frag) (H : Hp) (m : List Addr) : Option D → Option V → Prop
  | none, o => o = none
  | some d, o => ∃ v, o = some v ∧ Rep K H m d v
theorem val_rep : ∀ {ks : List (κ × V)} {ds : List (κ × D)}, ks.map (·.1) = ds.map (·.1) → Reps K H m (ds.map (·.2)) (ks.map (·.2)) → ∀ y, RelO K H m (valK ds y) (valV ks y)
  | [], [], _, _, y => rfl
  | p :: ks, q :: ds, hk, ⟨v, w, e, r1, r2⟩, y => by
    simp only [List.map_cons, List.cons.injEq] at hk e
    obtain ⟨hk1, hk2⟩ := hk
    obtain ⟨e1, e2⟩ := e
    subst e1 e2
    unfold valK valV
    rw [List.find?_cons, List.find?_cons, hk1]
    by_cases c : q.1 = y
    · rw [decide_eq_true c]
      exact ⟨_, rfl, r1⟩
    · rw [decide_eq_false c]
      exact val_rep hk2 r2 y
  | [], q :: ds, hk, _, _ => by cases hk
  | p :: ks, [], hk, _, _ => by cases hk
theorem put_keys {α β : Type} (f : List (κ × α) → κ → α → List (κ × α)) : True := trivial
theorem any_keys {α β : Type} {ks : List (κ × α)} {ds : List (κ × β)} (h : ks.map (·.1) = ds.map (·.1)) (y : κ) : (ks.any fun kv => decide (kv.1 = y)) = (ds.any fun kv => decide (kv.1 = y)) := by
  have e : ∀ {γ : Type} (l : List (κ × γ)), (l.any fun kv => decide (kv.1 = y)) = ((l.map (·.1)).any fun k => decide (k = y)) := fun l => by rw [List.any_map]; rfl
  rw [e, e, h]
theorem put_rep {ks : List (κ × V)} {ds : List (κ × D)} (h : ks.map (·.1) = ds.map (·.1)) (r : Reps K H m (ds.map (·.2)) (ks.map (·.2))) (y : κ) {d : D} {v : V} (rv : Rep K H m d v) :
    (putK ks y v).map (·.1) = (putD ds y d).map (·.1) ∧ Reps K H m ((putD ds y d).map (·.2)) ((putK ks y v).map (·.2)) := by
  unfold putK putD
  rw [any_keys h]
  by_cases c : (ds.any fun kv => decide (kv.1 = y)) = true
  · rw [if_pos c, if_pos c]
    clear c
    induction ks generalizing ds with
    | nil => cases ds with
      | nil => exact ⟨rfl, rfl⟩
      | cons _ _ => cases h
    | cons p ks ih => cases ds with
      | nil => cases h
      | cons q ds =>
        obtain ⟨u, w, e, r1, r2⟩ := r
        simp only [List.map_cons, List.cons.injEq] at h e
        obtain ⟨hk1, hk2⟩ := h
        obtain ⟨e1, e2⟩ := e
        subst e1 e2
        obtain ⟨i1, i2⟩ := ih hk2 r2
        simp only [List.map_cons]
        rw [hk1]
        by_cases c : q.1 = y
        · rw [if_pos c, if_pos c]
          exact ⟨by rw [i1], _, _, rfl, rv, i2⟩
        · rw [if_neg c, if_neg c]
          exact ⟨by rw [i1, hk1], _, _, rfl, r1, i2⟩
  · rw [if_neg c, if_neg c]
    rw [List.map_append, List.map_append, List.map_append, List.map_append]
    exact ⟨by rw [h]; rfl, r.app (Reps.one rv)⟩
end
theorem dget_rep (s : RepS K H m S) {x k : D} {xv kv : V} (rx : Rep K H m x xv) (rk : Rep K H m k kv) {P : Option D → Prop} (h : dGet x k S P) : ∃ a o ov, xv = .ref a ∧ DGet H a kv ov ∧ P o ∧ RelO K H m o ov := by
  cases x with
  | ref n =>
    obtain ⟨a, ha, rfl⟩ := rx
    have h : (match S[n]? with
      | some (.dK kvs) => ∃ y, kyOf k = some y ∧ P (valK kvs y)
      | some (.dT kvs) => ∃ y, kyt k = some y ∧ P (valK kvs y)
      | _ => False) := h
    split at h
    · rename_i kvs hS
      obtain ⟨y, hy, q⟩ := h
      obtain ⟨b, g1, ks, g2, g3, g4⟩ := s.obj n _ hS
      rw [ha] at g1
      cases g1
      rw [ky_rep hy rk]
      exact ⟨a, _, _, rfl, .k g2, q, val_rep g3 g4 y⟩
    · rename_i kvs hS
      obtain ⟨y, hy, q⟩ := h
      obtain ⟨b, g1, ks, g2, g3, g4⟩ := s.obj n _ hS
      rw [ha] at g1
      cases g1
      obtain ⟨c, rfl, hc⟩ := kyt_rep hy rk
      exact ⟨a, _, _, rfl, .t g2 hc, q, val_rep g3 g4 y⟩
    · exact h.elim
  | _ => exact (show False from h).elim
theorem RelO.some {o : Option D} {ov : Option V} {d : D} (h : RelO K H m o ov) (e : o = some d) : ∃ v, ov = some v ∧ Rep K H m d v := by
  subst e
  exact h
theorem RelO.isSome {o : Option D} {ov : Option V} (h : RelO K H m o ov) : ov.isSome = o.isSome := by
  cases o with
  | none => rw [show ov = none from h]; rfl
  | some d => obtain ⟨v, rfl, _⟩ := h; rfl
theorem RelO.getD {o : Option D} {ov : Option V} {d : D} {v : V} (h : RelO K H m o ov) (r : Rep K H m d v) : Rep K H m (o.getD d) (ov.getD v) := by
  cases o with
  | none => rw [show ov = none from h]; exact r
  | some e => obtain ⟨w, rfl, q⟩ := h; exact q
end
section
variable {X : Cx} {kk : Nat} {o i e f : Expr} {wo wi we wf : WE} {pos apos cpos : Pos}
theorem room1 {kk : Nat} (hr : L2.Room kk X.A) : X.A.units + 1 < cLine := by have := room65 hr; omega
theorem d_dnewK : PE X (.Dict [] [] pos) (teOf X.K wDNewK) := peI L2.pe_dnewK fun σ H Q ⟨ρ, S, m, R, hE, hS, h, k⟩ => fun p hp =>
  k _ (.ref S.length) _ (S ++ [.dK []]) (m ++ [p]) (Ext.pushed hp _) (hS.pushO (o := .dK []) hp fun H' eH => ⟨[], by rw [eH, upd_same], rfl, rfl⟩) ⟨p, by rw [← hS.len]; simp, rfl⟩ h
theorem d_dnewT : PE X (.Dict [] [] pos) (teOf X.K wDNewT) := peI L2.pe_dnewT fun σ H Q ⟨ρ, S, m, R, hE, hS, h, k⟩ => fun p hp =>
  k _ (.ref S.length) _ (S ++ [.dT []]) (m ++ [p]) (Ext.pushed hp _) (hS.pushO (o := .dT []) hp fun H' eH => ⟨[], by rw [eH, upd_same], rfl, rfl⟩) ⟨p, by rw [← hS.len]; simp, rfl⟩ h
theorem d_dix (hr : L2.Room kk X.A) (ho : PE X o (teOf X.K wo)) (hi : PE X i (teOf X.K wi)) (hs : L2.NoSl i := by first | exact L2.noSl rfl | (intro _ _; rfl) | trivial) : PE X (.Subscript o i pos) (teOf X.K (wOp rDIx wo wi)) :=
  peI (L2.pe_dget (room1 hr) ho hi hs) fun σ H Q ⟨ρ, S, m, R, hE, hS, h, k⟩ => and2 hE hS h fun m2 H2 S2 v u x y e s rx ry q => by
    obtain ⟨a, od, ov, rfl, g, ⟨d, hd, q⟩, ro⟩ := dget_rep s rx ry q
    obtain ⟨w, rfl, rw⟩ := ro.some hd
    exact ⟨a, w, rfl, g, (k.ext e) _ d H2 S2 m2 (Ext.refl _ _) s rw q⟩
theorem g_dix (hr : L2.Room kk X.A) : L2.PGet X (r2Of X.K rDIx) := fun pins s σ H x y v u Q I rx ry ⟨m, S, dx, dy, R, hs, qx, qy, h, k⟩ => by
  obtain ⟨a, od, ov, rfl, g, ⟨d, hd, q⟩, ro⟩ := dget_rep hs qx qy h
  obtain ⟨w, rfl, rw⟩ := ro.some hd
  cases rx
  exact L2.d_getItem (room1 hr) I g ry fun w' s' I' r' => ⟨w, H, I', r', k w d H S m (Ext.refl _ _) hs rw q⟩
theorem c_din (hr : L2.Room kk X.A) : OpR X (compareOp .In) (r2Of X.K (rDIn false)) := fun pins s σ H x y v u Q I rx ry ⟨m, S, dx, dy, R, hs, qx, qy, h, k⟩ => by
  obtain ⟨a, od, ov, rfl, g, q, ro⟩ := dget_rep hs qy qx h
  cases ry
  refine L2.d_in (room1 hr) I g rx fun s' I' => ⟨.bl ov.isSome, H, I', rfl, k _ (.bl ov.isSome) H S m (Ext.refl _ _) hs rfl ?_⟩
  rw [ro.isSome]
  exact q
theorem c_dnotin (hr : L2.Room kk X.A) : OpR X (compareOp .NotIn) (r2Of X.K (rDIn true)) := fun pins s σ H x y v u Q I rx ry ⟨m, S, dx, dy, R, hs, qx, qy, h, k⟩ => by
  obtain ⟨a, od, ov, rfl, g, q, ro⟩ := dget_rep hs qy qx h
  cases ry
  refine L2.d_notIn (room1 hr) I g rx fun s' I' => ⟨.bl (!ov.isSome), H, I', rfl, k _ (.bl (!ov.isSome)) H S m (Ext.refl _ _) hs rfl ?_⟩
  rw [ro.isSome]
  exact q
theorem isDc_rep {K : PySem.W.Frag} {m : List Addr} {H : Hp} {S : Sto} {x : D} {v : V} (s : RepS K H m S) (r : Rep K H m x v) (h : isDc x S) : ∃ a, v = .ref a ∧ L2.IsD H a := by
  cases x with
  | ref n =>
    obtain ⟨a, ha, rfl⟩ := r
    rcases h with ⟨kvs, h⟩ | ⟨kvs, h⟩
    · obtain ⟨b, g1, ks, g2, g3⟩ := s.obj n _ h
      rw [ha] at g1
      cases g1
      exact ⟨a, rfl, .inl ⟨ks, .inl g2⟩⟩
    · obtain ⟨b, g1, ks, g2, g3⟩ := s.obj n _ h
      rw [ha] at g1
      cases g1
      exact ⟨a, rfl, .inr ⟨ks, .inl g2⟩⟩
  | _ => exact (show False from h).elim
theorem d_dget2 (hr : L2.Room kk X.A) (ho : PE X o (teOf X.K wo)) (he : PE X e (teOf X.K we)) (hf : PE X f (teOf X.K wf)) (hm : L2.M2 X o "get" apos e f cpos := by exact ⟨by rfl, by rfl, by rfl, by rfl⟩) :
    PE X (.Call (.Attribute o "get" apos) [e, f] [] cpos) (teOf X.K (wDGet2 wo we wf)) :=
  peI (L2.pe_dget2 (room1 hr) ho he hf hm) fun σ H Q ⟨ρ, S, m, R, hE, hS, h, k⟩ => ⟨ρ, S, m, _, hE, hS, h, fun v x H1 S1 m1 e1 s1 r1 ⟨z, q1⟩ => by
    obtain ⟨a, rfl, hd⟩ := isDc_rep s1 r1 z
    refine ⟨a, rfl, hd, ρ, S1, m1, _, hE.ext e1, s1, q1, fun u y H2 S2 m2 e2 s2 r2 q2 => ⟨ρ, S2, m2, _, hE.ext (e1.trans e2), s2, q2, fun w t H3 S3 m3 e3 s3 r3 q3 => ?_⟩⟩
    obtain ⟨b, od, ov, eb, g, q, ro⟩ := dget_rep s3 (Rep.ext (e2.trans e3) _ _ r1) (Rep.ext e3 _ _ r2) q3
    cases eb
    exact ⟨ov, g, (k.ext ((e1.trans e2).trans e3)) _ (od.getD t) H3 S3 m3 (Ext.refl _ _) s3 (ro.getD r3) q⟩⟩
theorem p_dput (hr : L2.Room kk X.A) : L2.PSet X (rpOf X.K rDPut) := fun pins s σ H o i v ov iv u Q I ro ri rv ⟨m, S, x, j, d, R, hs, rx, rk, rd, h, k⟩ => by
  suffices hq : ∃ a H', o = .ref a ∧ DPut H a i v H' ∧ Q H' by
    obtain ⟨a, H', eo, g, q⟩ := hq
    subst eo
    cases (show ov = Value.ref a from ro)
    exact L2.d_setItem (room1 hr) I g ri rv fun s' I' => ⟨H', I', q⟩
  cases x with
  | ref n =>
    obtain ⟨a, ha, rfl⟩ := rx
    have h : (match S[n]? with
      | some (.dK kvs) => ∃ y, kyOf j = some y ∧ kvs.length < szL ∧ R (S.set n (.dK (putD kvs y d)))
      | some (.dT kvs) => ∃ y, kyt j = some y ∧ kvs.length < szL ∧ R (S.set n (.dT (putD kvs y d)))
      | _ => False) := h
    split at h
    · rename_i kvs hS
      obtain ⟨y, hy, hl, q⟩ := h
      obtain ⟨b, g1, ks, g2, g3, g4⟩ := hs.obj n _ hS
      rw [ha] at g1
      cases g1
      have hlen : ks.length = kvs.length := by have := congrArg List.length g3; simpa using this
      obtain ⟨p1, p2⟩ := put_rep g3 g4 y rd
      refine ⟨a, _, rfl, ?_, k _ _ m (Ext.wrote (List.mem_of_getElem? ha) g2 rfl) (hs.setO (o' := .dK (putD kvs y d)) (ob := .dK (putK ks y v)) hS ha fun H' eH ext => ⟨_, by rw [eH, upd_same], p1, Reps.ext ext _ _ p2⟩) q⟩
      rw [ky_rep hy rk]
      exact .k g2 (by rw [hlen, ← szL']; exact hl)
    · rename_i kvs hS
      obtain ⟨y, hy, hl, q⟩ := h
      obtain ⟨b, g1, ks, g2, g3, g4⟩ := hs.obj n _ hS
      rw [ha] at g1
      cases g1
      have hlen : ks.length = kvs.length := by have := congrArg List.length g3; simpa using this
      obtain ⟨p1, p2⟩ := put_rep g3 g4 y rd
      obtain ⟨c, rfl, hc⟩ := kyt_rep hy rk
      refine ⟨a, _, rfl, ?_, k _ _ m (Ext.wrote (List.mem_of_getElem? ha) g2 rfl) (hs.setO (o' := .dT (putD kvs y d)) (ob := .dT (putK ks y v)) hS ha fun H' eH ext => ⟨_, by rw [eH, upd_same], p1, Reps.ext ext _ _ p2⟩) q⟩
      exact .t g2 hc (by rw [hlen, ← szL']; exact hl)
    · exact h.elim
  | _ => exact (show False from h).elim
end
end DL
set_option linter.all false
set_option maxRecDepth 100000
set_option maxHeartbeats 4000000
/-! DLP: helpers over DL0: the store, lists of plain data, loops, comprehensions, what every law's own helpers keep. -/
namespace DL
/-! ### the store -/
/-- all that was there is there -/
def Sub (S S' : Sto) : Prop := ∀ (n : Nat) (o : O), S[n]? = some o → S'[n]? = some o
theorem Sub.refl (S : Sto) : Sub S S := fun _ _ h => h
theorem Sub.trans {S S1 S2 : Sto} (a : Sub S S1) (b : Sub S1 S2) : Sub S S2 := fun n o h => b n o (a n o h)
theorem Sub.push (S : Sto) (l : Sto) : Sub S (S ++ l) := fun n o h => by
  rw [List.getElem?_append_left (List.getElem?_eq_some_iff.mp h).1]
  exact h
theorem at_push (S : Sto) (o : O) : (S ++ [o])[S.length]? = some o := by simp
theorem Sub.lt {S S' : Sto} (h : Sub S S') {n : Nat} {o : O} (e : S[n]? = some o) : n < S'.length := (List.getElem?_eq_some_iff.mp (h n o e)).1
theorem at_lt {S : Sto} {n : Nat} {o : O} (e : S[n]? = some o) : n < S.length := (List.getElem?_eq_some_iff.mp e).1
theorem at_set {S : Sto} {n : Nat} {o o' : O} (e : S[n]? = some o) : (S.set n o')[n]? = some o' := List.getElem?_set_self (at_lt e)
theorem at_set_ne {S : Sto} {n k : Nat} {o' : O} (h : k ≠ n) : (S.set n o')[k]? = S[k]? := List.getElem?_set_ne (Ne.symm h)
theorem isLst_at {S : Sto} {n : Nat} {xs : List D} {P : List D → Prop} (h : S[n]? = some (.lst xs)) : isLst S n P = P xs := by
  unfold isLst
  rw [h]
/-- the draws stand at n -/
def Dr (n : Nat) (S : Sto) : Prop := ∃ ns : List Int, S[n]? = some (.lst (intD ns))
/-- all but what stands at n is there -/
def Ch (n : Nat) (S S' : Sto) : Prop := ∀ (k : Nat) (o : O), k ≠ n → S[k]? = some o → S'[k]? = some o
theorem Ch.refl (n : Nat) (S : Sto) : Ch n S S := fun _ _ _ h => h
theorem Ch.trans {n : Nat} {S S1 S2 : Sto} (a : Ch n S S1) (b : Ch n S1 S2) : Ch n S S2 := fun k o hk h => b k o hk (a k o hk h)
theorem Sub.ch {n : Nat} {S S' : Sto} (h : Sub S S') : Ch n S S' := fun k o _ e => h k o e
theorem Dr.sub {n : Nat} {S S' : Sto} (d : Dr n S) (h : Sub S S') : Dr n S' := let ⟨ns, e⟩ := d; ⟨ns, h n _ e⟩
theorem Ch.set {n : Nat} (S : Sto) (o : O) : Ch n S (S.set n o) := fun k u hk e => by rw [at_set_ne hk]; exact e

theorem ite_i {c A B : Prop} {_ : Decidable c} (h1 : c → A) (h2 : ¬ c → B) : if c then A else B := by
  by_cases h : c
  · rw [if_pos h]; exact h1 h
  · rw [if_neg h]; exact h2 h
theorem Sub.put {S S' : Sto} {n : Nat} {o : O} (h : Sub S S') (hn : S.length ≤ n) : Sub S (S'.set n o) := fun k u e => by
  rw [at_set_ne (by have := at_lt e; omega)]
  exact h k u e
theorem Sub.app {S S' : Sto} (h : Sub S S') (l : Sto) : Sub S (S' ++ l) := h.trans (Sub.push S' l)
theorem push_at {S : Sto} {n : Nat} {o : O} (h : S[n]? = some o) (l : Sto) : (S ++ l)[n]? = some o := Sub.push S l n o h
/-! ### places of lists -/
theorem atZ_nat {α : Type} {xs : List α} {i : Nat} {x : α} (h : xs[i]? = some x) : atZ xs (i : Int) = some x := by
  have hl : i < xs.length := (List.getElem?_eq_some_iff.mp h).1
  unfold atZ ixZ
  rw [if_pos (by omega), if_pos (by omega)]
  simpa using h
theorem atZ_lt {α : Type} {xs : List α} {i : Int} (h0 : 0 ≤ i) (h1 : i < xs.length) : ∃ x, atZ xs i = some x ∧ xs[i.toNat]? = some x := by
  have hl : i.toNat < xs.length := by omega
  refine ⟨xs[i.toNat], ?_, List.getElem?_eq_getElem hl⟩
  have := atZ_nat (List.getElem?_eq_getElem hl)
  rw [show ((i.toNat : Nat) : Int) = i by omega] at this
  exact this
theorem intD_get {ns : List Int} {i : Nat} {d : D} (h : (intD ns)[i]? = some d) : ∃ n, ns[i]? = some n ∧ d = .int n := by
  rw [List.getElem?_map] at h
  cases e : ns[i]? with
  | none => rw [e] at h; cases h
  | some n => rw [e] at h; exact ⟨n, rfl, (Option.some.inj h).symm⟩
theorem intD_at {ns : List Int} {i : Nat} {n : Int} (h : ns[i]? = some n) : (intD ns)[i]? = some (.int n) := by
  rw [List.getElem?_map, h]
  rfl
theorem intD_atZ {ns : List Int} {i : Int} (h0 : 0 ≤ i) (h1 : i < ns.length) : ∃ n, ns[i.toNat]? = some n ∧ atZ (intD ns) i = some (.int n) := by
  have hl : i.toNat < ns.length := by omega
  refine ⟨ns[i.toNat], List.getElem?_eq_getElem hl, ?_⟩
  have := atZ_nat (intD_at (List.getElem?_eq_getElem hl))
  rw [show ((i.toNat : Nat) : Int) = i by omega] at this
  exact this
theorem sIx_nn (n d : Nat) {i : Int} (h : 0 ≤ i) : sIx n d (some i) = min i.toNat n := by
  show (if i < 0 then (i + n).toNat else min i.toNat n) = _
  rw [if_neg (by omega)]
theorem sIx_no (n d : Nat) : sIx n d none = d := rfl
theorem cut_take {α : Type} (xs : List α) {i : Int} (h : 0 ≤ i) : cut xs none (some i) = xs.take i.toNat := by
  unfold cut
  rw [sIx_no, sIx_nn _ _ h, List.drop_zero, Nat.sub_zero]
  by_cases hc : i.toNat ≤ xs.length
  · rw [Nat.min_eq_left hc]
  · rw [Nat.min_eq_right (by omega), List.take_length, List.take_of_length_le (by omega)]
theorem cut_drop {α : Type} (xs : List α) {i : Int} (h : 0 ≤ i) : cut xs (some i) none = xs.drop i.toNat := by
  unfold cut
  rw [sIx_no, sIx_nn _ _ h]
  by_cases hc : i.toNat ≤ xs.length
  · rw [Nat.min_eq_left hc, List.take_of_length_le (by simp)]
  · rw [Nat.min_eq_right (by omega), List.drop_length, List.drop_of_length_le (by omega)]
    simp
theorem rangeD_get {lo hi : Int} {i : Nat} {d : D} (h : (rangeD lo hi)[i]? = some d) : i < (hi - lo).toNat ∧ d = .int (lo + i) := by
  unfold rangeD at h
  rw [List.getElem?_map] at h
  by_cases hi : i < (hi - lo).toNat
  · rw [List.getElem?_range hi] at h
    exact ⟨hi, (Option.some.inj h).symm⟩
  · rw [List.getElem?_eq_none (by simpa using hi)] at h
    cases h
theorem rangeD_len (lo hi : Int) : (rangeD lo hi).length = (hi - lo).toNat := by simp [rangeD]
theorem rangeD_nat (n : Nat) : rangeD 0 (n : Int) = (List.range n).map fun (i : Nat) => D.int (i : Int) := by
  unfold rangeD
  rw [show ((n : Int) - 0).toNat = n by omega]
  apply List.map_congr_left
  intro i _
  rw [Int.zero_add]
theorem mem_rangeD {lo hi : Int} {d : D} (h : d ∈ rangeD lo hi) : ∃ i : Nat, i < (hi - lo).toNat ∧ d = .int (lo + i) := by
  obtain ⟨i, hi, e⟩ := List.mem_map.mp h
  exact ⟨i, List.mem_range.mp hi, e.symm⟩
theorem flats_int : ∀ ns : List Int, flats (intD ns) = true
  | [] => rfl
  | n :: ns => by
    show (true && flats (intD ns)) = true
    rw [flats_int ns]
    rfl
theorem flats0_int (ns : List Int) : (intD ns).all flat0 = true := by
  induction ns with
  | nil => rfl
  | cons n ns ih =>
    show (true && (intD ns).all flat0) = true
    rw [ih]
    rfl
theorem deeps_int : ∀ ns : List Int, deeps (intD ns) = 0
  | [] => rfl
  | n :: ns => by
    show max 0 (deeps (intD ns)) = 0
    rw [deeps_int ns]
    rfl
/-! no tuple is longer than a store can tell -/
mutual
def slim : D → Bool
  | .tup xs => decide (xs.length ≤ szL) && slims xs
  | _ => true
def slims : List D → Bool
  | [] => true
  | x :: xs => slim x && slims xs
end
theorem slims_int : ∀ ns : List Int, slims (intD ns) = true
  | [] => rfl
  | n :: ns => by
    show (true && slims (intD ns)) = true
    rw [slims_int ns]
    rfl
theorem flats_get {xs : List D} {i : Nat} {d : D} : flats xs = true → xs[i]? = some d → flat d = true := by
  induction xs generalizing i with
  | nil => intro _ h; cases h
  | cons x xs ih =>
    intro h e
    have h := Bool.and_eq_true_iff.mp (show (flat x && flats xs) = true from h)
    cases i with
    | zero => rw [← Option.some.inj e]; exact h.1
    | succ i => exact ih h.2 e
theorem slims_get {xs : List D} {i : Nat} {d : D} : slims xs = true → xs[i]? = some d → slim d = true := by
  induction xs generalizing i with
  | nil => intro _ h; cases h
  | cons x xs ih =>
    intro h e
    have h := Bool.and_eq_true_iff.mp (show (slim x && slims xs) = true from h)
    cases i with
    | zero => rw [← Option.some.inj e]; exact h.1
    | succ i => exact ih h.2 e
theorem deeps_get {xs : List D} {i : Nat} {d : D} : xs[i]? = some d → deep d ≤ deeps xs := by
  induction xs generalizing i with
  | nil => intro h; cases h
  | cons x xs ih =>
    intro e
    show deep d ≤ max (deep x) (deeps xs)
    cases i with
    | zero => rw [← Option.some.inj e]; omega
    | succ i => have := ih e; omega
mutual
theorem eqD_self : ∀ d : D, flat d = true → eqD d d = true
  | .non, _ => rfl
  | .bl b, _ => by cases b <;> rfl
  | .int i, _ => by show decide (i = i) = true; simp
  | .str x, _ => by show decide (x = x) = true; simp
  | .tup xs, h => eqDs_self xs h
  | .rol _, h => by cases (show false = true from h)
  | .ref _, h => by cases (show false = true from h)
  | .ty _, h => by cases (show false = true from h)
theorem eqDs_self : ∀ ds : List D, flats ds = true → eqDs ds ds = true
  | [], _ => rfl
  | d :: ds, h => by
    have h := Bool.and_eq_true_iff.mp (show (flat d && flats ds) = true from h)
    show (eqD d d && eqDs ds ds) = true
    rw [eqD_self d h.1, eqDs_self ds h.2]
    rfl
end

/-! ### sorting -/
theorem perm_map {α β : Type} (f : α → β) : ∀ {ys zs : List β}, ys.Perm zs → ∀ l : List α, zs = l.map f → ∃ l' : List α, l'.Perm l ∧ ys = l'.map f := by
  intro ys zs p
  induction p with
  | nil => intro l e; cases l with
    | nil => exact ⟨[], .refl _, rfl⟩
    | cons _ _ => cases e
  | cons x p ih =>
    intro l e
    cases l with
    | nil => cases e
    | cons a l =>
      rw [List.map_cons] at e
      injection e with e1 e2
      obtain ⟨l', h1, h2⟩ := ih l e2
      exact ⟨a :: l', h1.cons a, by rw [List.map_cons, ← h2, e1]⟩
  | swap x y l0 =>
    intro l e
    match l, e with
    | a :: b :: l, e =>
      rw [List.map_cons, List.map_cons] at e
      injection e with e1 e2
      injection e2 with e2 e3
      exact ⟨b :: a :: l, .swap .., by rw [List.map_cons, List.map_cons, e1, e2, e3]⟩
  | trans p1 p2 ih1 ih2 =>
    intro l e
    obtain ⟨l2, h1, h2⟩ := ih2 l e
    obtain ⟨l1, h3, h4⟩ := ih1 l2 h2
    exact ⟨l1, h3.trans h1, h4⟩
/-- two ascending lists of the same members -/
theorem asc_one : ∀ {a b : List Int}, a.Pairwise (· < ·) → b.Pairwise (· < ·) → (∀ x, x ∈ a ↔ x ∈ b) → a = b
  | [], [], _, _, _ => rfl
  | [], y :: b, _, _, h => by have := (h y).mpr List.mem_cons_self; cases this
  | x :: a, [], _, _, h => by have := (h x).mp List.mem_cons_self; cases this
  | x :: a, y :: b, pa, pb, h => by
    rw [List.pairwise_cons] at pa pb
    have e : x = y := by
      rcases List.mem_cons.mp ((h x).mp List.mem_cons_self) with e | m1
      · exact e
      · rcases List.mem_cons.mp ((h y).mpr List.mem_cons_self) with e | m2
        · exact e.symm
        · have := pb.1 x m1
          have := pa.1 y m2
          omega
    subst e
    rw [asc_one pa.2 pb.2 fun z => ⟨fun hz => ?_, fun hz => ?_⟩]
    · rcases List.mem_cons.mp ((h z).mp (List.mem_cons_of_mem _ hz)) with e | m
      · have := pa.1 z hz
        omega
      · exact m
    · rcases List.mem_cons.mp ((h z).mpr (List.mem_cons_of_mem _ hz)) with e | m
      · have := pb.1 z hz
        omega
      · exact m

/-! ### comprehensions that change nothing: f tells what each item gives -/
theorem Lc_fun {items : List D} {guard : Sto → Prop} {S1 : Sto} {step : D → Sto → (Option D → Sto → Prop) → Prop} {Q : VK} (f : D → Option D) (hz : items.length ≤ szL) (hg : ∀ S', Sub S1 S' → guard S')
    (hs : ∀ (i : Nat) (d : D) S' R, items[i]? = some d → Sub S1 S' → (∀ S2, Sub S' S2 → R (f d) S2) → step d S' R) (hd : ∀ S', Sub S1 S' → Q (.ref S'.length) (S' ++ [.lst (items.filterMap f)])) : Lc items guard S1 step Q := by
  refine ⟨hz, fun i acc S' => Sub S1 S' ∧ acc = (items.take i).filterMap f, ⟨.refl _, rfl⟩, fun i acc S' h => hg S' h.1, ?_, ?_⟩
  · rintro i d acc S' hi ⟨h1, rfl⟩
    refine hs i d S' _ hi h1 fun S2 h2 => ⟨h1.trans h2, ?_⟩
    rw [List.take_add_one, hi]
    cases e : f d with
    | none => simp [e]
    | some y => simp [e]
  · rintro acc S' ⟨h1, rfl⟩
    rw [List.take_length]
    exact hd S' h1

theorem ite_d {c A B : Prop} {_ : Decidable c} (h1 : c → A) (h2 : ¬ c → B) : if decide c = true then A else B := by
  by_cases h : c
  · rw [if_pos (decide_eq_true h)]; exact h1 h
  · rw [if_neg (by simpa using h)]; exact h2 h
theorem okII (i j : Int) : flat (.int i) = true ∧ flat (.int j) = true ∧ deep (.int i) ≤ 64 ∧ deep (.int j) ≤ 64 := ⟨rfl, rfl, Nat.zero_le _, Nat.zero_le _⟩
theorem goEq {i j : Int} {S : Sto} {Q : VK} (h : Q (.bl (decide (i = j))) S) : (flat (.int i) = true ∧ flat (.int j) = true ∧ deep (.int i) ≤ 64 ∧ deep (.int j) ≤ 64) ∧ Q (.bl (eqD (.int i) (.int j))) S := ⟨okII i j, h⟩
theorem goNe {i j : Int} {S : Sto} {Q : VK} (h : Q (.bl (!decide (i = j))) S) : (flat (.int i) = true ∧ flat (.int j) = true ∧ deep (.int i) ≤ 64 ∧ deep (.int j) ≤ 64) ∧ Q (.bl (!eqD (.int i) (.int j))) S := ⟨okII i j, h⟩
theorem Loop_mk {items : List D} {guard : Sto → Prop} {step : D → Env → Sto → (Env → Sto → Prop) → Prop} {done : Env → Sto → Prop} {ρ : Env} {S : Sto} (I : Nat → Env → Sto → Prop)
    (h0 : I 0 ρ S) (hg : ∀ i ρ' S', I i ρ' S' → guard S') (hs : ∀ i d ρ' S', items[i]? = some d → I i ρ' S' → step d ρ' S' (I (i + 1))) (hd : ∀ ρ' S', I items.length ρ' S' → done ρ' S') : Loop items guard step done ρ S := ⟨I, h0, hg, hs, hd⟩
theorem fmod_lt {a b : Int} (h : 0 < b) : 0 ≤ a.fmod b ∧ a.fmod b < b := ⟨Int.fmod_nonneg_of_pos a h, Int.fmod_lt_of_pos a h⟩
theorem atZ_intD {ns : List Int} {i : Int} (h0 : 0 ≤ i) (h1 : i < ns.length) : atZ (intD ns) i = some (.int (ns.getD i.toNat 0)) := by
  obtain ⟨n, h, e⟩ := intD_atZ h0 h1
  rw [e, List.getD_eq_getElem?_getD, h]
  rfl
theorem ixZ_ok {n : Nat} {i : Int} (h0 : 0 ≤ i) (h1 : i < n) : ixZ n i = some i.toNat := by
  unfold ixZ
  rw [if_pos h0, if_pos h1]
theorem intD_set (ns : List Int) (i : Nat) (x : Int) : (intD ns).set i (.int x) = intD (ns.set i x) := by show (ns.map D.int).set i (D.int x) = (ns.set i x).map D.int; rw [List.map_set]
theorem smallMul {i j : Int} (h : j.natAbs < 2 ^ 64) : MulOk i j := Or.inl (Or.inr h)
theorem smallMul' {i j : Int} (h : i.natAbs < 2 ^ 64) : MulOk i j := Or.inl (Or.inl h)
abbrev natD (ns : List Nat) : List D := intD (ns.map fun (k : Nat) => (k : Int))
theorem intD_len (ns : List Int) : (intD ns).length = ns.length := List.length_map ..
theorem natD_len (ns : List Nat) : (natD ns).length = ns.length := by rw [intD_len, List.length_map]
theorem natD_get {ns : List Nat} {i : Nat} {d : D} (h : (natD ns)[i]? = some d) : ∃ n : Nat, ns[i]? = some n ∧ d = .int n := by
  obtain ⟨x, h1, rfl⟩ := intD_get h
  rw [List.getElem?_map] at h1
  cases e : ns[i]? with
  | none => rw [e] at h1; cases h1
  | some n => rw [e] at h1; exact ⟨n, rfl, by rw [← Option.some.inj h1]⟩
/-- over a range -/
theorem Lc_rf {n : Nat} {guard : Sto → Prop} {S1 : Sto} {step : D → Sto → (Option D → Sto → Prop) → Prop} {Q : VK} (p : Nat → Bool) (f : Nat → D) (hz : n ≤ szL) (hg : ∀ S', Sub S1 S' → guard S')
    (hs : ∀ (i : Nat) S' R, i < n → Sub S1 S' → (∀ S2, Sub S' S2 → R (if p i = true then some (f i) else none) S2) → step (.int (i : Int)) S' R) (hd : ∀ S', Sub S1 S' → Q (.ref S'.length) (S' ++ [.lst (((List.range n).filter p).map f)])) : Lc (rangeD 0 (n : Int)) guard S1 step Q := by
  refine ⟨by rw [rangeD_len]; omega, fun i acc S' => Sub S1 S' ∧ acc = ((List.range i).filter p).map f, ⟨.refl _, rfl⟩, fun i acc S' h => hg S' h.1, ?_, ?_⟩
  · rintro i d acc S' hi ⟨h1, rfl⟩
    obtain ⟨hi1, rfl⟩ := rangeD_get hi
    rw [Int.zero_add]
    refine hs i S' _ (by omega) h1 fun S2 h2 => ⟨h1.trans h2, ?_⟩
    rw [List.range_succ, List.filter_append, List.map_append]
    cases e : p i <;> simp [e]
  · rintro acc S' ⟨h1, rfl⟩
    rw [rangeD_len, show ((n : Int) - 0).toNat = n by omega]
    exact hd S' h1
theorem Lc_rm {n : Nat} {guard : Sto → Prop} {S1 : Sto} {step : D → Sto → (Option D → Sto → Prop) → Prop} {Q : VK} (f : Nat → D) (hz : n ≤ szL) (hg : ∀ S', Sub S1 S' → guard S')
    (hs : ∀ (i : Nat) S' R, i < n → Sub S1 S' → (∀ S2, Sub S' S2 → R (some (f i)) S2) → step (.int (i : Int)) S' R) (hd : ∀ S', Sub S1 S' → Q (.ref S'.length) (S' ++ [.lst ((List.range n).map f)])) : Lc (rangeD 0 (n : Int)) guard S1 step Q := by
  refine Lc_rf (fun _ => true) f hz hg (fun i S' R h1 h2 h3 => hs i S' R h1 h2 fun S2 h4 => h3 S2 h4) fun S' h => ?_
  rw [List.filter_eq_self.mpr (fun _ _ => rfl)]
  exact hd S' h
/-- over any list that is known by a map -/
theorem Lc_lf {α : Type} {xs : List α} {e : α → D} {guard : Sto → Prop} {S1 : Sto} {step : D → Sto → (Option D → Sto → Prop) → Prop} {Q : VK} (p : α → Bool) (f : α → D) (hz : xs.length ≤ szL) (hg : ∀ S', Sub S1 S' → guard S')
    (hs : ∀ (x : α) S' R, x ∈ xs → Sub S1 S' → (∀ S2, Sub S' S2 → R (if p x = true then some (f x) else none) S2) → step (e x) S' R) (hd : ∀ S', Sub S1 S' → Q (.ref S'.length) (S' ++ [.lst ((xs.filter p).map f)])) : Lc (xs.map e) guard S1 step Q := by
  refine ⟨by rw [List.length_map]; exact hz, fun i acc S' => Sub S1 S' ∧ acc = ((xs.take i).filter p).map f, ⟨.refl _, rfl⟩, fun i acc S' h => hg S' h.1, ?_, ?_⟩
  · rintro i d acc S' hi ⟨h1, rfl⟩
    rw [List.getElem?_map] at hi
    cases ex : xs[i]? with
    | none => rw [ex] at hi; cases hi
    | some x =>
      rw [ex] at hi
      cases Option.some.inj hi
      refine hs x S' _ (List.mem_of_getElem? ex) h1 fun S2 h2 => ⟨h1.trans h2, ?_⟩
      rw [List.take_add_one, ex]
      cases e : p x <;> simp [e]
  · rintro acc S' ⟨h1, rfl⟩
    rw [List.length_map, List.take_length]
    exact hd S' h1
theorem Lc_lm {α : Type} {xs : List α} {e : α → D} {guard : Sto → Prop} {S1 : Sto} {step : D → Sto → (Option D → Sto → Prop) → Prop} {Q : VK} (f : α → D) (hz : xs.length ≤ szL) (hg : ∀ S', Sub S1 S' → guard S')
    (hs : ∀ (x : α) S' R, x ∈ xs → Sub S1 S' → (∀ S2, Sub S' S2 → R (some (f x)) S2) → step (e x) S' R) (hd : ∀ S', Sub S1 S' → Q (.ref S'.length) (S' ++ [.lst (xs.map f)])) : Lc (xs.map e) guard S1 step Q := by
  refine Lc_lf (fun _ => true) f hz hg (fun x S' R h1 h2 h3 => hs x S' R h1 h2 fun S2 h4 => h3 S2 h4) fun S' h => ?_
  rw [List.filter_eq_self.mpr (fun _ _ => rfl)]
  exact hd S' h
theorem atZ_intN {ns : List Int} {i : Nat} (h : i < ns.length) : atZ (intD ns) (i : Int) = some (.int (ns.getD i 0)) := by
  have := atZ_intD (ns := ns) (i := (i : Int)) (by omega) (by omega)
  rwa [Int.toNat_natCast] at this
theorem flats_map {α : Type} {f : α → D} : ∀ {l : List α}, (∀ x ∈ l, flat (f x) = true) → flats (l.map f) = true
  | [], _ => rfl
  | x :: l, h => by
    show (flat (f x) && flats (l.map f)) = true
    rw [h x List.mem_cons_self, flats_map fun y hy => h y (List.mem_cons_of_mem _ hy)]
    rfl
theorem slims_map {α : Type} {f : α → D} : ∀ {l : List α}, (∀ x ∈ l, slim (f x) = true) → slims (l.map f) = true
  | [], _ => rfl
  | x :: l, h => by
    show (slim (f x) && slims (l.map f)) = true
    rw [h x List.mem_cons_self, slims_map fun y hy => h y (List.mem_cons_of_mem _ hy)]
    rfl
theorem deeps_map {α : Type} {f : α → D} {N : Nat} : ∀ {l : List α}, (∀ x ∈ l, deep (f x) ≤ N) → deeps (l.map f) ≤ N
  | [], _ => Nat.zero_le _
  | x :: l, h => by
    show max (deep (f x)) (deeps (l.map f)) ≤ N
    have := h x List.mem_cons_self
    have := deeps_map (l := l) fun y hy => h y (List.mem_cons_of_mem _ hy)
    omega
/-- ints sort -/
theorem sortOk_int (ns : List Int) : sortOk (intD ns) := by
  refine ⟨flats_int ns, by rw [deeps_int]; omega, ?_, Or.inr ?_⟩
  · intro a ha b hb
    obtain ⟨x, _, rfl⟩ := List.mem_map.mp ha
    obtain ⟨y, _, rfl⟩ := List.mem_map.mp hb
    rfl
  · intro a ha
    obtain ⟨x, _, rfl⟩ := List.mem_map.mp ha
    exact ⟨by simp, by simp⟩
theorem sort_int {ns : List Int} {ys : List D} (hp : ys.Perm (intD ns)) (hw : ys.Pairwise (fun a b => ltD b a = false)) : ∃ ms : List Int, ys = intD ms ∧ ms.Perm ns ∧ ms.Pairwise (· ≤ ·) := by
  obtain ⟨ms, h1, rfl⟩ := perm_map _ hp _ rfl
  refine ⟨ms, rfl, h1, ?_⟩
  rw [List.pairwise_map] at hw
  refine hw.imp fun {a b} h => ?_
  have h : decide (b < a) = false := h
  simpa using h
theorem get_at {S : Sto} {n : Nat} {xs : List D} (h : S[n]? = some (.lst xs)) : S[n]? = some (.lst xs) := h
theorem natD_map (l : List Nat) : natD l = l.map fun (k : Nat) => D.int (k : Int) := by simp [natD, intD]
theorem any_int (ns : List Int) (x : Int) : (intD ns).any (fun y => eqD y (.int x)) = decide (x ∈ ns) := by
  induction ns with
  | nil => simp
  | cons n ns ih =>
    show (eqD (.int n) (.int x) || (intD ns).any fun y => eqD y (.int x)) = _
    rw [ih, show eqD (.int n) (.int x) = decide (n = x) from rfl]
    simp only [List.mem_cons, Bool.decide_or]
    congr 1
    simp [eq_comm]
theorem any_nat (ns : List Nat) (x : Nat) : (natD ns).any (fun y => eqD y (.int x)) = decide (x ∈ ns) := by
  rw [any_int]
  have : ((x : Int) ∈ ns.map fun (k : Nat) => (k : Int)) ↔ x ∈ ns := by
    rw [List.mem_map]
    exact ⟨fun ⟨a, h, e⟩ => by rwa [show x = a by omega], fun h => ⟨x, h, rfl⟩⟩
  simp only [this]
theorem Ch.put {S S' : Sto} {n m : Nat} {o : O} (h : Ch n S S') (hm : S.length ≤ m) : Ch n S (S'.set m o) := fun k u hk e => by
  rw [at_set_ne (by have := at_lt e; omega)]
  exact h k u hk e
theorem Ch.app {S S' : Sto} {n : Nat} (h : Ch n S S') (l : Sto) : Ch n S (S' ++ l) := h.trans (Sub.push S' l).ch
theorem Dr.app {n : Nat} {S : Sto} (d : Dr n S) (l : Sto) : Dr n (S ++ l) := d.sub (Sub.push S l)
theorem Dr.put {n m : Nat} {S : Sto} {o : O} (d : Dr n S) (h : n ≠ m) : Dr n (S.set m o) := let ⟨ns, e⟩ := d; ⟨ns, by rw [at_set_ne h]; exact e⟩
theorem Dr.lt {n : Nat} {S : Sto} (d : Dr n S) : n < S.length := let ⟨_, e⟩ := d; at_lt e
theorem Ch.len {n : Nat} {S S' : Sto} (h : Ch n S S') (hn : n < S'.length) : S.length ≤ S'.length := by
  false_or_by_contra
  rename_i hc
  have h1 : S.length - 1 < S.length := by omega
  by_cases e : S.length - 1 = n
  · omega
  · have := at_lt (h (S.length - 1) _ e (List.getElem?_eq_getElem h1))
    omega
theorem Sub.len {S S' : Sto} (h : Sub S S') : S.length ≤ S'.length := by
  false_or_by_contra
  rename_i hc
  have h1 : S.length - 1 < S.length := by omega
  have := at_lt (h (S.length - 1) _ (List.getElem?_eq_getElem h1))
  omega
theorem ifT {c : Bool} {A B : Prop} {_ : Decidable (c = true)} (h : c = true) (a : A) : if c = true then A else B := by rw [if_pos h]; exact a
theorem ifF {c : Bool} {A B : Prop} {_ : Decidable (c = true)} (h : c = false) (b : B) : if c = true then A else B := by rw [if_neg (by rw [h]; decide)]; exact b
theorem it_at {S : Sto} {n : Nat} {xs : List D} {A : List D → Prop} (h : S[n]? = some (.lst xs)) (a : A xs) : match S[n]? with
    | some (.lst ys) => A ys
    | _ => False := by
  rw [h]
  exact a
theorem eqD_ii (i j : Int) : eqD (.int i) (.int j) = decide (i = j) := rfl
end DL
set_option linter.all false
set_option maxRecDepth 100000
/-! the parts of the defs of oddsweighed_k79_heaps_and_what_may_be_ta -/
namespace K79
open DL
/-! least_missing(numbers); slots: 0 numbers, 1 found -/
def w_least_missing  : WS :=
  (sSeq (sAsg (wC (.int 0)) (gN 1))
    (sSeq (sWhile (wtVal (wOp (rIn false) (wVar 1) (wVar 0))) (sAug 1 (wC (.int 1)) rIAdd))
    (sRet (wVar 1))))
/-! numbers_of(game); slots: 0 game, 1 found, 2 moves, 3 to -/
def w_numbers_of (sp_least_missing : Spc) : WS :=
  (sSeq (sAsg (wLst wNil) (gN 1))
    (sSeq (sFor (wIt (wVar 0)) (gN 2) (sDrop (wM rAppend (wVar 1) (wCons (wCall 1 sp_least_missing (wCons (wLc (wIt (wVar 2)) (gN 3) wtYes (wOp rIx (wVar 1) (wVar 3)) [3]) wNil)) wNil))))
    (sRet (wB rTuple (wCons (wVar 1) wNil)))))
/-! added_two(one, other); slots: 0 one, 1 other, 2 found, 3 digit -/
def w_added_two  : WS :=
  (sSeq (sAsg (wTup (wCons (wC (.int 0)) (wCons (wC (.int 1)) wNil))) (gT [2, 3]))
    (sSeq (sWhile (wtOr (wtVal (wOp rGt (wVar 0) (wC (.int 0)))) (wtVal (wOp rGt (wVar 1) (wC (.int 0))))) (sSeq (sIf (wtVal (wOp rNe (wOp rMod (wVar 0) (wC (.int 2))) (wOp rMod (wVar 1) (wC (.int 2))))) (sAug 2 (wVar 3) rIAdd) sNext)
    (sPar3 0 1 3 (wOp rDiv (wVar 0) (wC (.int 2))) (wOp rDiv (wVar 1) (wC (.int 2))) (wOp rMul (wC (.int 2)) (wVar 3)))))
    (sRet (wVar 2))))
/-! added(numbers); slots: 0 numbers, 1 found, 2 number -/
def w_added (sp_added_two : Spc) : WS :=
  (sSeq (sAsg (wC (.int 0)) (gN 1))
    (sSeq (sFor (wIt (wVar 0)) (gN 2) (sAsg (wCall 2 sp_added_two (wCons (wVar 1) (wCons (wVar 2) wNil))) (gN 1)))
    (sRet (wVar 1))))
/-! heaps_move(heaps); slots: 0 heaps, 1 whole, 2 heap, 3 left -/
def w_heaps_move (sp_added : Spc) (sp_added_two : Spc) : WS :=
  (sSeq (sAsg (wCall 1 sp_added (wCons (wVar 0) wNil)) (gN 1))
    (sSeq (sFor (wR1 (wB rLen (wCons (wVar 0) wNil))) (gN 2) (sSeq (sAsg (wCall 2 sp_added_two (wCons (wVar 1) (wCons (wOp rIx (wVar 0) (wVar 2)) wNil))) (gN 3))
    (sIf (wtVal (wOp rLt (wVar 3) (wOp rIx (wVar 0) (wVar 2)))) (sRet (wTup (wCons (wVar 2) (wCons (wVar 3) wNil)))) sNext)))
    (sRet (wC .non))))
/-! last_loses(heaps); slots: 0 heaps, 1 heap -/
def w_last_loses (sp_added : Spc) : WS :=
  (sSeq (sIf (wtVal (wB rAll (wCons (wLc (wIt (wVar 0)) (gN 1) wtYes (wOp rLe (wVar 1) (wC (.int 1))) [1]) wNil))) (sRet (wOp rEq (wOp rMod (wB rSum (wCons (wVar 0) wNil)) (wC (.int 2))) (wC (.int 0)))) sNext)
    (sRet (wOp rNe (wCall 1 sp_added (wCons (wVar 0) wNil)) (wC (.int 0)))))
/-! take_some(most, steps); slots: 0 most, 1 steps, 2 step, 3 stand -/
def w_take_some  : WS :=
  (sRet (wB rTuple (wCons (wLc (wR1 (wOp rAdd (wVar 0) (wC (.int 1)))) (gN 3) wtYes (wB rTuple (wCons (wB rSortedA (wCons (wLc (wIt (wVar 1)) (gN 2) (wtVal (wOp rLe (wVar 2) (wVar 3))) (wOp rSub (wVar 3) (wVar 2)) [2]) wNil)) wNil)) [3]) wNil)))
/-! repeats(numbers, start, length); slots: 0 numbers, 1 start, 2 length, 3 at -/
def w_repeats  : WS :=
  (sRet (wB rAll (wCons (wLc (wR2 (wVar 1) (wOp rSub (wB rLen (wCons (wVar 0) wNil)) (wVar 2))) (gN 3) wtYes (wOp rEq (wOp rIx (wVar 0) (wVar 3)) (wOp rIx (wVar 0) (wOp rAdd (wVar 3) (wVar 2)))) [3]) wNil)))
/-! comes_again(steps, most); slots: 0 steps, 1 most, 2 numbers, 3 start, 4 length -/
def w_comes_again (sp_take_some : Spc) (sp_numbers_of : Spc) (sp_repeats : Spc) : WS :=
  (sSeq (sAsg (wCall 1 sp_numbers_of (wCons (wCall 2 sp_take_some (wCons (wOp rMul (wC (.int 4)) (wVar 1)) (wCons (wVar 0) wNil))) wNil)) (gN 2))
    (sSeq (sFor (wR1 (wVar 1)) (gN 3) (sFor (wR2 (wC (.int 1)) (wOp rAdd (wOp rSub (wVar 1) (wVar 3)) (wC (.int 1)))) (gN 4) (sIf (wtVal (wCall 3 sp_repeats (wCons (wVar 2) (wCons (wVar 3) (wCons (wVar 4) wNil))))) (sRet (wTup (wCons (wVar 3) (wCons (wVar 4) wNil)))) sNext)))
    (sRet (wC .non))))
/-! _law_draws(script, many); slots: 0 script, 1 many, 2 cells, 3 cell, 4 rest, 5 draws, 6 k, 7 at, 8 mingled -/
def w_law_draws  : WS :=
  (sSeq (sAsg (wLc (wIt (wVar 0)) (gN 3) wtYes (wB rInt (wCons (wVar 3) wNil)) [3]) (gN 2))
    (sSeq (sIf (wtVal (wOp rEq (wB rLen (wCons (wVar 2) wNil)) (wC (.int 0)))) (sDrop (wM rAppend (wVar 2) (wCons (wC (.int 0)) wNil))) sNext)
    (sSeq (sAsg (wB rList (wCons (wVar 2) wNil)) (gN 4))
    (sSeq (sAsg (wLst wNil) (gN 5))
    (sSeq (sFor (wR1 (wVar 1)) (gN 6) (sSeq (sAsg (wOp rMod (wVar 6) (wB rLen (wCons (wVar 2) wNil))) (gN 7))
    (sIf (wtAnd (wtVal (wOp rGe (wOp rIx (wVar 2) (wVar 7)) (wOp rPow (wC (.int 10)) (wC (.int 18))))) (wtVal (wOp rGt (wOp rIx (wVar 4) (wVar 7)) (wC (.int 0))))) (sSeq (sDrop (wM rAppend (wVar 5) (wCons (wOp rMod (wB rInt (wCons (wOp rIx (wVar 4) (wVar 7)) wNil)) (wC (.int 1000))) wNil)))
    (sSub rPut (wOp rDiv (wOp rIx (wVar 4) (wVar 7)) (wC (.int 1000))) (wVar 4) (wVar 7))) (sSeq (sAsg (wOp rMod (wB rInt (wCons (wOp rAdd (wOp rAdd (wOp rMul (wOp rIx (wVar 2) (wVar 7)) (wC (.int 48271))) (wOp rMul (wVar 6) (wC (.int 69621)))) (wC (.int 11))) wNil)) (wC (.int 2147483647))) (gN 8))
    (sDrop (wM rAppend (wVar 5) (wCons (wOp rMod (wB rInt (wCons (wOp rAdd (wOp rAdd (wOp rMul (wVar 8) (wVar 8)) (wOp rMul (wC (.int 3)) (wVar 8))) (wVar 6)) wNil)) (wC (.int 1000003))) wNil)))))))
    (sSeq (sDrop (wM0 rReverse (wVar 5)))
    (sRet (wVar 5))))))))
/-! _law_take(draws, many); slots: 0 draws, 1 many -/
def w_law_take  : WS :=
  (sSeq (sIf (wtVal (wOp rEq (wB rLen (wCons (wVar 0) wNil)) (wC (.int 0)))) (sRet (wC (.int 0))) sNext)
    (sRet (wOp rMod (wB rInt (wCons (wM0 rPop (wVar 0)) wNil)) (wVar 1))))
/-! _law_cell(script, draws); slots: 0 script, 1 draws -/
def w_law_cell (sp_law_take : Spc) : WS :=
  (sSeq (sIf (wtVal (wOp rEq (wB rLen (wCons (wVar 0) wNil)) (wC (.int 0)))) (sRet (wC (.int 0))) sNext)
    (sRet (wB rInt (wCons (wOp rIx (wVar 0) (wCall 2 sp_law_take (wCons (wVar 1) (wCons (wB rLen (wCons (wVar 0) wNil)) wNil)))) wNil))))
/-! _law_same(actual, due); slots: 0 actual, 1 due, 2 k -/
def w_law_same (sp_law_same : Spc) : WS :=
  (sSeq (sIf (wtVal (wB rIsi (wCons (wVar 1) (wCons (wC (.ty "bool")) wNil)))) (sRet (wAnd (wB rIsi (wCons (wVar 0) (wCons (wC (.ty "bool")) wNil))) (wOp rEq (wVar 0) (wVar 1)))) sNext)
    (sSeq (sIf (wtVal (wB rIsi (wCons (wVar 1) (wCons (wC (.ty "int")) wNil)))) (sRet (wAnd (wB rIsi (wCons (wVar 0) (wCons (wC (.ty "int")) wNil))) (wAnd (wNot (wB rIsi (wCons (wVar 0) (wCons (wC (.ty "bool")) wNil)))) (wOp rEq (wVar 0) (wVar 1))))) sNext)
    (sSeq (sIf (wtVal (wB rIsi (wCons (wVar 1) (wCons (wC (.ty "str")) wNil)))) (sRet (wAnd (wB rIsi (wCons (wVar 0) (wCons (wC (.ty "str")) wNil))) (wOp rEq (wVar 0) (wVar 1)))) sNext)
    (sSeq (sIf (wtVal (wOp rIs (wVar 1) (wC .non))) (sRet (wOp rIs (wVar 0) (wC .non))) sNext)
    (sSeq (sIf (wtOr (wtNot (wtVal (wB rIsi (wCons (wVar 0) (wCons (wC (.ty "tuple")) wNil))))) (wtVal (wOp rNe (wB rLen (wCons (wVar 0) wNil)) (wB rLen (wCons (wVar 1) wNil))))) (sRet (wC (.bl false))) sNext)
    (sSeq (sFor (wR1 (wB rLen (wCons (wVar 1) wNil))) (gN 2) (sIf (wtNot (wtVal (wCall 2 sp_law_same (wCons (wOp rIx (wVar 0) (wVar 2)) (wCons (wOp rIx (wVar 1) (wVar 2)) wNil))))) (sRet (wC (.bl false))) sNext))
    (sRet (wC (.bl true)))))))))
/-! _law_binary(n); slots: 0 n, 1 found, 2 rest -/
def w_law_binary  : WS :=
  (sSeq (sAsg (wLst wNil) (gN 1))
    (sSeq (sAsg (wVar 0) (gN 2))
    (sSeq (sWhile (wtVal (wOp rGt (wVar 2) (wC (.int 0)))) (sSeq (sDrop (wM rAppend (wVar 1) (wCons (wOp rMod (wB rInt (wCons (wVar 2) wNil)) (wC (.int 2))) wNil)))
    (sAsg (wOp rDiv (wVar 2) (wC (.int 2))) (gN 2))))
    (sRet (wVar 1)))))
/-! _law_without_carrying(numbers); slots: 0 numbers, 1 rows, 2 number, 3 found, 4 power_now, 5 k, 6 line, 7 ones -/
def w_law_without_carrying (sp_law_binary : Spc) : WS :=
  (sSeq (sAsg (wLc (wIt (wVar 0)) (gN 2) wtYes (wCall 1 sp_law_binary (wCons (wVar 2) wNil)) [2]) (gN 1))
    (sSeq (sAsg (wC (.int 0)) (gN 3))
    (sSeq (sAsg (wC (.int 1)) (gN 4))
    (sSeq (sFor (wR1 (wB rMax (wCons (wOp rAdd (wLst (wCons (wC (.int 0)) wNil)) (wLc (wIt (wVar 1)) (gN 6) wtYes (wB rLen (wCons (wVar 6) wNil)) [6])) wNil))) (gN 5) (sSeq (sAsg (wB rLen (wCons (wLc (wIt (wVar 1)) (gN 6) (wtAnd (wtVal (wOp rLt (wVar 5) (wB rLen (wCons (wVar 6) wNil)))) (wtVal (wOp rEq (wOp rIx (wVar 6) (wVar 5)) (wC (.int 1))))) (wVar 6) [6]) wNil)) (gN 7))
    (sSeq (sAsg (wOp rAdd (wVar 3) (wOp rMul (wVar 4) (wB rInt (wCons (wOp rMod (wVar 7) (wC (.int 2))) wNil)))) (gN 3))
    (sAsg (wOp rMul (wC (.int 2)) (wVar 4)) (gN 4)))))
    (sRet (wVar 3))))))
/-! _law_won(heaps, known, last_wins); slots: 0 heaps, 1 known, 2 last_wins, 3 here, 4 mover_wins, 5 k, 6 left -/
def w_law_won (sp_law_won : Spc) : WS :=
  (sSeq (sAsg (wB rTuple (wCons (wB rSortedA (wCons (wVar 0) wNil)) wNil)) (gN 3))
    (sSeq (sIf (wtVal (wOp (rDIn true) (wVar 3) (wVar 1))) (sSeq (sAsg (wAnd (wOp rEq (wB rSum (wCons (wVar 3) wNil)) (wC (.int 0))) (wNot (wVar 2))) (gN 4))
    (sSeq (sFor (wR1 (wB rLen (wCons (wVar 3) wNil))) (gN 5) (sFor (wR1 (wOp rIx (wVar 3) (wVar 5))) (gN 6) (sIf (wtAnd (wtNot (wtVal (wVar 4))) (wtNot (wtVal (wCall 3 sp_law_won (wCons (wOp rAdd (wOp rAdd (wSl rSl (wVar 3) wPNo (wPAt (wVar 5))) (wTup (wCons (wVar 6) wNil))) (wSl rSl (wVar 3) (wPAt (wOp rAdd (wVar 5) (wC (.int 1)))) wPNo)) (wCons (wVar 1) (wCons (wVar 2) wNil))))))) (sAsg (wC (.bl true)) (gN 4)) sNext)))
    (sSub rDPut (wVar 4) (wVar 1) (wVar 3)))) sNext)
    (sRet (wOp rDIx (wVar 1) (wVar 3)))))
/-! _law_small(draws); slots: 0 draws, 1 heaps, 2 k, 3 known, 4 due, 5 left -/
def w_law_small (sp_law_take : Spc) (sp_law_won : Spc) (sp_heaps_move : Spc) (sp_law_same : Spc) (sp_last_loses : Spc) : WS :=
  (sSeq (sAsg (wB rTuple (wCons (wLc (wR1 (wCall 2 sp_law_take (wCons (wVar 0) (wCons (wC (.int 5)) wNil)))) (gN 2) wtYes (wCall 2 sp_law_take (wCons (wVar 0) (wCons (wOp rIx (wLst (wCons (wC (.int 7)) (wCons (wC (.int 4)) (wCons (wC (.int 2)) wNil)))) (wCall 2 sp_law_take (wCons (wVar 0) (wCons (wC (.int 3)) wNil)))) wNil))) [2]) wNil)) (gN 1))
    (sSeq (sAsg wDNewT (gN 3))
    (sSeq (sAsg (wC .non) (gN 4))
    (sSeq (sFor (wR1 (wB rLen (wCons (wVar 1) wNil))) (gN 2) (sFor (wR1 (wOp rIx (wVar 1) (wVar 2))) (gN 5) (sIf (wtAnd (wtVal (wOp rIs (wVar 4) (wC .non))) (wtNot (wtVal (wCall 3 sp_law_won (wCons (wOp rAdd (wOp rAdd (wSl rSl (wVar 1) wPNo (wPAt (wVar 2))) (wTup (wCons (wVar 5) wNil))) (wSl rSl (wVar 1) (wPAt (wOp rAdd (wVar 2) (wC (.int 1)))) wPNo)) (wCons (wVar 3) (wCons (wC (.bl true)) wNil))))))) (sAsg (wTup (wCons (wVar 2) (wCons (wVar 5) wNil))) (gN 4)) sNext)))
    (sSeq (sIf (wtOr (wtNot (wtVal (wCall 2 sp_law_same (wCons (wCall 1 sp_heaps_move (wCons (wVar 1) wNil)) (wCons (wVar 4) wNil))))) (wtVal (wOp rNe (wOp rIsNot (wVar 4) (wC .non)) (wCall 3 sp_law_won (wCons (wVar 1) (wCons (wVar 3) (wCons (wC (.bl true)) wNil))))))) (sRet (wC (.bl false))) sNext)
    (sRet (wOr (wOp rEq (wB rSum (wCons (wVar 1) wNil)) (wC (.int 0))) (wCall 2 sp_law_same (wCons (wCall 1 sp_last_loses (wCons (wVar 1) wNil)) (wCons (wCall 3 sp_law_won (wCons (wVar 1) (wCons wDNewT (wCons (wC (.bl false)) wNil)))) wNil))))))))))
/-! _law_great(draws, cell); slots: 0 draws, 1 cell, 2 heaps, 3 k, 4 altogether, 5 due, 6 left, 7 mover_wins -/
def w_law_great (sp_law_take : Spc) (sp_law_without_carrying : Spc) (sp_heaps_move : Spc) (sp_law_same : Spc) (sp_last_loses : Spc) : WS :=
  (sSeq (sAsg (wLst wNil) (gN 2))
    (sSeq (sFor (wR1 (wCall 2 sp_law_take (wCons (wVar 0) (wCons (wC (.int 7)) wNil)))) (gN 3) (sDrop (wM rAppend (wVar 2) (wCons (wOp rIx (wLst (wCons (wCall 2 sp_law_take (wCons (wVar 0) (wCons (wC (.int 3)) wNil))) (wCons (wCall 2 sp_law_take (wCons (wVar 0) (wCons (wC (.int 100)) wNil))) (wCons (wVar 1) (wCons (wOp rAdd (wOp rDiv (wVar 1) (wC (.int 7))) (wCall 2 sp_law_take (wCons (wVar 0) (wCons (wC (.int 50)) wNil)))) (wCons (wCall 2 sp_law_take (wCons (wVar 0) (wCons (wC (.int 2)) wNil))) wNil)))))) (wCall 2 sp_law_take (wCons (wVar 0) (wCons (wC (.int 5)) wNil)))) wNil))))
    (sSeq (sIf (wtVal (wOp rEq (wCall 2 sp_law_take (wCons (wVar 0) (wCons (wC (.int 2)) wNil))) (wC (.int 0)))) (sDrop (wM rAppend (wVar 2) (wCons (wCall 1 sp_law_without_carrying (wCons (wVar 2) wNil)) wNil))) sNext)
    (sSeq (sAsg (wCall 1 sp_law_without_carrying (wCons (wVar 2) wNil)) (gN 4))
    (sSeq (sAsg (wC .non) (gN 5))
    (sSeq (sFor (wR1 (wB rLen (wCons (wVar 2) wNil))) (gN 3) (sSeq (sAsg (wCall 1 sp_law_without_carrying (wCons (wLst (wCons (wVar 4) (wCons (wOp rIx (wVar 2) (wVar 3)) wNil))) wNil)) (gN 6))
    (sIf (wtAnd (wtVal (wOp rIs (wVar 5) (wC .non))) (wtVal (wOp rLt (wVar 6) (wOp rIx (wVar 2) (wVar 3))))) (sAsg (wTup (wCons (wVar 3) (wCons (wVar 6) wNil))) (gN 5)) sNext)))
    (sSeq (sAsg (wOp rNe (wVar 4) (wC (.int 0))) (gN 7))
    (sSeq (sIf (wtVal (wOp rLt (wB rMax (wCons (wOp rAdd (wLst (wCons (wC (.int 0)) wNil)) (wVar 2)) wNil)) (wC (.int 2)))) (sAsg (wOp rEq (wOp rMod (wB rSum (wCons (wVar 2) wNil)) (wC (.int 2))) (wC (.int 0))) (gN 7)) sNext)
    (sSeq (sIf (wtOr (wtNot (wtVal (wCall 2 sp_law_same (wCons (wCall 1 sp_heaps_move (wCons (wB rTuple (wCons (wVar 2) wNil)) wNil)) (wCons (wVar 5) wNil))))) (wtVal (wOp rNe (wOp rIsNot (wVar 5) (wC .non)) (wOp rNe (wVar 4) (wC (.int 0)))))) (sRet (wC (.bl false))) sNext)
    (sRet (wOr (wOp rEq (wB rSum (wCons (wVar 2) wNil)) (wC (.int 0))) (wCall 2 sp_law_same (wCons (wCall 1 sp_last_loses (wCons (wB rTuple (wCons (wVar 2) wNil)) wNil)) (wCons (wVar 7) wNil))))))))))))))
/-! _law_row(steps, many); slots: 0 steps, 1 many, 2 found, 3 heap, 4 there, 5 step, 6 k -/
def w_law_row  : WS :=
  (sSeq (sAsg (wLst wNil) (gN 2))
    (sSeq (sFor (wR1 (wVar 1)) (gN 3) (sSeq (sAsg (wLc (wIt (wVar 0)) (gN 5) (wtVal (wOp rLe (wVar 5) (wVar 3))) (wOp rIx (wVar 2) (wOp rSub (wVar 3) (wVar 5))) [5]) (gN 4))
    (sDrop (wM rAppend (wVar 2) (wCons (wOp rIx (wLc (wR1 (wOp rAdd (wB rLen (wCons (wVar 4) wNil)) (wC (.int 1)))) (gN 6) (wtVal (wOp (rIn true) (wVar 6) (wVar 4))) (wVar 6) [6]) (wC (.int 0))) wNil)))))
    (sRet (wVar 2))))
/-! _law_again(steps, most); slots: 0 steps, 1 most, 2 row, 3 begin, 4 length -/
def w_law_again (sp_law_row : Spc) : WS :=
  (sSeq (sAsg (wCall 2 sp_law_row (wCons (wVar 0) (wCons (wOp rAdd (wOp rMul (wC (.int 4)) (wVar 1)) (wC (.int 1))) wNil))) (gN 2))
    (sSeq (sFor (wR1 (wVar 1)) (gN 3) (sFor (wR2 (wC (.int 1)) (wOp rAdd (wOp rSub (wVar 1) (wVar 3)) (wC (.int 1)))) (gN 4) (sIf (wtVal (wOp rEqL (wSl rSl (wVar 2) (wPAt (wVar 3)) (wPAt (wOp rSub (wB rLen (wCons (wVar 2) wNil)) (wVar 4)))) (wSl rSl (wVar 2) (wPAt (wOp rAdd (wVar 3) (wVar 4))) wPNo))) (sRet (wTup (wCons (wVar 3) (wCons (wVar 4) wNil)))) sNext)))
    (sRet (wC .non))))
@[reducible] def w_law_t11 (sp_law_draws : Spc) (sp_law_cell : Spc) (sp_law_small : Spc) (sp_law_great : Spc) (sp_law_take : Spc) (sp_take_some : Spc) (sp_law_same : Spc) (sp_law_row : Spc) (sp_numbers_of : Spc) (sp_law_again : Spc) (sp_comes_again : Spc) (sp_heaps_move : Spc) (sp_last_loses : Spc) : WS :=
  (sRet (wAnd (wCall 2 sp_law_same (wCons (wCall 2 sp_take_some (wCons (wC (.int 2)) (wCons (wTup (wCons (wC (.int 2)) wNil)) wNil))) (wCons (wTup (wCons (wTup wNil) (wCons (wTup wNil) (wCons (wTup (wCons (wC (.int 0)) wNil)) wNil)))) wNil))) (wCall 2 sp_law_same (wCons (wCall 2 sp_comes_again (wCons (wTup (wCons (wC (.int 1)) wNil)) (wCons (wC (.int 2)) wNil))) (wCons (wTup (wCons (wC (.int 0)) (wCons (wC (.int 2)) wNil))) wNil)))))
@[reducible] def w_law_t10 (sp_law_draws : Spc) (sp_law_cell : Spc) (sp_law_small : Spc) (sp_law_great : Spc) (sp_law_take : Spc) (sp_take_some : Spc) (sp_law_same : Spc) (sp_law_row : Spc) (sp_numbers_of : Spc) (sp_law_again : Spc) (sp_comes_again : Spc) (sp_heaps_move : Spc) (sp_last_loses : Spc) : WS :=
  (sSeq (sIf (wtOr (wtNot (wtVal (wCall 2 sp_law_same (wCons (wCall 2 sp_comes_again (wCons (wTup (wCons (wC (.int 1)) (wCons (wC (.int 2)) wNil))) (wCons (wC (.int 3)) wNil))) (wCons (wTup (wCons (wC (.int 0)) (wCons (wC (.int 3)) wNil))) wNil))))) (wtOr (wtVal (wOp rIsNot (wCall 2 sp_comes_again (wCons (wTup (wCons (wC (.int 2)) (wCons (wC (.int 3)) wNil))) (wCons (wC (.int 4)) wNil))) (wC .non))) (wtNot (wtVal (wCall 2 sp_law_same (wCons (wCall 2 sp_comes_again (wCons (wTup (wCons (wC (.int 2)) (wCons (wC (.int 3)) wNil))) (wCons (wC (.int 5)) wNil))) (wCons (wTup (wCons (wC (.int 0)) (wCons (wC (.int 5)) wNil))) wNil))))))) (sRet (wC (.bl false))) sNext)
    (w_law_t11 sp_law_draws sp_law_cell sp_law_small sp_law_great sp_law_take sp_take_some sp_law_same sp_law_row sp_numbers_of sp_law_again sp_comes_again sp_heaps_move sp_last_loses))
@[reducible] def w_law_t9 (sp_law_draws : Spc) (sp_law_cell : Spc) (sp_law_small : Spc) (sp_law_great : Spc) (sp_law_take : Spc) (sp_take_some : Spc) (sp_law_same : Spc) (sp_law_row : Spc) (sp_numbers_of : Spc) (sp_law_again : Spc) (sp_comes_again : Spc) (sp_heaps_move : Spc) (sp_last_loses : Spc) : WS :=
  (sSeq (sIf (wtOr (wtNot (wtVal (wCall 2 sp_law_same (wCons (wCall 1 sp_last_loses (wCons (wTup (wCons (wC (.int 1)) (wCons (wC (.int 1)) wNil))) wNil)) (wCons (wC (.bl true)) wNil))))) (wtOr (wtNot (wtVal (wCall 2 sp_law_same (wCons (wCall 1 sp_last_loses (wCons (wTup (wCons (wC (.int 1)) (wCons (wC (.int 1)) (wCons (wC (.int 1)) wNil)))) wNil)) (wCons (wC (.bl false)) wNil))))) (wtNot (wtVal (wCall 2 sp_law_same (wCons (wCall 1 sp_last_loses (wCons (wTup (wCons (wC (.int 2)) (wCons (wC (.int 2)) wNil))) wNil)) (wCons (wC (.bl false)) wNil))))))) (sRet (wC (.bl false))) sNext)
    (w_law_t10 sp_law_draws sp_law_cell sp_law_small sp_law_great sp_law_take sp_take_some sp_law_same sp_law_row sp_numbers_of sp_law_again sp_comes_again sp_heaps_move sp_last_loses))
@[reducible] def w_law_t8 (sp_law_draws : Spc) (sp_law_cell : Spc) (sp_law_small : Spc) (sp_law_great : Spc) (sp_law_take : Spc) (sp_take_some : Spc) (sp_law_same : Spc) (sp_law_row : Spc) (sp_numbers_of : Spc) (sp_law_again : Spc) (sp_comes_again : Spc) (sp_heaps_move : Spc) (sp_last_loses : Spc) : WS :=
  (sSeq (sIf (wtOr (wtNot (wtVal (wCall 2 sp_law_same (wCons (wCall 1 sp_heaps_move (wCons (wTup (wCons (wC (.int 3)) (wCons (wC (.int 4)) (wCons (wC (.int 5)) wNil)))) wNil)) (wCons (wTup (wCons (wC (.int 0)) (wCons (wC (.int 1)) wNil))) wNil))))) (wtOr (wtVal (wOp rIsNot (wCall 1 sp_heaps_move (wCons (wTup (wCons (wC (.int 2)) (wCons (wC (.int 2)) wNil))) wNil)) (wC .non))) (wtVal (wOp rIsNot (wCall 1 sp_heaps_move (wCons (wTup wNil) wNil)) (wC .non))))) (sRet (wC (.bl false))) sNext)
    (w_law_t9 sp_law_draws sp_law_cell sp_law_small sp_law_great sp_law_take sp_take_some sp_law_same sp_law_row sp_numbers_of sp_law_again sp_comes_again sp_heaps_move sp_last_loses))
@[reducible] def w_law_t7 (sp_law_draws : Spc) (sp_law_cell : Spc) (sp_law_small : Spc) (sp_law_great : Spc) (sp_law_take : Spc) (sp_take_some : Spc) (sp_law_same : Spc) (sp_law_row : Spc) (sp_numbers_of : Spc) (sp_law_again : Spc) (sp_comes_again : Spc) (sp_heaps_move : Spc) (sp_last_loses : Spc) : WS :=
  (sSeq (sFor (wIt (wLst (wCons (wCall 2 sp_law_take (wCons (wVar 1) (wCons (wC (.int 25)) wNil))) (wCons (wOp rAdd (wB rSum (wCons (wOp rAdd (wSl rSl (wVar 3) wPNo (wPAt (wC (.int 1)))) (wSl rSl (wVar 3) (wPAt (wUn rNeg (wC (.int 1)))) wPNo)) wNil)) (wCall 2 sp_law_take (wCons (wVar 1) (wCons (wC (.int 3)) wNil)))) wNil)))) (gN 9) (sIf (wtNot (wtVal (wCall 2 sp_law_same (wCons (wCall 2 sp_comes_again (wCons (wVar 3) (wCons (wVar 9) wNil))) (wCons (wCall 2 sp_law_again (wCons (wVar 3) (wCons (wVar 9) wNil))) wNil))))) (sRet (wC (.bl false))) sNext))
    (w_law_t8 sp_law_draws sp_law_cell sp_law_small sp_law_great sp_law_take sp_take_some sp_law_same sp_law_row sp_numbers_of sp_law_again sp_comes_again sp_heaps_move sp_last_loses))
@[reducible] def w_law_t6 (sp_law_draws : Spc) (sp_law_cell : Spc) (sp_law_small : Spc) (sp_law_great : Spc) (sp_law_take : Spc) (sp_take_some : Spc) (sp_law_same : Spc) (sp_law_row : Spc) (sp_numbers_of : Spc) (sp_law_again : Spc) (sp_comes_again : Spc) (sp_heaps_move : Spc) (sp_last_loses : Spc) : WS :=
  (sSeq (sIf (wtOr (wtNot (wtVal (wCall 2 sp_law_same (wCons (wCall 2 sp_take_some (wCons (wVar 5) (wCons (wVar 3) wNil))) (wCons (wVar 6) wNil))))) (wtNot (wtVal (wCall 2 sp_law_same (wCons (wCall 1 sp_numbers_of (wCons (wVar 6) wNil)) (wCons (wB rTuple (wCons (wCall 2 sp_law_row (wCons (wVar 3) (wCons (wOp rAdd (wVar 5) (wC (.int 1))) wNil))) wNil)) wNil)))))) (sRet (wC (.bl false))) sNext)
    (w_law_t7 sp_law_draws sp_law_cell sp_law_small sp_law_great sp_law_take sp_take_some sp_law_same sp_law_row sp_numbers_of sp_law_again sp_comes_again sp_heaps_move sp_last_loses))
@[reducible] def w_law_t5 (sp_law_draws : Spc) (sp_law_cell : Spc) (sp_law_small : Spc) (sp_law_great : Spc) (sp_law_take : Spc) (sp_take_some : Spc) (sp_law_same : Spc) (sp_law_row : Spc) (sp_numbers_of : Spc) (sp_law_again : Spc) (sp_comes_again : Spc) (sp_heaps_move : Spc) (sp_last_loses : Spc) : WS :=
  (sSeq (sAsg (wB rTuple (wCons (wLc (wR1 (wOp rAdd (wVar 5) (wC (.int 1)))) (gN 8) wtYes (wB rTuple (wCons (wB rSortedA (wCons (wLc (wIt (wVar 3)) (gN 7) (wtVal (wOp rLe (wVar 7) (wVar 8))) (wOp rSub (wVar 8) (wVar 7)) [7]) wNil)) wNil)) [8]) wNil)) (gN 6))
    (w_law_t6 sp_law_draws sp_law_cell sp_law_small sp_law_great sp_law_take sp_take_some sp_law_same sp_law_row sp_numbers_of sp_law_again sp_comes_again sp_heaps_move sp_last_loses))
@[reducible] def w_law_t4 (sp_law_draws : Spc) (sp_law_cell : Spc) (sp_law_small : Spc) (sp_law_great : Spc) (sp_law_take : Spc) (sp_take_some : Spc) (sp_law_same : Spc) (sp_law_row : Spc) (sp_numbers_of : Spc) (sp_law_again : Spc) (sp_comes_again : Spc) (sp_heaps_move : Spc) (sp_last_loses : Spc) : WS :=
  (sSeq (sAsg (wCall 2 sp_law_take (wCons (wVar 1) (wCons (wC (.int 61)) wNil))) (gN 5))
    (w_law_t5 sp_law_draws sp_law_cell sp_law_small sp_law_great sp_law_take sp_take_some sp_law_same sp_law_row sp_numbers_of sp_law_again sp_comes_again sp_heaps_move sp_last_loses))
@[reducible] def w_law_t3 (sp_law_draws : Spc) (sp_law_cell : Spc) (sp_law_small : Spc) (sp_law_great : Spc) (sp_law_take : Spc) (sp_take_some : Spc) (sp_law_same : Spc) (sp_law_row : Spc) (sp_numbers_of : Spc) (sp_law_again : Spc) (sp_comes_again : Spc) (sp_heaps_move : Spc) (sp_last_loses : Spc) : WS :=
  (sSeq (sAsg (wB rTuple (wCons (wSortedSet (wLc (wR1 (wOp rAdd (wC (.int 1)) (wCall 2 sp_law_take (wCons (wVar 1) (wCons (wC (.int 4)) wNil))))) (gN 4) wtYes (wOp rAdd (wC (.int 1)) (wCall 2 sp_law_take (wCons (wVar 1) (wCons (wC (.int 9)) wNil)))) [4])) wNil)) (gN 3))
    (w_law_t4 sp_law_draws sp_law_cell sp_law_small sp_law_great sp_law_take sp_take_some sp_law_same sp_law_row sp_numbers_of sp_law_again sp_comes_again sp_heaps_move sp_last_loses))
@[reducible] def w_law_t2 (sp_law_draws : Spc) (sp_law_cell : Spc) (sp_law_small : Spc) (sp_law_great : Spc) (sp_law_take : Spc) (sp_take_some : Spc) (sp_law_same : Spc) (sp_law_row : Spc) (sp_numbers_of : Spc) (sp_law_again : Spc) (sp_comes_again : Spc) (sp_heaps_move : Spc) (sp_last_loses : Spc) : WS :=
  (sSeq (sIf (wtOr (wtNot (wtVal (wCall 1 sp_law_small (wCons (wVar 1) wNil)))) (wtOr (wtNot (wtVal (wCall 1 sp_law_small (wCons (wVar 1) wNil)))) (wtNot (wtVal (wCall 2 sp_law_great (wCons (wVar 1) (wCons (wVar 2) wNil))))))) (sRet (wC (.bl false))) sNext)
    (w_law_t3 sp_law_draws sp_law_cell sp_law_small sp_law_great sp_law_take sp_take_some sp_law_same sp_law_row sp_numbers_of sp_law_again sp_comes_again sp_heaps_move sp_last_loses))
@[reducible] def w_law_t1 (sp_law_draws : Spc) (sp_law_cell : Spc) (sp_law_small : Spc) (sp_law_great : Spc) (sp_law_take : Spc) (sp_take_some : Spc) (sp_law_same : Spc) (sp_law_row : Spc) (sp_numbers_of : Spc) (sp_law_again : Spc) (sp_comes_again : Spc) (sp_heaps_move : Spc) (sp_last_loses : Spc) : WS :=
  (sSeq (sAsg (wOp rMod (wB rAbs (wCons (wCall 2 sp_law_cell (wCons (wVar 0) (wCons (wVar 1) wNil))) wNil)) (wOp rPow (wC (.int 10)) (wC (.int 60)))) (gN 2))
    (w_law_t2 sp_law_draws sp_law_cell sp_law_small sp_law_great sp_law_take sp_take_some sp_law_same sp_law_row sp_numbers_of sp_law_again sp_comes_again sp_heaps_move sp_last_loses))
/-! law(script); slots: 0 script, 1 draws, 2 cell, 3 steps, 4 k, 5 most, 6 due, 7 step, 8 heap, 9 wide -/
def w_law (sp_law_draws : Spc) (sp_law_cell : Spc) (sp_law_small : Spc) (sp_law_great : Spc) (sp_law_take : Spc) (sp_take_some : Spc) (sp_law_same : Spc) (sp_law_row : Spc) (sp_numbers_of : Spc) (sp_law_again : Spc) (sp_comes_again : Spc) (sp_heaps_move : Spc) (sp_last_loses : Spc) : WS :=
  (sSeq (sAsg (wCall 2 sp_law_draws (wCons (wVar 0) (wCons (wC (.int 120)) wNil))) (gN 1))
    (w_law_t1 sp_law_draws sp_law_cell sp_law_small sp_law_great sp_law_take sp_take_some sp_law_same sp_law_row sp_numbers_of sp_law_again sp_comes_again sp_heaps_move sp_last_loses))
end K79
set_option Elab.async false
set_option linter.all false
set_option maxRecDepth 100000
set_option maxHeartbeats 8000000
/-! the defs of oddsweighed_k79_heaps_and_what_may_be_ta keep their parts -/
namespace K79
open PySem PySem.Spec DL
open L2 (V Hp HO St PE PT PW PA PS PSs PG PI PO Cx Inv RelV Vals)
def topS (i : Nat) : Stmt := PySem.Challenge.pw_oddsweighed_k79_heaps_and_what_may_be_ta.main.body.getD i (.Pass ⟨0, 0, 0, 0⟩)
section
variable {P : Program} {w : World} {K : PySem.W.Frag} {mg : Str → Option Value} {base : Heap}
abbrev s_least_missing : Stmt := topS 1
theorem sc_least_missing : L2.FnScope ["numbers", "found"] ["numbers"] (L2.defScope s_least_missing) := ⟨rfl, rfl, rfl, by decide +kernel, rfl, by decide +kernel, by decide +kernel⟩
theorem ok_least_missing {f : Addr} {fd : FuncData} {k : Nat} {sp : Spc} (F : L2.Fun K "least_missing" "least_missing" s_least_missing f fd) (hm : mg "least_missing" = some (.ref f)) (body : Body 2 1 (w_least_missing ) sp) : Callee P w K mg base "least_missing" (k + 1) 1 sp :=
  callee_of F hm (F.binds (ps := ["numbers"]) fun _ _ _ _ _ _ us hl => match us, hl with | [_], _ => rfl) sc_least_missing rfl rfl (fun cdv A outer s H E hr => by
    unfold w_least_missing
    exact (dss_cons (ds_set 1 sc_least_missing.nd d_int)
      (dss_cons (ds_while PassesOwn.never (dt_cmp (c_in hr) (d_var 1) (d_var 0)) (dss_one (ds_aug 1 sc_least_missing.nd i_add d_int)))
      (dss_one (ds_ret (d_var 1)))))) body
abbrev s_numbers_of : Stmt := topS 2
theorem sc_numbers_of : L2.FnScope ["game", "found", "moves", "to"] ["game"] (L2.defScope s_numbers_of) := ⟨rfl, rfl, rfl, by decide +kernel, rfl, by decide +kernel, by decide +kernel⟩
theorem ok_numbers_of {f : Addr} {fd : FuncData} {k : Nat} {sp : Spc} (F : L2.Fun K "numbers_of" "numbers_of" s_numbers_of f fd) (hm : mg "numbers_of" = some (.ref f)) (m_tuple : mg "tuple" = none) {sp_least_missing : Spc} {k_least_missing : Nat} (C_least_missing : Callee P w K mg base "least_missing" k_least_missing 1 sp_least_missing) (h_least_missing : k_least_missing ≤ k) (body : Body 4 1 (w_numbers_of sp_least_missing) sp) : Callee P w K mg base "numbers_of" (k + 1) 1 sp :=
  callee_of F hm (F.binds (ps := ["game"]) fun _ _ _ _ _ _ us hl => match us, hl with | [_], _ => rfl) sc_numbers_of rfl rfl (fun cdv A outer s H E hr => by
    unfold w_numbers_of
    exact (dss_cons (ds_set 1 sc_numbers_of.nd (d_lst da_nil))
      (dss_cons (ds_for rfl PassesOwn.never (di_it (d_var 0)) (dg_name 2 sc_numbers_of.nd) (dss_one (ds_expr (d_m PySem.F.slot_list_append PySem.F.type_list_append m_append (d_var 1) (da_cons (d_calle C_least_missing hr h_least_missing (by rfl) (da_cons (d_lc (own := [("to", 3)]) rfl sc_numbers_of.nd (di_it (d_var 2)) (L2.blkOk_by (by rfl)) (fun _ _ _ _ _ => (dg_name 3 sc_numbers_of.nd)) (fun _ _ _ _ _ => dts_nil) (fun _ _ _ _ _ => (d_ix i_ix (d_var 1) (d_var 3)))) da_nil)) da_nil)))))
      (dss_one (ds_ret (d_callT b_tuple (by rfl) m_tuple (by decide +kernel) (da_cons (d_var 1) da_nil))))))) body
abbrev s_added_two : Stmt := topS 3
theorem sc_added_two : L2.FnScope ["one", "other", "found", "digit"] ["one", "other"] (L2.defScope s_added_two) := ⟨rfl, rfl, rfl, by decide +kernel, rfl, by decide +kernel, by decide +kernel⟩
theorem ok_added_two {f : Addr} {fd : FuncData} {k : Nat} {sp : Spc} (F : L2.Fun K "added_two" "added_two" s_added_two f fd) (hm : mg "added_two" = some (.ref f)) (body : Body 4 2 (w_added_two ) sp) : Callee P w K mg base "added_two" (k + 1) 2 sp :=
  callee_of F hm (F.binds (ps := ["one", "other"]) fun _ _ _ _ _ _ us hl => match us, hl with | [_, _], _ => rfl) sc_added_two rfl rfl (fun cdv A outer s H E hr => by
    unfold w_added_two
    exact (dss_cons (ds_asg (d_tup (da_cons d_int (da_cons d_int da_nil))) (dg_tup rfl (dgs_one 2 sc_added_two.nd (dgs_one 3 sc_added_two.nd .nil))))
      (dss_cons (ds_while PassesOwn.never (PW.pt (dw_or (dt_cmp c_gt (d_var 0) d_int) (dw_or1 (dt_cmp c_gt (d_var 1) d_int)))) (dss_cons (ds_if (dt_cmp (c_ne hr) (d_op o_mod (d_var 0) d_int) (d_op o_mod (d_var 1) d_int)) (dss_one (ds_aug 2 sc_added_two.nd i_add (d_var 3))) dss_nil)
      (dss_one (ds_par3 0 1 3 rfl sc_added_two.nd (d_op o_div (d_var 0) d_int) (d_op o_div (d_var 1) d_int) (d_op o_mul d_int (d_var 3))))))
      (dss_one (ds_ret (d_var 2)))))) body
abbrev s_added : Stmt := topS 4
theorem sc_added : L2.FnScope ["numbers", "found", "number"] ["numbers"] (L2.defScope s_added) := ⟨rfl, rfl, rfl, by decide +kernel, rfl, by decide +kernel, by decide +kernel⟩
theorem ok_added {f : Addr} {fd : FuncData} {k : Nat} {sp : Spc} (F : L2.Fun K "added" "added" s_added f fd) (hm : mg "added" = some (.ref f)) {sp_added_two : Spc} {k_added_two : Nat} (C_added_two : Callee P w K mg base "added_two" k_added_two 2 sp_added_two) (h_added_two : k_added_two ≤ k) (body : Body 3 1 (w_added sp_added_two) sp) : Callee P w K mg base "added" (k + 1) 1 sp :=
  callee_of F hm (F.binds (ps := ["numbers"]) fun _ _ _ _ _ _ us hl => match us, hl with | [_], _ => rfl) sc_added rfl rfl (fun cdv A outer s H E hr => by
    unfold w_added
    exact (dss_cons (ds_set 1 sc_added.nd d_int)
      (dss_cons (ds_for rfl PassesOwn.never (di_it (d_var 0)) (dg_name 2 sc_added.nd) (dss_one (ds_set 1 sc_added.nd (d_calle C_added_two hr h_added_two (by rfl) (da_cons (d_var 1) (da_cons (d_var 2) da_nil))))))
      (dss_one (ds_ret (d_var 1)))))) body
abbrev s_heaps_move : Stmt := topS 5
theorem sc_heaps_move : L2.FnScope ["heaps", "whole", "heap", "left"] ["heaps"] (L2.defScope s_heaps_move) := ⟨rfl, rfl, rfl, by decide +kernel, rfl, by decide +kernel, by decide +kernel⟩
theorem ok_heaps_move {f : Addr} {fd : FuncData} {k : Nat} {sp : Spc} (F : L2.Fun K "heaps_move" "heaps_move" s_heaps_move f fd) (hm : mg "heaps_move" = some (.ref f)) (m_len : mg "len" = none) (m_range : mg "range" = none) {sp_added : Spc} {k_added : Nat} (C_added : Callee P w K mg base "added" k_added 1 sp_added) (h_added : k_added ≤ k) {sp_added_two : Spc} {k_added_two : Nat} (C_added_two : Callee P w K mg base "added_two" k_added_two 2 sp_added_two) (h_added_two : k_added_two ≤ k) (body : Body 4 1 (w_heaps_move sp_added sp_added_two) sp) : Callee P w K mg base "heaps_move" (k + 1) 1 sp :=
  callee_of F hm (F.binds (ps := ["heaps"]) fun _ _ _ _ _ _ us hl => match us, hl with | [_], _ => rfl) sc_heaps_move rfl rfl (fun cdv A outer s H E hr => by
    unfold w_heaps_move
    exact (dss_cons (ds_set 1 sc_heaps_move.nd (d_calle C_added hr h_added (by rfl) (da_cons (d_var 0) da_nil)))
      (dss_cons (ds_for rfl PassesOwn.never (di_r1 (by rfl) m_range (d_callB b_len (by rfl) m_len (by decide +kernel) (da_cons (d_var 0) da_nil))) (dg_name 2 sc_heaps_move.nd) (dss_cons (ds_set 3 sc_heaps_move.nd (d_calle C_added_two hr h_added_two (by rfl) (da_cons (d_var 1) (da_cons (d_ix i_ix (d_var 0) (d_var 2)) da_nil))))
      (dss_one (ds_if (dt_cmp c_lt (d_var 3) (d_ix i_ix (d_var 0) (d_var 2))) (dss_one (ds_ret (d_tup (da_cons (d_var 2) (da_cons (d_var 3) da_nil))))) dss_nil))))
      (dss_one (ds_ret d_non))))) body
abbrev s_last_loses : Stmt := topS 6
theorem sc_last_loses : L2.FnScope ["heaps", "heap"] ["heaps"] (L2.defScope s_last_loses) := ⟨rfl, rfl, rfl, by decide +kernel, rfl, by decide +kernel, by decide +kernel⟩
theorem ok_last_loses {f : Addr} {fd : FuncData} {k : Nat} {sp : Spc} (F : L2.Fun K "last_loses" "last_loses" s_last_loses f fd) (hm : mg "last_loses" = some (.ref f)) (m_all : mg "all" = none) (m_sum : mg "sum" = none) {sp_added : Spc} {k_added : Nat} (C_added : Callee P w K mg base "added" k_added 1 sp_added) (h_added : k_added ≤ k) (body : Body 2 1 (w_last_loses sp_added) sp) : Callee P w K mg base "last_loses" (k + 1) 1 sp :=
  callee_of F hm (F.binds (ps := ["heaps"]) fun _ _ _ _ _ _ us hl => match us, hl with | [_], _ => rfl) sc_last_loses rfl rfl (fun cdv A outer s H E hr => by
    unfold w_last_loses
    exact (dss_cons (ds_if (dt_val (d_callB (b_all rfl) (by rfl) m_all (by decide +kernel) (da_cons (d_lc (own := [("heap", 1)]) rfl sc_last_loses.nd (di_it (d_var 0)) (L2.blkOk_by (by rfl)) (fun _ _ _ _ _ => (dg_name 1 sc_last_loses.nd)) (fun _ _ _ _ _ => dts_nil) (fun _ _ _ _ _ => (d_cmp c_le (d_var 1) d_int))) da_nil))) (dss_one (ds_ret (d_cmp (c_eq hr) (d_op o_mod (d_callB (b_sum rfl) (by rfl) m_sum (by decide +kernel) (da_cons (d_var 0) da_nil)) d_int) d_int))) dss_nil)
      (dss_one (ds_ret (d_cmp (c_ne hr) (d_calle C_added hr h_added (by rfl) (da_cons (d_var 0) da_nil)) d_int))))) body
abbrev s_take_some : Stmt := topS 7
theorem sc_take_some : L2.FnScope ["most", "steps", "step", "stand"] ["most", "steps"] (L2.defScope s_take_some) := ⟨rfl, rfl, rfl, by decide +kernel, rfl, by decide +kernel, by decide +kernel⟩
theorem ok_take_some {f : Addr} {fd : FuncData} {k : Nat} {sp : Spc} (F : L2.Fun K "take_some" "take_some" s_take_some f fd) (hm : mg "take_some" = some (.ref f)) (m_range : mg "range" = none) (m_sorted : mg "sorted" = none) (m_tuple : mg "tuple" = none) (body : Body 4 2 (w_take_some ) sp) : Callee P w K mg base "take_some" (k + 1) 2 sp :=
  callee_of F hm (F.binds (ps := ["most", "steps"]) fun _ _ _ _ _ _ us hl => match us, hl with | [_, _], _ => rfl) sc_take_some rfl rfl (fun cdv A outer s H E hr => by
    unfold w_take_some
    exact (dss_one (ds_ret (d_callT b_tuple (by rfl) m_tuple (by decide +kernel) (da_cons (d_lc (own := [("stand", 3)]) rfl sc_take_some.nd (di_r1 (by rfl) m_range (d_op o_add (d_var 0) d_int)) (L2.blkOk_by (by rfl)) (fun _ _ _ _ _ => (dg_name 3 sc_take_some.nd)) (fun _ _ _ _ _ => dts_nil) (fun _ _ _ _ _ => (d_callT b_tuple (by rfl) m_tuple (by decide +kernel) (da_cons (d_callB (b_sortedA hr) (by rfl) m_sorted (by decide +kernel) (da_cons (d_lc (own := [("step", 2)]) rfl sc_take_some.nd (di_it (d_var 1)) (L2.blkOk_by (by rfl)) (fun _ _ _ _ _ => (dg_name 2 sc_take_some.nd)) (fun _ _ _ _ _ => (dts_one (dt_cmp c_le (d_var 2) (d_var 3)))) (fun _ _ _ _ _ => (d_op o_sub (d_var 3) (d_var 2)))) da_nil)) da_nil)))) da_nil))))) body
abbrev s_repeats : Stmt := topS 8
theorem sc_repeats : L2.FnScope ["numbers", "start", "length", "at"] ["numbers", "start", "length"] (L2.defScope s_repeats) := ⟨rfl, rfl, rfl, by decide +kernel, rfl, by decide +kernel, by decide +kernel⟩
theorem ok_repeats {f : Addr} {fd : FuncData} {k : Nat} {sp : Spc} (F : L2.Fun K "repeats" "repeats" s_repeats f fd) (hm : mg "repeats" = some (.ref f)) (m_len : mg "len" = none) (m_range : mg "range" = none) (m_all : mg "all" = none) (body : Body 4 3 (w_repeats ) sp) : Callee P w K mg base "repeats" (k + 1) 3 sp :=
  callee_of F hm (F.binds (ps := ["numbers", "start", "length"]) fun _ _ _ _ _ _ us hl => match us, hl with | [_, _, _], _ => rfl) sc_repeats rfl rfl (fun cdv A outer s H E hr => by
    unfold w_repeats
    exact (dss_one (ds_ret (d_callB (b_all rfl) (by rfl) m_all (by decide +kernel) (da_cons (d_lc (own := [("at", 3)]) rfl sc_repeats.nd (di_r2 (by rfl) m_range (d_var 1) (d_op o_sub (d_callB b_len (by rfl) m_len (by decide +kernel) (da_cons (d_var 0) da_nil)) (d_var 2))) (L2.blkOk_by (by rfl)) (fun _ _ _ _ _ => (dg_name 3 sc_repeats.nd)) (fun _ _ _ _ _ => dts_nil) (fun _ _ _ _ _ => (d_cmp (c_eq hr) (d_ix i_ix (d_var 0) (d_var 3)) (d_ix i_ix (d_var 0) (d_op o_add (d_var 3) (d_var 2)))))) da_nil))))) body
abbrev s_comes_again : Stmt := topS 9
theorem sc_comes_again : L2.FnScope ["steps", "most", "numbers", "start", "length"] ["steps", "most"] (L2.defScope s_comes_again) := ⟨rfl, rfl, rfl, by decide +kernel, rfl, by decide +kernel, by decide +kernel⟩
theorem ok_comes_again {f : Addr} {fd : FuncData} {k : Nat} {sp : Spc} (F : L2.Fun K "comes_again" "comes_again" s_comes_again f fd) (hm : mg "comes_again" = some (.ref f)) (m_range : mg "range" = none) {sp_take_some : Spc} {k_take_some : Nat} (C_take_some : Callee P w K mg base "take_some" k_take_some 2 sp_take_some) (h_take_some : k_take_some ≤ k) {sp_numbers_of : Spc} {k_numbers_of : Nat} (C_numbers_of : Callee P w K mg base "numbers_of" k_numbers_of 1 sp_numbers_of) (h_numbers_of : k_numbers_of ≤ k) {sp_repeats : Spc} {k_repeats : Nat} (C_repeats : Callee P w K mg base "repeats" k_repeats 3 sp_repeats) (h_repeats : k_repeats ≤ k) (body : Body 5 2 (w_comes_again sp_take_some sp_numbers_of sp_repeats) sp) : Callee P w K mg base "comes_again" (k + 1) 2 sp :=
  callee_of F hm (F.binds (ps := ["steps", "most"]) fun _ _ _ _ _ _ us hl => match us, hl with | [_, _], _ => rfl) sc_comes_again rfl rfl (fun cdv A outer s H E hr => by
    unfold w_comes_again
    exact (dss_cons (ds_set 2 sc_comes_again.nd (d_calle C_numbers_of hr h_numbers_of (by rfl) (da_cons (d_calle C_take_some hr h_take_some (by rfl) (da_cons (d_op o_mul d_int (d_var 1)) (da_cons (d_var 0) da_nil))) da_nil)))
      (dss_cons (ds_for rfl PassesOwn.never (di_r1 (by rfl) m_range (d_var 1)) (dg_name 3 sc_comes_again.nd) (dss_one (ds_for rfl PassesOwn.never (di_r2 (by rfl) m_range d_int (d_op o_add (d_op o_sub (d_var 1) (d_var 3)) d_int)) (dg_name 4 sc_comes_again.nd) (dss_one (ds_if (dt_val (d_calle C_repeats hr h_repeats (by rfl) (da_cons (d_var 2) (da_cons (d_var 3) (da_cons (d_var 4) da_nil))))) (dss_one (ds_ret (d_tup (da_cons (d_var 3) (da_cons (d_var 4) da_nil))))) dss_nil)))))
      (dss_one (ds_ret d_non))))) body
abbrev s_law_draws : Stmt := topS 11
theorem sc_law_draws : L2.FnScope ["script", "many", "cells", "cell", "rest", "draws", "k", "at", "mingled"] ["script", "many"] (L2.defScope s_law_draws) := ⟨rfl, rfl, rfl, by decide +kernel, rfl, by decide +kernel, by decide +kernel⟩
theorem ok_law_draws {f : Addr} {fd : FuncData} {k : Nat} {sp : Spc} (F : L2.Fun K "_law_draws" "_law_draws" s_law_draws f fd) (hm : mg "_law_draws" = some (.ref f)) (m_int : mg "int" = none) (m_len : mg "len" = none) (m_list : mg "list" = none) (m_range : mg "range" = none) (body : Body 9 2 (w_law_draws ) sp) : Callee P w K mg base "_law_draws" (k + 1) 2 sp :=
  callee_of F hm (F.binds (ps := ["script", "many"]) fun _ _ _ _ _ _ us hl => match us, hl with | [_, _], _ => rfl) sc_law_draws rfl rfl (fun cdv A outer s H E hr => by
    unfold w_law_draws
    exact (dss_cons (by first | exact (ds_set 2 sc_law_draws.nd (d_lc (own := [("cell", 3)]) rfl sc_law_draws.nd (di_it (d_var 0)) (L2.blkOk_by (by rfl)) (fun _ _ _ _ _ => (dg_name 3 sc_law_draws.nd)) (fun _ _ _ _ _ => dts_nil) (fun _ _ _ _ _ => (d_callT b_int (by rfl) m_int (by decide +kernel) (da_cons (d_var 3) da_nil))))) | exact (ds_setLc 2 (own := [("cell", 3)]) rfl sc_law_draws.nd (di_it (d_var 0)) (L2.blkOk_by (by rfl)) (fun _ _ _ _ _ => (dg_name 3 sc_law_draws.nd)) (fun _ _ _ _ _ => dts_nil) (fun _ _ _ _ _ => (d_callT b_int (by rfl) m_int (by decide +kernel) (da_cons (d_var 3) da_nil))) (L2.sw_true rfl rfl rfl (by decide +kernel))))
      (dss_cons (ds_if (dt_cmp (c_eq hr) (d_callB b_len (by rfl) m_len (by decide +kernel) (da_cons (d_var 2) da_nil)) d_int) (dss_one (ds_expr (d_m PySem.F.slot_list_append PySem.F.type_list_append m_append (d_var 2) (da_cons d_int da_nil)))) dss_nil)
      (dss_cons (ds_set 4 sc_law_draws.nd (d_callT b_list (by rfl) m_list (by decide +kernel) (da_cons (d_var 2) da_nil)))
      (dss_cons (ds_set 5 sc_law_draws.nd (d_lst da_nil))
      (dss_cons (ds_for rfl PassesOwn.never (di_r1 (by rfl) m_range (d_var 1)) (dg_name 6 sc_law_draws.nd) (dss_cons (ds_set 7 sc_law_draws.nd (d_op o_mod (d_var 6) (d_callB b_len (by rfl) m_len (by decide +kernel) (da_cons (d_var 2) da_nil))))
      (dss_one (ds_if (PW.pt (dw_and (dt_cmp c_ge (d_ix i_ix (d_var 2) (d_var 7)) (d_op o_pow d_int d_int)) (dw_and1 (dt_cmp c_gt (d_ix i_ix (d_var 4) (d_var 7)) d_int)))) (dss_cons (ds_expr (d_m PySem.F.slot_list_append PySem.F.type_list_append m_append (d_var 5) (da_cons (d_op o_mod (d_callT b_int (by rfl) m_int (by decide +kernel) (da_cons (d_ix i_ix (d_var 4) (d_var 7)) da_nil)) d_int) da_nil)))
      (dss_one (ds_sub p_put (d_op o_div (d_ix i_ix (d_var 4) (d_var 7)) d_int) (d_var 4) (d_var 7)))) (dss_cons (ds_set 8 sc_law_draws.nd (d_op o_mod (d_callT b_int (by rfl) m_int (by decide +kernel) (da_cons (d_op o_add (d_op o_add (d_op o_mul (d_ix i_ix (d_var 2) (d_var 7)) d_int) (d_op o_mul (d_var 6) d_int)) d_int) da_nil)) d_int))
      (dss_one (ds_expr (d_m PySem.F.slot_list_append PySem.F.type_list_append m_append (d_var 5) (da_cons (d_op o_mod (d_callT b_int (by rfl) m_int (by decide +kernel) (da_cons (d_op o_add (d_op o_add (d_op o_mul (d_var 8) (d_var 8)) (d_op o_mul d_int (d_var 8))) (d_var 6)) da_nil)) d_int) da_nil)))))))))
      (dss_cons (ds_expr (d_m0 PySem.F.slot_list_reverse PySem.F.type_list_reverse m_reverse (d_var 5)))
      (dss_one (ds_ret (d_var 5)))))))))) body
abbrev s_law_take : Stmt := topS 12
theorem sc_law_take : L2.FnScope ["draws", "many"] ["draws", "many"] (L2.defScope s_law_take) := ⟨rfl, rfl, rfl, by decide +kernel, rfl, by decide +kernel, by decide +kernel⟩
theorem ok_law_take {f : Addr} {fd : FuncData} {k : Nat} {sp : Spc} (F : L2.Fun K "_law_take" "_law_take" s_law_take f fd) (hm : mg "_law_take" = some (.ref f)) (m_len : mg "len" = none) (m_int : mg "int" = none) (body : Body 2 2 (w_law_take ) sp) : Callee P w K mg base "_law_take" (k + 1) 2 sp :=
  callee_of F hm (F.binds (ps := ["draws", "many"]) fun _ _ _ _ _ _ us hl => match us, hl with | [_, _], _ => rfl) sc_law_take rfl rfl (fun cdv A outer s H E hr => by
    unfold w_law_take
    exact (dss_cons (ds_if (dt_cmp (c_eq hr) (d_callB b_len (by rfl) m_len (by decide +kernel) (da_cons (d_var 0) da_nil)) d_int) (dss_one (ds_ret d_int)) dss_nil)
      (dss_one (ds_ret (d_op o_mod (d_callT b_int (by rfl) m_int (by decide +kernel) (da_cons (d_m0 PySem.F.slot_list_pop PySem.F.type_list_pop m_pop (d_var 0)) da_nil)) (d_var 1)))))) body
abbrev s_law_cell : Stmt := topS 13
theorem sc_law_cell : L2.FnScope ["script", "draws"] ["script", "draws"] (L2.defScope s_law_cell) := ⟨rfl, rfl, rfl, by decide +kernel, rfl, by decide +kernel, by decide +kernel⟩
theorem ok_law_cell {f : Addr} {fd : FuncData} {k : Nat} {sp : Spc} (F : L2.Fun K "_law_cell" "_law_cell" s_law_cell f fd) (hm : mg "_law_cell" = some (.ref f)) (m_len : mg "len" = none) (m_int : mg "int" = none) {sp_law_take : Spc} {k_law_take : Nat} (C_law_take : Callee P w K mg base "_law_take" k_law_take 2 sp_law_take) (h_law_take : k_law_take ≤ k) (body : Body 2 2 (w_law_cell sp_law_take) sp) : Callee P w K mg base "_law_cell" (k + 1) 2 sp :=
  callee_of F hm (F.binds (ps := ["script", "draws"]) fun _ _ _ _ _ _ us hl => match us, hl with | [_, _], _ => rfl) sc_law_cell rfl rfl (fun cdv A outer s H E hr => by
    unfold w_law_cell
    exact (dss_cons (ds_if (dt_cmp (c_eq hr) (d_callB b_len (by rfl) m_len (by decide +kernel) (da_cons (d_var 0) da_nil)) d_int) (dss_one (ds_ret d_int)) dss_nil)
      (dss_one (ds_ret (d_callT b_int (by rfl) m_int (by decide +kernel) (da_cons (d_ix i_ix (d_var 0) (d_calle C_law_take hr h_law_take (by rfl) (da_cons (d_var 1) (da_cons (d_callB b_len (by rfl) m_len (by decide +kernel) (da_cons (d_var 0) da_nil)) da_nil)))) da_nil)))))) body
abbrev s_law_same : Stmt := topS 14
theorem sc_law_same : L2.FnScope ["actual", "due", "k"] ["actual", "due"] (L2.defScope s_law_same) := ⟨rfl, rfl, rfl, by decide +kernel, rfl, by decide +kernel, by decide +kernel⟩
theorem ok_law_same {f : Addr} {fd : FuncData} {k : Nat} {sp : Spc} (F : L2.Fun K "_law_same" "_law_same" s_law_same f fd) (hm : mg "_law_same" = some (.ref f)) (m_bool : mg "bool" = none) (m_isinstance : mg "isinstance" = none) (m_int : mg "int" = none) (m_str : mg "str" = none) (m_tuple : mg "tuple" = none) (m_len : mg "len" = none) (m_range : mg "range" = none) {sp_law_same : Spc} {k_law_same : Nat} (C_law_same : Callee P w K mg base "_law_same" k_law_same 2 sp_law_same) (h_law_same : k_law_same ≤ k) (body : Body 3 2 (w_law_same sp_law_same) sp) : Callee P w K mg base "_law_same" (k + 1) 2 sp :=
  callee_of F hm (F.binds (ps := ["actual", "due"]) fun _ _ _ _ _ _ us hl => match us, hl with | [_, _], _ => rfl) sc_law_same rfl rfl (fun cdv A outer s H E hr => by
    unfold w_law_same
    exact (dss_cons (ds_if (dt_val (d_callB b_isi (by rfl) m_isinstance (by decide +kernel) (da_cons (d_var 1) (da_cons (d_ty (by rfl) m_bool (by decide +kernel)) da_nil)))) (dss_one (ds_ret (d_and (d_callB b_isi (by rfl) m_isinstance (by decide +kernel) (da_cons (d_var 0) (da_cons (d_ty (by rfl) m_bool (by decide +kernel)) da_nil))) (d_one (d_cmp (c_eq hr) (d_var 0) (d_var 1)))))) dss_nil)
      (dss_cons (ds_if (dt_val (d_callB b_isi (by rfl) m_isinstance (by decide +kernel) (da_cons (d_var 1) (da_cons (d_ty (by rfl) m_int (by decide +kernel)) da_nil)))) (dss_one (ds_ret (d_and (d_callB b_isi (by rfl) m_isinstance (by decide +kernel) (da_cons (d_var 0) (da_cons (d_ty (by rfl) m_int (by decide +kernel)) da_nil))) (d_and (d_not (d_callB b_isi (by rfl) m_isinstance (by decide +kernel) (da_cons (d_var 0) (da_cons (d_ty (by rfl) m_bool (by decide +kernel)) da_nil)))) (d_one (d_cmp (c_eq hr) (d_var 0) (d_var 1))))))) dss_nil)
      (dss_cons (ds_if (dt_val (d_callB b_isi (by rfl) m_isinstance (by decide +kernel) (da_cons (d_var 1) (da_cons (d_ty (by rfl) m_str (by decide +kernel)) da_nil)))) (dss_one (ds_ret (d_and (d_callB b_isi (by rfl) m_isinstance (by decide +kernel) (da_cons (d_var 0) (da_cons (d_ty (by rfl) m_str (by decide +kernel)) da_nil))) (d_one (d_cmp (c_eq hr) (d_var 0) (d_var 1)))))) dss_nil)
      (dss_cons (ds_if (dt_cmp c_is (d_var 1) d_non) (dss_one (ds_ret (d_cmp c_is (d_var 0) d_non))) dss_nil)
      (dss_cons (ds_if (PW.pt (dw_or (dt_not (dt_val (d_callB b_isi (by rfl) m_isinstance (by decide +kernel) (da_cons (d_var 0) (da_cons (d_ty (by rfl) m_tuple (by decide +kernel)) da_nil))))) (dw_or1 (dt_cmp (c_ne hr) (d_callB b_len (by rfl) m_len (by decide +kernel) (da_cons (d_var 0) da_nil)) (d_callB b_len (by rfl) m_len (by decide +kernel) (da_cons (d_var 1) da_nil)))))) (dss_one (ds_ret d_bl)) dss_nil)
      (dss_cons (ds_for rfl PassesOwn.never (di_r1 (by rfl) m_range (d_callB b_len (by rfl) m_len (by decide +kernel) (da_cons (d_var 1) da_nil))) (dg_name 2 sc_law_same.nd) (dss_one (ds_if (dt_not (dt_val (d_calle C_law_same hr h_law_same (by rfl) (da_cons (d_ix i_ix (d_var 0) (d_var 2)) (da_cons (d_ix i_ix (d_var 1) (d_var 2)) da_nil))))) (dss_one (ds_ret d_bl)) dss_nil)))
      (dss_one (ds_ret d_bl))))))))) body
abbrev s_law_binary : Stmt := topS 15
theorem sc_law_binary : L2.FnScope ["n", "found", "rest"] ["n"] (L2.defScope s_law_binary) := ⟨rfl, rfl, rfl, by decide +kernel, rfl, by decide +kernel, by decide +kernel⟩
theorem ok_law_binary {f : Addr} {fd : FuncData} {k : Nat} {sp : Spc} (F : L2.Fun K "_law_binary" "_law_binary" s_law_binary f fd) (hm : mg "_law_binary" = some (.ref f)) (m_int : mg "int" = none) (body : Body 3 1 (w_law_binary ) sp) : Callee P w K mg base "_law_binary" (k + 1) 1 sp :=
  callee_of F hm (F.binds (ps := ["n"]) fun _ _ _ _ _ _ us hl => match us, hl with | [_], _ => rfl) sc_law_binary rfl rfl (fun cdv A outer s H E hr => by
    unfold w_law_binary
    exact (dss_cons (ds_set 1 sc_law_binary.nd (d_lst da_nil))
      (dss_cons (ds_set 2 sc_law_binary.nd (d_var 0))
      (dss_cons (ds_while PassesOwn.never (dt_cmp c_gt (d_var 2) d_int) (dss_cons (ds_expr (d_m PySem.F.slot_list_append PySem.F.type_list_append m_append (d_var 1) (da_cons (d_op o_mod (d_callT b_int (by rfl) m_int (by decide +kernel) (da_cons (d_var 2) da_nil)) d_int) da_nil)))
      (dss_one (ds_set 2 sc_law_binary.nd (d_op o_div (d_var 2) d_int)))))
      (dss_one (ds_ret (d_var 1))))))) body
abbrev s_law_without_carrying : Stmt := topS 16
theorem sc_law_without_carrying : L2.FnScope ["numbers", "rows", "number", "found", "power_now", "k", "line", "ones"] ["numbers"] (L2.defScope s_law_without_carrying) := ⟨rfl, rfl, rfl, by decide +kernel, rfl, by decide +kernel, by decide +kernel⟩
theorem ok_law_without_carrying {f : Addr} {fd : FuncData} {k : Nat} {sp : Spc} (F : L2.Fun K "_law_without_carrying" "_law_without_carrying" s_law_without_carrying f fd) (hm : mg "_law_without_carrying" = some (.ref f)) (m_len : mg "len" = none) (m_max : mg "max" = none) (m_range : mg "range" = none) (m_int : mg "int" = none) {sp_law_binary : Spc} {k_law_binary : Nat} (C_law_binary : Callee P w K mg base "_law_binary" k_law_binary 1 sp_law_binary) (h_law_binary : k_law_binary ≤ k) (body : Body 8 1 (w_law_without_carrying sp_law_binary) sp) : Callee P w K mg base "_law_without_carrying" (k + 1) 1 sp :=
  callee_of F hm (F.binds (ps := ["numbers"]) fun _ _ _ _ _ _ us hl => match us, hl with | [_], _ => rfl) sc_law_without_carrying rfl rfl (fun cdv A outer s H E hr => by
    unfold w_law_without_carrying
    exact (dss_cons (by first | exact (ds_set 1 sc_law_without_carrying.nd (d_lc (own := [("number", 2)]) rfl sc_law_without_carrying.nd (di_it (d_var 0)) (L2.blkOk_by (by rfl)) (fun _ _ _ _ _ => (dg_name 2 sc_law_without_carrying.nd)) (fun _ _ _ _ _ => dts_nil) (fun _ _ _ _ _ => (d_calle C_law_binary hr h_law_binary (by rfl) (da_cons (d_var 2) da_nil))))) | exact (ds_setLc 1 (own := [("number", 2)]) rfl sc_law_without_carrying.nd (di_it (d_var 0)) (L2.blkOk_by (by rfl)) (fun _ _ _ _ _ => (dg_name 2 sc_law_without_carrying.nd)) (fun _ _ _ _ _ => dts_nil) (fun _ _ _ _ _ => (d_calle C_law_binary hr h_law_binary (by rfl) (da_cons (d_var 2) da_nil))) (L2.sw_true rfl rfl rfl (by decide +kernel))))
      (dss_cons (ds_set 3 sc_law_without_carrying.nd d_int)
      (dss_cons (ds_set 4 sc_law_without_carrying.nd d_int)
      (dss_cons (ds_for rfl PassesOwn.never (di_r1 (by rfl) m_range (d_callB (b_max rfl hr) (by rfl) m_max (by decide +kernel) (da_cons (d_op o_add (d_lst (da_cons d_int da_nil)) (d_lc (own := [("line", 6)]) rfl sc_law_without_carrying.nd (di_it (d_var 1)) (L2.blkOk_by (by rfl)) (fun _ _ _ _ _ => (dg_name 6 sc_law_without_carrying.nd)) (fun _ _ _ _ _ => dts_nil) (fun _ _ _ _ _ => (d_callB b_len (by rfl) m_len (by decide +kernel) (da_cons (d_var 6) da_nil))))) da_nil))) (dg_name 5 sc_law_without_carrying.nd) (dss_cons (ds_set 7 sc_law_without_carrying.nd (d_callB b_len (by rfl) m_len (by decide +kernel) (da_cons (d_lc (own := [("line", 6)]) rfl sc_law_without_carrying.nd (di_it (d_var 1)) (L2.blkOk_by (by rfl)) (fun _ _ _ _ _ => (dg_name 6 sc_law_without_carrying.nd)) (fun _ _ _ _ _ => (dts_one (PW.pt (dw_and (dt_cmp c_lt (d_var 5) (d_callB b_len (by rfl) m_len (by decide +kernel) (da_cons (d_var 6) da_nil))) (dw_and1 (dt_cmp (c_eq hr) (d_ix i_ix (d_var 6) (d_var 5)) d_int)))))) (fun _ _ _ _ _ => (d_var 6))) da_nil)))
      (dss_cons (ds_set 3 sc_law_without_carrying.nd (d_op o_add (d_var 3) (d_op o_mul (d_var 4) (d_callT b_int (by rfl) m_int (by decide +kernel) (da_cons (d_op o_mod (d_var 7) d_int) da_nil)))))
      (dss_one (ds_set 4 sc_law_without_carrying.nd (d_op o_mul d_int (d_var 4)))))))
      (dss_one (ds_ret (d_var 3)))))))) body
abbrev s_law_won : Stmt := topS 17
theorem sc_law_won : L2.FnScope ["heaps", "known", "last_wins", "here", "mover_wins", "k", "left"] ["heaps", "known", "last_wins"] (L2.defScope s_law_won) := ⟨rfl, rfl, rfl, by decide +kernel, rfl, by decide +kernel, by decide +kernel⟩
theorem ok_law_won {f : Addr} {fd : FuncData} {k : Nat} {sp : Spc} (F : L2.Fun K "_law_won" "_law_won" s_law_won f fd) (hm : mg "_law_won" = some (.ref f)) (m_sorted : mg "sorted" = none) (m_tuple : mg "tuple" = none) (m_sum : mg "sum" = none) (m_len : mg "len" = none) (m_range : mg "range" = none) {sp_law_won : Spc} {k_law_won : Nat} (C_law_won : Callee P w K mg base "_law_won" k_law_won 3 sp_law_won) (h_law_won : k_law_won ≤ k) (body : Body 7 3 (w_law_won sp_law_won) sp) : Callee P w K mg base "_law_won" (k + 1) 3 sp :=
  callee_of F hm (F.binds (ps := ["heaps", "known", "last_wins"]) fun _ _ _ _ _ _ us hl => match us, hl with | [_, _, _], _ => rfl) sc_law_won rfl rfl (fun cdv A outer s H E hr => by
    unfold w_law_won
    exact (dss_cons (ds_set 3 sc_law_won.nd (d_callT b_tuple (by rfl) m_tuple (by decide +kernel) (da_cons (d_callB (b_sortedA hr) (by rfl) m_sorted (by decide +kernel) (da_cons (d_var 0) da_nil)) da_nil)))
      (dss_cons (ds_if (dt_cmp (c_dnotin hr) (d_var 3) (d_var 1)) (dss_cons (ds_set 4 sc_law_won.nd (d_and (d_cmp (c_eq hr) (d_callB (b_sum rfl) (by rfl) m_sum (by decide +kernel) (da_cons (d_var 3) da_nil)) d_int) (d_one (d_not (d_var 2)))))
      (dss_cons (ds_for rfl PassesOwn.never (di_r1 (by rfl) m_range (d_callB b_len (by rfl) m_len (by decide +kernel) (da_cons (d_var 3) da_nil))) (dg_name 5 sc_law_won.nd) (dss_one (ds_for rfl PassesOwn.never (di_r1 (by rfl) m_range (d_ix i_ix (d_var 3) (d_var 5))) (dg_name 6 sc_law_won.nd) (dss_one (ds_if (PW.pt (dw_and (dt_not (dt_val (d_var 4))) (dw_and1 (dt_not (dt_val (d_calle C_law_won hr h_law_won (by rfl) (da_cons (d_op o_add (d_op o_add (d_sl s_cut (d_var 3) dp_no (dp_at (d_var 5))) (d_tup (da_cons (d_var 6) da_nil))) (d_sl s_cut (d_var 3) (dp_at (d_op o_add (d_var 5) d_int)) dp_no)) (da_cons (d_var 1) (da_cons (d_var 2) da_nil))))))))) (dss_one (ds_set 4 sc_law_won.nd d_bl)) dss_nil)))))
      (dss_one (ds_sub (p_dput hr) (d_var 4) (d_var 1) (d_var 3))))) dss_nil)
      (dss_one (ds_ret (d_dix hr (d_var 1) (d_var 3))))))) body
abbrev s_law_small : Stmt := topS 18
theorem sc_law_small : L2.FnScope ["draws", "heaps", "k", "known", "due", "left"] ["draws"] (L2.defScope s_law_small) := ⟨rfl, rfl, rfl, by decide +kernel, rfl, by decide +kernel, by decide +kernel⟩
theorem ok_law_small {f : Addr} {fd : FuncData} {k : Nat} {sp : Spc} (F : L2.Fun K "_law_small" "_law_small" s_law_small f fd) (hm : mg "_law_small" = some (.ref f)) (m_range : mg "range" = none) (m_tuple : mg "tuple" = none) (m_len : mg "len" = none) (m_sum : mg "sum" = none) {sp_law_take : Spc} {k_law_take : Nat} (C_law_take : Callee P w K mg base "_law_take" k_law_take 2 sp_law_take) (h_law_take : k_law_take ≤ k) {sp_law_won : Spc} {k_law_won : Nat} (C_law_won : Callee P w K mg base "_law_won" k_law_won 3 sp_law_won) (h_law_won : k_law_won ≤ k) {sp_heaps_move : Spc} {k_heaps_move : Nat} (C_heaps_move : Callee P w K mg base "heaps_move" k_heaps_move 1 sp_heaps_move) (h_heaps_move : k_heaps_move ≤ k) {sp_law_same : Spc} {k_law_same : Nat} (C_law_same : Callee P w K mg base "_law_same" k_law_same 2 sp_law_same) (h_law_same : k_law_same ≤ k) {sp_last_loses : Spc} {k_last_loses : Nat} (C_last_loses : Callee P w K mg base "last_loses" k_last_loses 1 sp_last_loses) (h_last_loses : k_last_loses ≤ k) (body : Body 6 1 (w_law_small sp_law_take sp_law_won sp_heaps_move sp_law_same sp_last_loses) sp) : Callee P w K mg base "_law_small" (k + 1) 1 sp :=
  callee_of F hm (F.binds (ps := ["draws"]) fun _ _ _ _ _ _ us hl => match us, hl with | [_], _ => rfl) sc_law_small rfl rfl (fun cdv A outer s H E hr => by
    unfold w_law_small
    exact (dss_cons (ds_set 1 sc_law_small.nd (d_callT b_tuple (by rfl) m_tuple (by decide +kernel) (da_cons (d_lc (own := [("k", 2)]) rfl sc_law_small.nd (di_r1 (by rfl) m_range (d_calle C_law_take hr h_law_take (by rfl) (da_cons (d_var 0) (da_cons d_int da_nil)))) (L2.blkOk_by (by rfl)) (fun _ _ _ _ _ => (dg_name 2 sc_law_small.nd)) (fun _ _ _ _ _ => dts_nil) (fun _ _ _ _ _ => (d_calle C_law_take hr h_law_take (by rfl) (da_cons (d_var 0) (da_cons (d_ix i_ix (d_lst (da_cons d_int (da_cons d_int (da_cons d_int da_nil)))) (d_calle C_law_take hr h_law_take (by rfl) (da_cons (d_var 0) (da_cons d_int da_nil)))) da_nil))))) da_nil)))
      (dss_cons (ds_set 3 sc_law_small.nd d_dnewT)
      (dss_cons (ds_set 4 sc_law_small.nd d_non)
      (dss_cons (ds_for rfl PassesOwn.never (di_r1 (by rfl) m_range (d_callB b_len (by rfl) m_len (by decide +kernel) (da_cons (d_var 1) da_nil))) (dg_name 2 sc_law_small.nd) (dss_one (ds_for rfl PassesOwn.never (di_r1 (by rfl) m_range (d_ix i_ix (d_var 1) (d_var 2))) (dg_name 5 sc_law_small.nd) (dss_one (ds_if (PW.pt (dw_and (dt_cmp c_is (d_var 4) d_non) (dw_and1 (dt_not (dt_val (d_calle C_law_won hr h_law_won (by rfl) (da_cons (d_op o_add (d_op o_add (d_sl s_cut (d_var 1) dp_no (dp_at (d_var 2))) (d_tup (da_cons (d_var 5) da_nil))) (d_sl s_cut (d_var 1) (dp_at (d_op o_add (d_var 2) d_int)) dp_no)) (da_cons (d_var 3) (da_cons d_bl da_nil))))))))) (dss_one (ds_set 4 sc_law_small.nd (d_tup (da_cons (d_var 2) (da_cons (d_var 5) da_nil))))) dss_nil)))))
      (dss_cons (ds_if (PW.pt (dw_or (dt_not (dt_val (d_calle C_law_same hr h_law_same (by rfl) (da_cons (d_calle C_heaps_move hr h_heaps_move (by rfl) (da_cons (d_var 1) da_nil)) (da_cons (d_var 4) da_nil))))) (dw_or1 (dt_cmp (c_ne hr) (d_cmp c_isnot (d_var 4) d_non) (d_calle C_law_won hr h_law_won (by rfl) (da_cons (d_var 1) (da_cons (d_var 3) (da_cons d_bl da_nil)))))))) (dss_one (ds_ret d_bl)) dss_nil)
      (dss_one (ds_ret (d_or (d_cmp (c_eq hr) (d_callB (b_sum rfl) (by rfl) m_sum (by decide +kernel) (da_cons (d_var 1) da_nil)) d_int) (d_one (d_calle C_law_same hr h_law_same (by rfl) (da_cons (d_calle C_last_loses hr h_last_loses (by rfl) (da_cons (d_var 1) da_nil)) (da_cons (d_calle C_law_won hr h_law_won (by rfl) (da_cons (d_var 1) (da_cons d_dnewT (da_cons d_bl da_nil)))) da_nil))))))))))))) body
abbrev s_law_great : Stmt := topS 19
theorem sc_law_great : L2.FnScope ["draws", "cell", "heaps", "k", "altogether", "due", "left", "mover_wins"] ["draws", "cell"] (L2.defScope s_law_great) := ⟨rfl, rfl, rfl, by decide +kernel, rfl, by decide +kernel, by decide +kernel⟩
theorem ok_law_great {f : Addr} {fd : FuncData} {k : Nat} {sp : Spc} (F : L2.Fun K "_law_great" "_law_great" s_law_great f fd) (hm : mg "_law_great" = some (.ref f)) (m_range : mg "range" = none) (m_len : mg "len" = none) (m_max : mg "max" = none) (m_sum : mg "sum" = none) (m_tuple : mg "tuple" = none) {sp_law_take : Spc} {k_law_take : Nat} (C_law_take : Callee P w K mg base "_law_take" k_law_take 2 sp_law_take) (h_law_take : k_law_take ≤ k) {sp_law_without_carrying : Spc} {k_law_without_carrying : Nat} (C_law_without_carrying : Callee P w K mg base "_law_without_carrying" k_law_without_carrying 1 sp_law_without_carrying) (h_law_without_carrying : k_law_without_carrying ≤ k) {sp_heaps_move : Spc} {k_heaps_move : Nat} (C_heaps_move : Callee P w K mg base "heaps_move" k_heaps_move 1 sp_heaps_move) (h_heaps_move : k_heaps_move ≤ k) {sp_law_same : Spc} {k_law_same : Nat} (C_law_same : Callee P w K mg base "_law_same" k_law_same 2 sp_law_same) (h_law_same : k_law_same ≤ k) {sp_last_loses : Spc} {k_last_loses : Nat} (C_last_loses : Callee P w K mg base "last_loses" k_last_loses 1 sp_last_loses) (h_last_loses : k_last_loses ≤ k) (body : Body 8 2 (w_law_great sp_law_take sp_law_without_carrying sp_heaps_move sp_law_same sp_last_loses) sp) : Callee P w K mg base "_law_great" (k + 1) 2 sp :=
  callee_of F hm (F.binds (ps := ["draws", "cell"]) fun _ _ _ _ _ _ us hl => match us, hl with | [_, _], _ => rfl) sc_law_great rfl rfl (fun cdv A outer s H E hr => by
    unfold w_law_great
    exact (dss_cons (ds_set 2 sc_law_great.nd (d_lst da_nil))
      (dss_cons (ds_for rfl PassesOwn.never (di_r1 (by rfl) m_range (d_calle C_law_take hr h_law_take (by rfl) (da_cons (d_var 0) (da_cons d_int da_nil)))) (dg_name 3 sc_law_great.nd) (dss_one (ds_expr (d_m PySem.F.slot_list_append PySem.F.type_list_append m_append (d_var 2) (da_cons (d_ix i_ix (d_lst (da_cons (d_calle C_law_take hr h_law_take (by rfl) (da_cons (d_var 0) (da_cons d_int da_nil))) (da_cons (d_calle C_law_take hr h_law_take (by rfl) (da_cons (d_var 0) (da_cons d_int da_nil))) (da_cons (d_var 1) (da_cons (d_op o_add (d_op o_div (d_var 1) d_int) (d_calle C_law_take hr h_law_take (by rfl) (da_cons (d_var 0) (da_cons d_int da_nil)))) (da_cons (d_calle C_law_take hr h_law_take (by rfl) (da_cons (d_var 0) (da_cons d_int da_nil))) da_nil)))))) (d_calle C_law_take hr h_law_take (by rfl) (da_cons (d_var 0) (da_cons d_int da_nil)))) da_nil)))))
      (dss_cons (ds_if (dt_cmp (c_eq hr) (d_calle C_law_take hr h_law_take (by rfl) (da_cons (d_var 0) (da_cons d_int da_nil))) d_int) (dss_one (ds_expr (d_m PySem.F.slot_list_append PySem.F.type_list_append m_append (d_var 2) (da_cons (d_calle C_law_without_carrying hr h_law_without_carrying (by rfl) (da_cons (d_var 2) da_nil)) da_nil)))) dss_nil)
      (dss_cons (ds_set 4 sc_law_great.nd (d_calle C_law_without_carrying hr h_law_without_carrying (by rfl) (da_cons (d_var 2) da_nil)))
      (dss_cons (ds_set 5 sc_law_great.nd d_non)
      (dss_cons (ds_for rfl PassesOwn.never (di_r1 (by rfl) m_range (d_callB b_len (by rfl) m_len (by decide +kernel) (da_cons (d_var 2) da_nil))) (dg_name 3 sc_law_great.nd) (dss_cons (ds_set 6 sc_law_great.nd (d_calle C_law_without_carrying hr h_law_without_carrying (by rfl) (da_cons (d_lst (da_cons (d_var 4) (da_cons (d_ix i_ix (d_var 2) (d_var 3)) da_nil))) da_nil)))
      (dss_one (ds_if (PW.pt (dw_and (dt_cmp c_is (d_var 5) d_non) (dw_and1 (dt_cmp c_lt (d_var 6) (d_ix i_ix (d_var 2) (d_var 3)))))) (dss_one (ds_set 5 sc_law_great.nd (d_tup (da_cons (d_var 3) (da_cons (d_var 6) da_nil))))) dss_nil))))
      (dss_cons (ds_set 7 sc_law_great.nd (d_cmp (c_ne hr) (d_var 4) d_int))
      (dss_cons (ds_if (dt_cmp c_lt (d_callB (b_max rfl hr) (by rfl) m_max (by decide +kernel) (da_cons (d_op o_add (d_lst (da_cons d_int da_nil)) (d_var 2)) da_nil)) d_int) (dss_one (ds_set 7 sc_law_great.nd (d_cmp (c_eq hr) (d_op o_mod (d_callB (b_sum rfl) (by rfl) m_sum (by decide +kernel) (da_cons (d_var 2) da_nil)) d_int) d_int))) dss_nil)
      (dss_cons (ds_if (PW.pt (dw_or (dt_not (dt_val (d_calle C_law_same hr h_law_same (by rfl) (da_cons (d_calle C_heaps_move hr h_heaps_move (by rfl) (da_cons (d_callT b_tuple (by rfl) m_tuple (by decide +kernel) (da_cons (d_var 2) da_nil)) da_nil)) (da_cons (d_var 5) da_nil))))) (dw_or1 (dt_cmp (c_ne hr) (d_cmp c_isnot (d_var 5) d_non) (d_cmp (c_ne hr) (d_var 4) d_int))))) (dss_one (ds_ret d_bl)) dss_nil)
      (dss_one (ds_ret (d_or (d_cmp (c_eq hr) (d_callB (b_sum rfl) (by rfl) m_sum (by decide +kernel) (da_cons (d_var 2) da_nil)) d_int) (d_one (d_calle C_law_same hr h_law_same (by rfl) (da_cons (d_calle C_last_loses hr h_last_loses (by rfl) (da_cons (d_callT b_tuple (by rfl) m_tuple (by decide +kernel) (da_cons (d_var 2) da_nil)) da_nil)) (da_cons (d_var 7) da_nil))))))))))))))))) body
abbrev s_law_row : Stmt := topS 20
theorem sc_law_row : L2.FnScope ["steps", "many", "found", "heap", "there", "step", "k"] ["steps", "many"] (L2.defScope s_law_row) := ⟨rfl, rfl, rfl, by decide +kernel, rfl, by decide +kernel, by decide +kernel⟩
theorem ok_law_row {f : Addr} {fd : FuncData} {k : Nat} {sp : Spc} (F : L2.Fun K "_law_row" "_law_row" s_law_row f fd) (hm : mg "_law_row" = some (.ref f)) (m_range : mg "range" = none) (m_len : mg "len" = none) (body : Body 7 2 (w_law_row ) sp) : Callee P w K mg base "_law_row" (k + 1) 2 sp :=
  callee_of F hm (F.binds (ps := ["steps", "many"]) fun _ _ _ _ _ _ us hl => match us, hl with | [_, _], _ => rfl) sc_law_row rfl rfl (fun cdv A outer s H E hr => by
    unfold w_law_row
    exact (dss_cons (ds_set 2 sc_law_row.nd (d_lst da_nil))
      (dss_cons (ds_for rfl PassesOwn.never (di_r1 (by rfl) m_range (d_var 1)) (dg_name 3 sc_law_row.nd) (dss_cons (by first | exact (ds_set 4 sc_law_row.nd (d_lc (own := [("step", 5)]) rfl sc_law_row.nd (di_it (d_var 0)) (L2.blkOk_by (by rfl)) (fun _ _ _ _ _ => (dg_name 5 sc_law_row.nd)) (fun _ _ _ _ _ => (dts_one (dt_cmp c_le (d_var 5) (d_var 3)))) (fun _ _ _ _ _ => (d_ix i_ix (d_var 2) (d_op o_sub (d_var 3) (d_var 5)))))) | exact (ds_setLc 4 (own := [("step", 5)]) rfl sc_law_row.nd (di_it (d_var 0)) (L2.blkOk_by (by rfl)) (fun _ _ _ _ _ => (dg_name 5 sc_law_row.nd)) (fun _ _ _ _ _ => (dts_one (dt_cmp c_le (d_var 5) (d_var 3)))) (fun _ _ _ _ _ => (d_ix i_ix (d_var 2) (d_op o_sub (d_var 3) (d_var 5)))) (L2.sw_true rfl rfl rfl (by decide +kernel))))
      (dss_one (ds_expr (d_m PySem.F.slot_list_append PySem.F.type_list_append m_append (d_var 2) (da_cons (d_ix i_ix (d_lc (own := [("k", 6)]) rfl sc_law_row.nd (di_r1 (by rfl) m_range (d_op o_add (d_callB b_len (by rfl) m_len (by decide +kernel) (da_cons (d_var 4) da_nil)) d_int)) (L2.blkOk_by (by rfl)) (fun _ _ _ _ _ => (dg_name 6 sc_law_row.nd)) (fun _ _ _ _ _ => (dts_one (dt_cmp (c_notin hr) (d_var 6) (d_var 4)))) (fun _ _ _ _ _ => (d_var 6))) d_int) da_nil))))))
      (dss_one (ds_ret (d_var 2)))))) body
abbrev s_law_again : Stmt := topS 21
theorem sc_law_again : L2.FnScope ["steps", "most", "row", "begin", "length"] ["steps", "most"] (L2.defScope s_law_again) := ⟨rfl, rfl, rfl, by decide +kernel, rfl, by decide +kernel, by decide +kernel⟩
theorem ok_law_again {f : Addr} {fd : FuncData} {k : Nat} {sp : Spc} (F : L2.Fun K "_law_again" "_law_again" s_law_again f fd) (hm : mg "_law_again" = some (.ref f)) (m_range : mg "range" = none) (m_len : mg "len" = none) {sp_law_row : Spc} {k_law_row : Nat} (C_law_row : Callee P w K mg base "_law_row" k_law_row 2 sp_law_row) (h_law_row : k_law_row ≤ k) (body : Body 5 2 (w_law_again sp_law_row) sp) : Callee P w K mg base "_law_again" (k + 1) 2 sp :=
  callee_of F hm (F.binds (ps := ["steps", "most"]) fun _ _ _ _ _ _ us hl => match us, hl with | [_, _], _ => rfl) sc_law_again rfl rfl (fun cdv A outer s H E hr => by
    unfold w_law_again
    exact (dss_cons (ds_set 2 sc_law_again.nd (d_calle C_law_row hr h_law_row (by rfl) (da_cons (d_var 0) (da_cons (d_op o_add (d_op o_mul d_int (d_var 1)) d_int) da_nil))))
      (dss_cons (ds_for rfl PassesOwn.never (di_r1 (by rfl) m_range (d_var 1)) (dg_name 3 sc_law_again.nd) (dss_one (ds_for rfl PassesOwn.never (di_r2 (by rfl) m_range d_int (d_op o_add (d_op o_sub (d_var 1) (d_var 3)) d_int)) (dg_name 4 sc_law_again.nd) (dss_one (ds_if (dt_cmp (c_eqL hr) (d_sl s_cut (d_var 2) (dp_at (d_var 3)) (dp_at (d_op o_sub (d_callB b_len (by rfl) m_len (by decide +kernel) (da_cons (d_var 2) da_nil)) (d_var 4)))) (d_sl s_cut (d_var 2) (dp_at (d_op o_add (d_var 3) (d_var 4))) dp_no)) (dss_one (ds_ret (d_tup (da_cons (d_var 3) (da_cons (d_var 4) da_nil))))) dss_nil)))))
      (dss_one (ds_ret d_non))))) body
abbrev s_law : Stmt := topS 22
theorem sc_law : L2.FnScope ["script", "draws", "cell", "steps", "k", "most", "due", "step", "heap", "wide"] ["script"] (L2.defScope s_law) := ⟨rfl, rfl, rfl, by decide +kernel, rfl, by decide +kernel, by decide +kernel⟩
theorem ok_law {f : Addr} {fd : FuncData} {k : Nat} {sp : Spc} (F : L2.Fun K "law" "law" s_law f fd) (hm : mg "law" = some (.ref f)) (m_abs : mg "abs" = none) (m_range : mg "range" = none) (m_sorted : mg "sorted" = none) (m_set : mg "set" = none) (m_tuple : mg "tuple" = none) (m_sum : mg "sum" = none) {sp_law_draws : Spc} {k_law_draws : Nat} (C_law_draws : Callee P w K mg base "_law_draws" k_law_draws 2 sp_law_draws) (h_law_draws : k_law_draws ≤ k) {sp_law_cell : Spc} {k_law_cell : Nat} (C_law_cell : Callee P w K mg base "_law_cell" k_law_cell 2 sp_law_cell) (h_law_cell : k_law_cell ≤ k) {sp_law_small : Spc} {k_law_small : Nat} (C_law_small : Callee P w K mg base "_law_small" k_law_small 1 sp_law_small) (h_law_small : k_law_small ≤ k) {sp_law_great : Spc} {k_law_great : Nat} (C_law_great : Callee P w K mg base "_law_great" k_law_great 2 sp_law_great) (h_law_great : k_law_great ≤ k) {sp_law_take : Spc} {k_law_take : Nat} (C_law_take : Callee P w K mg base "_law_take" k_law_take 2 sp_law_take) (h_law_take : k_law_take ≤ k) {sp_take_some : Spc} {k_take_some : Nat} (C_take_some : Callee P w K mg base "take_some" k_take_some 2 sp_take_some) (h_take_some : k_take_some ≤ k) {sp_law_same : Spc} {k_law_same : Nat} (C_law_same : Callee P w K mg base "_law_same" k_law_same 2 sp_law_same) (h_law_same : k_law_same ≤ k) {sp_law_row : Spc} {k_law_row : Nat} (C_law_row : Callee P w K mg base "_law_row" k_law_row 2 sp_law_row) (h_law_row : k_law_row ≤ k) {sp_numbers_of : Spc} {k_numbers_of : Nat} (C_numbers_of : Callee P w K mg base "numbers_of" k_numbers_of 1 sp_numbers_of) (h_numbers_of : k_numbers_of ≤ k) {sp_law_again : Spc} {k_law_again : Nat} (C_law_again : Callee P w K mg base "_law_again" k_law_again 2 sp_law_again) (h_law_again : k_law_again ≤ k) {sp_comes_again : Spc} {k_comes_again : Nat} (C_comes_again : Callee P w K mg base "comes_again" k_comes_again 2 sp_comes_again) (h_comes_again : k_comes_again ≤ k) {sp_heaps_move : Spc} {k_heaps_move : Nat} (C_heaps_move : Callee P w K mg base "heaps_move" k_heaps_move 1 sp_heaps_move) (h_heaps_move : k_heaps_move ≤ k) {sp_last_loses : Spc} {k_last_loses : Nat} (C_last_loses : Callee P w K mg base "last_loses" k_last_loses 1 sp_last_loses) (h_last_loses : k_last_loses ≤ k) (body : Body 10 1 (w_law sp_law_draws sp_law_cell sp_law_small sp_law_great sp_law_take sp_take_some sp_law_same sp_law_row sp_numbers_of sp_law_again sp_comes_again sp_heaps_move sp_last_loses) sp) : L2.FnOk P w K mg base L2.CX0 (k + 1) f fd ["script"] (spOf K 1 sp) :=
  fn_body F sc_law rfl rfl (fun cdv A outer s H E hr => by
    unfold w_law
    exact (dss_cons (ds_set 1 sc_law.nd (d_calle C_law_draws hr h_law_draws (by rfl) (da_cons (d_var 0) (da_cons d_int da_nil))))
      (dss_cons (ds_set 2 sc_law.nd (d_op o_mod (d_callB b_abs (by rfl) m_abs (by decide +kernel) (da_cons (d_calle C_law_cell hr h_law_cell (by rfl) (da_cons (d_var 0) (da_cons (d_var 1) da_nil))) da_nil)) (d_op o_pow d_int d_int)))
      (dss_cons (ds_if (PW.pt (dw_or (dt_not (dt_val (d_calle C_law_small hr h_law_small (by rfl) (da_cons (d_var 1) da_nil)))) (dw_or (dt_not (dt_val (d_calle C_law_small hr h_law_small (by rfl) (da_cons (d_var 1) da_nil)))) (dw_or1 (dt_not (dt_val (d_calle C_law_great hr h_law_great (by rfl) (da_cons (d_var 1) (da_cons (d_var 2) da_nil))))))))) (dss_one (ds_ret d_bl)) dss_nil)
      (dss_cons (ds_set 3 sc_law.nd (d_callT b_tuple (by rfl) m_tuple (by decide +kernel) (da_cons (d_sortedSet rfl (by rfl) m_sorted (by rfl) m_set (d_lc (own := [("k", 4)]) rfl sc_law.nd (di_r1 (by rfl) m_range (d_op o_add d_int (d_calle C_law_take hr h_law_take (by rfl) (da_cons (d_var 1) (da_cons d_int da_nil))))) (L2.blkOk_by (by rfl)) (fun _ _ _ _ _ => (dg_name 4 sc_law.nd)) (fun _ _ _ _ _ => dts_nil) (fun _ _ _ _ _ => (d_op o_add d_int (d_calle C_law_take hr h_law_take (by rfl) (da_cons (d_var 1) (da_cons d_int da_nil))))))) da_nil)))
      (dss_cons (ds_set 5 sc_law.nd (d_calle C_law_take hr h_law_take (by rfl) (da_cons (d_var 1) (da_cons d_int da_nil))))
      (dss_cons (ds_set 6 sc_law.nd (d_callT b_tuple (by rfl) m_tuple (by decide +kernel) (da_cons (d_lc (own := [("heap", 8)]) rfl sc_law.nd (di_r1 (by rfl) m_range (d_op o_add (d_var 5) d_int)) (L2.blkOk_by (by rfl)) (fun _ _ _ _ _ => (dg_name 8 sc_law.nd)) (fun _ _ _ _ _ => dts_nil) (fun _ _ _ _ _ => (d_callT b_tuple (by rfl) m_tuple (by decide +kernel) (da_cons (d_callB (b_sortedA hr) (by rfl) m_sorted (by decide +kernel) (da_cons (d_lc (own := [("step", 7)]) rfl sc_law.nd (di_it (d_var 3)) (L2.blkOk_by (by rfl)) (fun _ _ _ _ _ => (dg_name 7 sc_law.nd)) (fun _ _ _ _ _ => (dts_one (dt_cmp c_le (d_var 7) (d_var 8)))) (fun _ _ _ _ _ => (d_op o_sub (d_var 8) (d_var 7)))) da_nil)) da_nil)))) da_nil)))
      (dss_cons (ds_if (PW.pt (dw_or (dt_not (dt_val (d_calle C_law_same hr h_law_same (by rfl) (da_cons (d_calle C_take_some hr h_take_some (by rfl) (da_cons (d_var 5) (da_cons (d_var 3) da_nil))) (da_cons (d_var 6) da_nil))))) (dw_or1 (dt_not (dt_val (d_calle C_law_same hr h_law_same (by rfl) (da_cons (d_calle C_numbers_of hr h_numbers_of (by rfl) (da_cons (d_var 6) da_nil)) (da_cons (d_callT b_tuple (by rfl) m_tuple (by decide +kernel) (da_cons (d_calle C_law_row hr h_law_row (by rfl) (da_cons (d_var 3) (da_cons (d_op o_add (d_var 5) d_int) da_nil))) da_nil)) da_nil)))))))) (dss_one (ds_ret d_bl)) dss_nil)
      (dss_cons (ds_for rfl PassesOwn.never (di_it (d_lst (da_cons (d_calle C_law_take hr h_law_take (by rfl) (da_cons (d_var 1) (da_cons d_int da_nil))) (da_cons (d_op o_add (d_callB (b_sum rfl) (by rfl) m_sum (by decide +kernel) (da_cons (d_op o_add (d_sl s_cut (d_var 3) dp_no (dp_at d_int)) (d_sl s_cut (d_var 3) (dp_at (d_un u_neg d_int)) dp_no)) da_nil)) (d_calle C_law_take hr h_law_take (by rfl) (da_cons (d_var 1) (da_cons d_int da_nil)))) da_nil)))) (dg_name 9 sc_law.nd) (dss_one (ds_if (dt_not (dt_val (d_calle C_law_same hr h_law_same (by rfl) (da_cons (d_calle C_comes_again hr h_comes_again (by rfl) (da_cons (d_var 3) (da_cons (d_var 9) da_nil))) (da_cons (d_calle C_law_again hr h_law_again (by rfl) (da_cons (d_var 3) (da_cons (d_var 9) da_nil))) da_nil))))) (dss_one (ds_ret d_bl)) dss_nil)))
      (dss_cons (ds_if (PW.pt (dw_or (dt_not (dt_val (d_calle C_law_same hr h_law_same (by rfl) (da_cons (d_calle C_heaps_move hr h_heaps_move (by rfl) (da_cons (d_tup (da_cons d_int (da_cons d_int (da_cons d_int da_nil)))) da_nil)) (da_cons (d_tup (da_cons d_int (da_cons d_int da_nil))) da_nil))))) (dw_or (dt_cmp c_isnot (d_calle C_heaps_move hr h_heaps_move (by rfl) (da_cons (d_tup (da_cons d_int (da_cons d_int da_nil))) da_nil)) d_non) (dw_or1 (dt_cmp c_isnot (d_calle C_heaps_move hr h_heaps_move (by rfl) (da_cons (d_tup da_nil) da_nil)) d_non))))) (dss_one (ds_ret d_bl)) dss_nil)
      (dss_cons (ds_if (PW.pt (dw_or (dt_not (dt_val (d_calle C_law_same hr h_law_same (by rfl) (da_cons (d_calle C_last_loses hr h_last_loses (by rfl) (da_cons (d_tup (da_cons d_int (da_cons d_int da_nil))) da_nil)) (da_cons d_bl da_nil))))) (dw_or (dt_not (dt_val (d_calle C_law_same hr h_law_same (by rfl) (da_cons (d_calle C_last_loses hr h_last_loses (by rfl) (da_cons (d_tup (da_cons d_int (da_cons d_int (da_cons d_int da_nil)))) da_nil)) (da_cons d_bl da_nil))))) (dw_or1 (dt_not (dt_val (d_calle C_law_same hr h_law_same (by rfl) (da_cons (d_calle C_last_loses hr h_last_loses (by rfl) (da_cons (d_tup (da_cons d_int (da_cons d_int da_nil))) da_nil)) (da_cons d_bl da_nil))))))))) (dss_one (ds_ret d_bl)) dss_nil)
      (dss_cons (ds_if (PW.pt (dw_or (dt_not (dt_val (d_calle C_law_same hr h_law_same (by rfl) (da_cons (d_calle C_comes_again hr h_comes_again (by rfl) (da_cons (d_tup (da_cons d_int (da_cons d_int da_nil))) (da_cons d_int da_nil))) (da_cons (d_tup (da_cons d_int (da_cons d_int da_nil))) da_nil))))) (dw_or (dt_cmp c_isnot (d_calle C_comes_again hr h_comes_again (by rfl) (da_cons (d_tup (da_cons d_int (da_cons d_int da_nil))) (da_cons d_int da_nil))) d_non) (dw_or1 (dt_not (dt_val (d_calle C_law_same hr h_law_same (by rfl) (da_cons (d_calle C_comes_again hr h_comes_again (by rfl) (da_cons (d_tup (da_cons d_int (da_cons d_int da_nil))) (da_cons d_int da_nil))) (da_cons (d_tup (da_cons d_int (da_cons d_int da_nil))) da_nil))))))))) (dss_one (ds_ret d_bl)) dss_nil)
      (dss_one (ds_ret (d_and (d_calle C_law_same hr h_law_same (by rfl) (da_cons (d_calle C_take_some hr h_take_some (by rfl) (da_cons d_int (da_cons (d_tup (da_cons d_int da_nil)) da_nil))) (da_cons (d_tup (da_cons (d_tup da_nil) (da_cons (d_tup da_nil) (da_cons (d_tup (da_cons d_int da_nil)) da_nil)))) da_nil))) (d_one (d_calle C_law_same hr h_law_same (by rfl) (da_cons (d_calle C_comes_again hr h_comes_again (by rfl) (da_cons (d_tup (da_cons d_int da_nil)) (da_cons d_int da_nil))) (da_cons (d_tup (da_cons d_int (da_cons d_int da_nil))) da_nil))))))))))))))))))) body
end
end K79
set_option linter.all false
set_option maxHeartbeats 4000000
/-! K79A: heaps: what may be won, plain -/
namespace K79
def xr : List Nat → Nat
  | [] => 0
  | x :: l => x ^^^ xr l
theorem xr_app : ∀ a b, xr (a ++ b) = xr a ^^^ xr b
  | [], b => by show xr b = 0 ^^^ xr b; rw [Nat.zero_xor]
  | x :: a, b => by show x ^^^ xr (a ++ b) = x ^^^ xr a ^^^ xr b; rw [xr_app a b, Nat.xor_assoc]
theorem xr_perm {a b : List Nat} (h : a.Perm b) : xr a = xr b := by
  induction h with
  | nil => rfl
  | cons x _ ih => show x ^^^ _ = x ^^^ _; rw [ih]
  | swap x y l => show y ^^^ (x ^^^ xr l) = x ^^^ (y ^^^ xr l); rw [← Nat.xor_assoc, ← Nat.xor_assoc, Nat.xor_comm y x]
  | trans _ _ h1 h2 => exact h1.trans h2
theorem foldl_xr : ∀ (l : List Nat) (a : Nat), l.foldl (fun x y => x ^^^ y) a = a ^^^ xr l
  | [], a => by show a = a ^^^ 0; rw [Nat.xor_zero]
  | x :: l, a => by show l.foldl _ (a ^^^ x) = a ^^^ (x ^^^ xr l); rw [foldl_xr l, Nat.xor_assoc]
/-- heap k is y from now on -/
def mv (h : List Nat) (k y : Nat) : List Nat := h.take k ++ [y] ++ h.drop (k + 1)
theorem split_at {h : List Nat} {k : Nat} (hk : k < h.length) : h = h.take k ++ [h.getD k 0] ++ h.drop (k + 1) := by
  rw [List.getD_eq_getElem?_getD, List.getElem?_eq_getElem hk]
  show h = h.take k ++ [h[k]] ++ h.drop (k + 1)
  rw [List.append_assoc, List.singleton_append, List.getElem_cons_drop, List.take_append_drop]
theorem xor_4 (a b c : Nat) : a ^^^ b ^^^ c = (a ^^^ c) ^^^ b := by rw [Nat.xor_assoc, Nat.xor_comm b c, Nat.xor_assoc]
theorem xor_can (a b : Nat) : a ^^^ (a ^^^ b) = b := by rw [← Nat.xor_assoc, Nat.xor_self, Nat.zero_xor]
theorem xor_eq_zero {a b : Nat} (h : a ^^^ b = 0) : a = b := by
  have := xor_can a b
  rw [h, Nat.xor_zero] at this
  exact this
theorem xr_split {h : List Nat} {k : Nat} (hk : k < h.length) : xr h = h.getD k 0 ^^^ xr (h.take k ++ h.drop (k + 1)) := by
  conv => lhs; rw [split_at hk]
  rw [xr_app, xr_app, xr_app]
  show xr (h.take k) ^^^ (h.getD k 0 ^^^ 0) ^^^ xr (h.drop (k + 1)) = _
  rw [Nat.xor_zero, Nat.xor_comm (xr (h.take k)), Nat.xor_assoc]
theorem xr_mv' (h : List Nat) (k y : Nat) : xr (mv h k y) = y ^^^ xr (h.take k ++ h.drop (k + 1)) := by
  unfold mv
  rw [xr_app, xr_app, xr_app]
  show xr (h.take k) ^^^ (y ^^^ 0) ^^^ xr (h.drop (k + 1)) = _
  rw [Nat.xor_zero, Nat.xor_comm (xr (h.take k)), Nat.xor_assoc]
theorem xr_mv {h : List Nat} {k : Nat} (hk : k < h.length) (y : Nat) : xr (mv h k y) = y ^^^ (h.getD k 0 ^^^ xr h) := by
  rw [xr_mv', xr_split hk, xor_can]
theorem mv_len {h : List Nat} {k : Nat} (hk : k < h.length) (y : Nat) : (mv h k y).length = h.length := by
  unfold mv
  simp
  omega
theorem xr_half : ∀ h : List Nat, xr (h.map (· / 2)) = xr h / 2
  | [] => rfl
  | x :: l => by show x / 2 ^^^ xr (l.map (· / 2)) = (x ^^^ xr l) / 2; rw [xr_half l, Nat.xor_div_two]
theorem xr_even : ∀ h : List Nat, (∀ x ∈ h, x % 2 = 0) → xr h % 2 = 0
  | [], _ => rfl
  | x :: l, h => by
    have a := h x List.mem_cons_self
    have b := xr_even l fun y hy => h y (List.mem_cons_of_mem _ hy)
    have : ¬ ((x ^^^ xr l) % 2 = 1) := by rw [Nat.xor_mod_two_eq_one]; omega
    show (x ^^^ xr l) % 2 = 0
    omega
theorem half_getD (h : List Nat) (k : Nat) : (h.map (· / 2)).getD k 0 = h.getD k 0 / 2 := by
  rw [List.getD_eq_getElem?_getD, List.getD_eq_getElem?_getD, List.getElem?_map]
  cases h[k]? <;> rfl
theorem ex_move : ∀ s h, xr h = s → s ≠ 0 → ∃ k, k < h.length ∧ (h.getD k 0 ^^^ s) < h.getD k 0 := by
  intro s
  induction s using Nat.strongRecOn with
  | ind s ih =>
    intro h hs h0
    by_cases c : s / 2 = 0
    · have s1 : s = 1 := by omega
      subst s1
      have : ∃ x ∈ h, x % 2 = 1 := by
        false_or_by_contra
        rename_i hc
        have := xr_even h fun x hx => by
          false_or_by_contra
          exact hc ⟨x, hx, by omega⟩
        rw [hs] at this
        cases this
      obtain ⟨x, hx, ho⟩ := this
      obtain ⟨k, hk, e⟩ := List.mem_iff_getElem.mp hx
      have e' : h.getD k 0 = x := by rw [List.getD_eq_getElem?_getD, List.getElem?_eq_getElem hk]; exact e
      refine ⟨k, hk, ?_⟩
      rw [e']
      have a : (x ^^^ 1) / 2 = x / 2 := by rw [Nat.xor_div_two]; show x / 2 ^^^ 0 = _; rw [Nat.xor_zero]
      have b : ¬ ((x ^^^ 1) % 2 = 1) := by rw [Nat.xor_mod_two_eq_one]; omega
      omega
    · obtain ⟨k, hk, hl⟩ := ih (s / 2) (by omega) (h.map (· / 2)) (by rw [xr_half, hs]) c
      rw [half_getD, ← Nat.xor_div_two] at hl
      rw [List.length_map] at hk
      exact ⟨k, hk, by omega⟩
def ones (h : List Nat) : Bool := h.all fun x => decide (x ≤ 1)
/-- whether who moves wins -/
def F (lw : Bool) (h : List Nat) : Bool := if lw = true then decide (xr h ≠ 0) else if ones h = true then decide (h.sum % 2 = 0) else decide (xr h ≠ 0)
theorem ones_xr : ∀ h, ones h = true → xr h < 2
  | [], _ => by decide
  | x :: l, h => by
    have h := Bool.and_eq_true_iff.mp (show (decide (x ≤ 1) && ones l) = true from h)
    have a := of_decide_eq_true h.1
    have b := ones_xr l h.2
    exact Nat.xor_lt_two_pow (n := 1) (by omega) (by omega)
theorem ones_app (a b : List Nat) : ones (a ++ b) = (ones a && ones b) := List.all_append
theorem sum_mv {h : List Nat} {k : Nat} (hk : k < h.length) (y : Nat) : (mv h k y).sum + h.getD k 0 = h.sum + y := by
  have e : h.sum = (h.take k).sum + h.getD k 0 + (h.drop (k + 1)).sum := by
    conv => lhs; rw [split_at hk]
    simp [Nat.add_assoc]
  unfold mv
  rw [e]
  simp only [List.sum_append, List.sum_cons, List.sum_nil]
  omega
theorem ones_mv {h : List Nat} {k : Nat} (y : Nat) : ones (mv h k y) = (ones (h.take k) && decide (y ≤ 1) && ones (h.drop (k + 1))) := by
  unfold mv
  rw [ones_app, ones_app]
  congr 2
  show (decide (y ≤ 1) && true) = _
  rw [Bool.and_true]
theorem ones_split {h : List Nat} {k : Nat} (hk : k < h.length) : ones h = (ones (h.take k) && decide (h.getD k 0 ≤ 1) && ones (h.drop (k + 1))) := by
  conv => lhs; rw [split_at hk]
  rw [ones_app, ones_app]
  congr 2
  show (decide (h.getD k 0 ≤ 1) && true) = _
  rw [Bool.and_true]
theorem pos_ex : ∀ {h : List Nat}, 0 < h.sum → ∃ k, k < h.length ∧ 0 < h.getD k 0
  | [], h => absurd h (by decide)
  | x :: l, h => by
    by_cases c : 0 < x
    · exact ⟨0, by simp, c⟩
    · obtain ⟨k, a, b⟩ := pos_ex (h := l) (by simp at h; omega)
      exact ⟨k + 1, by simpa using a, b⟩
theorem getD_le_sum : ∀ (h : List Nat) (k : Nat), h.getD k 0 ≤ h.sum
  | [], k => by rw [List.getD_eq_getElem?_getD, List.getElem?_nil]; exact Nat.zero_le _
  | x :: l, 0 => by show x ≤ (x :: l).sum; simp
  | x :: l, k + 1 => by have := getD_le_sum l k; show l.getD k 0 ≤ (x :: l).sum; rw [List.sum_cons]; omega
theorem F_step (lw : Bool) (h : List Nat) : F lw h = true ↔ (h.sum = 0 ∧ lw = false) ∨ ∃ k, k < h.length ∧ ∃ y, y < h.getD k 0 ∧ F lw (mv h k y) = false := by
  cases lw with
  | true =>
    unfold F
    simp only [if_pos, decide_eq_true_eq, decide_eq_false_iff_not, Bool.true_eq_false, and_false, false_or, ne_eq, Decidable.not_not]
    constructor
    · intro h0
      obtain ⟨k, hk, hl⟩ := ex_move _ h rfl h0
      exact ⟨k, hk, _, hl, by rw [xr_mv hk, Nat.xor_self]⟩
    · rintro ⟨k, hk, y, hy, e⟩ h0
      rw [xr_mv hk, h0, Nat.xor_zero] at e
      have := xor_eq_zero e
      omega
  | false =>
    by_cases c : ones h = true
    · have fh : F false h = decide (h.sum % 2 = 0) := by unfold F; rw [if_neg (by decide), if_pos c]
      have key : ∀ k, k < h.length → 0 < h.getD k 0 → ∀ y, y < h.getD k 0 → F false (mv h k y) = decide ((h.sum - 1) % 2 = 0) := by
        intro k hk h0 y hy
        have hs := ones_split hk
        rw [c] at hs
        have hs := Bool.and_eq_true_iff.mp hs.symm
        have hs1 := Bool.and_eq_true_iff.mp hs.1
        have h1 := of_decide_eq_true hs1.2
        have om : ones (mv h k y) = true := by rw [ones_mv, hs1.1, hs.2, decide_eq_true (by omega)]; rfl
        have sm := sum_mv hk y
        unfold F
        rw [if_neg (by decide), if_pos om]
        congr 2
        have := getD_le_sum h k
        omega
      rw [fh]
      rcases Nat.eq_zero_or_pos h.sum with z | z
      · rw [z]
        simp
      · constructor
        · intro e
          have e := of_decide_eq_true e
          obtain ⟨k, hk, h0⟩ := pos_ex z
          refine .inr ⟨k, hk, 0, h0, ?_⟩
          rw [key k hk h0 0 h0, decide_eq_false]
          omega
        · rintro (⟨e, _⟩ | ⟨k, hk, y, hy, e⟩)
          · omega
          · rw [key k hk (by omega) y hy] at e
            have := of_decide_eq_false e
            exact decide_eq_true (by omega)
    · have fh : F false h = decide (xr h ≠ 0) := by unfold F; rw [if_neg (by decide), if_neg c]
      have z : h.sum ≠ 0 := by
        intro e
        apply c
        unfold ones
        rw [List.all_eq_true]
        intro x hx
        obtain ⟨k, hk, e2⟩ := List.mem_iff_getElem.mp hx
        have := getD_le_sum h k
        rw [List.getD_eq_getElem?_getD, List.getElem?_eq_getElem hk] at this
        have : x ≤ h.sum := by rw [← e2]; exact this
        exact decide_eq_true (by omega)
      rw [fh]
      constructor
      · intro e
        have e : xr h ≠ 0 := of_decide_eq_true e
        obtain ⟨k, hk, hl⟩ := ex_move _ h rfl e
        have x0 : xr (mv h k (h.getD k 0 ^^^ xr h)) = 0 := by rw [xr_mv hk, Nat.xor_self]
        by_cases c2 : ones (mv h k (h.getD k 0 ^^^ xr h)) = true
        · rw [ones_mv] at c2
          have c3 := Bool.and_eq_true_iff.mp c2
          have c4 := Bool.and_eq_true_iff.mp c3.1
          have hb : 2 ≤ h.getD k 0 := by
            false_or_by_contra
            apply c
            rw [ones_split hk, c4.1, c3.2, decide_eq_true (by omega)]
            rfl
          have om : ∀ y, y ≤ 1 → ones (mv h k y) = true := fun y hy => by rw [ones_mv, c4.1, c3.2, decide_eq_true hy]; rfl
          have pick : ∃ y, y ≤ 1 ∧ (mv h k y).sum % 2 = 1 := by
            have s0 := sum_mv hk 0
            have s1 := sum_mv hk 1
            by_cases p : (mv h k 0).sum % 2 = 1
            · exact ⟨0, by omega, p⟩
            · exact ⟨1, by omega, by omega⟩
          obtain ⟨y, hy, hp⟩ := pick
          refine .inr ⟨k, hk, y, by omega, ?_⟩
          unfold F
          rw [if_neg (by decide), if_pos (om y hy), decide_eq_false (by omega)]
        · refine .inr ⟨k, hk, _, hl, ?_⟩
          unfold F
          rw [if_neg (by decide), if_neg c2, x0]
          rfl
      · rintro (⟨e, _⟩ | ⟨k, hk, y, hy, e⟩)
        · exact absurd e z
        · refine decide_eq_true fun h0 => ?_
          have xm := xr_mv hk y
          rw [h0, Nat.xor_zero] at xm
          have xm0 : xr (mv h k y) ≠ 0 := fun q => by
            rw [q] at xm
            have := xor_eq_zero xm.symm
            omega
          by_cases c2 : ones (mv h k y) = true
          · rw [ones_mv] at c2
            have c3 := Bool.and_eq_true_iff.mp c2
            have c4 := Bool.and_eq_true_iff.mp c3.1
            have hb : 2 ≤ h.getD k 0 := by
              false_or_by_contra
              apply c
              rw [ones_split hk, c4.1, c3.2, decide_eq_true (by omega)]
              rfl
            have := xr_split hk
            rw [h0] at this
            have e2 := xor_eq_zero this.symm
            have := ones_xr (h.take k ++ h.drop (k + 1)) (by rw [ones_app, c4.1, c3.2]; rfl)
            omega
          · unfold F at e
            rw [if_neg (by decide), if_neg c2, decide_eq_true xm0] at e
            cases e
theorem F_perm {lw : Bool} {a b : List Nat} (h : a.Perm b) : F lw a = F lw b := by
  unfold F ones
  rw [xr_perm h, h.sum_nat, h.all_eq]
/-! the told move -/
def hmP (s : Nat) (h : List Nat) : Nat → Option (Nat × Nat)
  | 0 => none
  | k + 1 => match hmP s h k with
    | some p => some p
    | none => if (s ^^^ h.getD k 0) < h.getD k 0 then some (k, s ^^^ h.getD k 0) else none
def hm (h : List Nat) : Option (Nat × Nat) := hmP (xr h) h h.length
theorem hmP_keep {s : Nat} {h : List Nat} {p : Nat × Nat} {k : Nat} (e : hmP s h k = some p) : ∀ j, k ≤ j → hmP s h j = some p := by
  intro j hj
  induction hj with
  | refl => exact e
  | step _ ih =>
    unfold hmP
    rw [ih]
theorem hm_none {s : Nat} {h : List Nat} : ∀ k, hmP s h k = none ↔ ∀ j, j < k → ¬ (s ^^^ h.getD j 0) < h.getD j 0
  | 0 => by simp [hmP]
  | k + 1 => by
    have ih := hm_none (s := s) (h := h) k
    unfold hmP
    cases e : hmP s h k with
    | some p =>
      simp only [reduceCtorEq, false_iff]
      rw [e] at ih
      intro q
      exact absurd (ih.mpr fun j hj => q j (by omega)) (by simp)
    | none =>
      rw [e] at ih
      have ih := ih.mp rfl
      constructor
      · intro q j hj
        by_cases c : j = k
        · subst c
          intro hl
          simp only [if_pos hl] at q
          cases q
        · exact ih j (by omega)
      · intro q
        simp only [if_neg (q k (by omega))]
theorem hm_iff (h : List Nat) : (hm h).isSome = F true h := by
  have : hm h = none ↔ xr h = 0 := by
    unfold hm
    rw [hm_none]
    constructor
    · intro q
      false_or_by_contra
      rename_i h0
      obtain ⟨k, hk, hl⟩ := ex_move _ h rfl h0
      rw [Nat.xor_comm] at hl
      exact q k hk hl
    · intro h0 j hj
      rw [h0, Nat.zero_xor]
      omega
  unfold F
  rw [if_pos rfl]
  cases e : hm h with
  | none => rw [decide_eq_false (by simpa using this.mp e)]; rfl
  | some p =>
    rw [decide_eq_true]
    · rfl
    · intro h0
      rw [this.mpr h0] at e
      cases e
end K79
set_option linter.all false
set_option maxRecDepth 100000
set_option maxHeartbeats 4000000
namespace K79
open DL
@[reducible] def sp_take : Spc := fun ds S Q => ∃ n many, ds = [.ref n, .int many] ∧ 0 < many ∧ Dr n S ∧ ∀ r S', 0 ≤ r → r < many → Dr n S' → Ch n S S' → Q (.int r) S'
theorem body_law_take : Body 2 2 w_law_take sp_take := by
  rintro ds S Q _ ⟨n, many, rfl, hm, ⟨ns, hS⟩, k⟩
  unfold w_law_take
  (simp only [start, List.map_cons, List.map_nil, List.length_cons, List.length_nil, Nat.reduceAdd, Nat.reduceSub, List.replicate_succ, List.replicate_zero, List.cons_append, List.nil_append, Nat.sub_self, Nat.zero_add])
  ((with_reducible conv => whnf); repeat (first | (refine And.intro (okII _ _) ?_; rw [eqD_ii]; with_reducible conv => whnf) | (refine And.intro (by first | assumption | exact Exists.intro _ (by assumption) | exact ⟨rfl, rfl, by decide, by decide⟩ | exact Nat.le_of_ble_eq_true rfl | exact rfl) ?_; with_reducible conv => whnf) | (rw [isLst_at (by assumption)]; with_reducible conv => whnf) | (refine ifT rfl ?_; with_reducible conv => whnf) | (refine ifF rfl ?_; with_reducible conv => whnf) | (refine it_at (by assumption) ?_; with_reducible conv => whnf)))
  refine ite_d (fun hc => k 0 S (Int.le_refl _) hm ⟨ns, hS⟩ (Ch.refl _ _)) fun hc => ?_
  ((with_reducible conv => whnf); repeat (first | (refine And.intro (okII _ _) ?_; rw [eqD_ii]; with_reducible conv => whnf) | (refine And.intro (by first | assumption | exact Exists.intro _ (by assumption) | exact ⟨rfl, rfl, by decide, by decide⟩ | exact Nat.le_of_ble_eq_true rfl | exact rfl) ?_; with_reducible conv => whnf) | (rw [isLst_at (by assumption)]; with_reducible conv => whnf) | (refine ifT rfl ?_; with_reducible conv => whnf) | (refine ifF rfl ?_; with_reducible conv => whnf) | (refine it_at (by assumption) ?_; with_reducible conv => whnf)))
  have hl : 0 < ns.length := by
    rw [List.length_map] at hc
    omega
  refine ⟨.int ns[ns.length - 1], ?_, ?_⟩
  · rw [List.length_map]
    exact intD_at (List.getElem?_eq_getElem (by omega))
  · ((with_reducible conv => whnf); repeat (first | (refine And.intro (okII _ _) ?_; rw [eqD_ii]; with_reducible conv => whnf) | (refine And.intro (by first | assumption | exact Exists.intro _ (by assumption) | exact ⟨rfl, rfl, by decide, by decide⟩ | exact Nat.le_of_ble_eq_true rfl | exact rfl) ?_; with_reducible conv => whnf) | (rw [isLst_at (by assumption)]; with_reducible conv => whnf) | (refine ifT rfl ?_; with_reducible conv => whnf) | (refine ifF rfl ?_; with_reducible conv => whnf) | (refine it_at (by assumption) ?_; with_reducible conv => whnf)))
    obtain ⟨h0, h1⟩ := fmod_lt (a := ns[ns.length - 1]) hm
    refine ⟨by omega, k _ _ h0 h1 ⟨ns.dropLast, ?_⟩ (Ch.set _ _)⟩
    rw [at_set hS, ← List.map_dropLast]
@[reducible] def sp_draws : Spc := fun ds S Q => ∃ ns many, ds = [.rol (intD ns), .int many] ∧ ns.length ≤ 63 ∧ 0 ≤ many ∧ many ≤ 1000 ∧ ∀ n S', Dr n S' → Sub S S' → S.length ≤ n → Q (.ref n) S'
theorem body_law_draws : Body 9 2 w_law_draws sp_draws := by
  rintro ds S Q _ ⟨ns, many, rfl, hl, hm, hm2, k⟩
  unfold w_law_draws
  (simp only [start, List.map_cons, List.map_nil, List.length_cons, List.length_nil, Nat.reduceAdd, Nat.reduceSub, List.replicate_succ, List.replicate_zero, List.cons_append, List.nil_append, Nat.sub_self, Nat.zero_add])
  ((with_reducible conv => whnf); repeat (first | (refine And.intro (okII _ _) ?_; rw [eqD_ii]; with_reducible conv => whnf) | (refine And.intro (by first | assumption | exact Exists.intro _ (by assumption) | exact ⟨rfl, rfl, by decide, by decide⟩ | exact Nat.le_of_ble_eq_true rfl | exact rfl) ?_; with_reducible conv => whnf) | (rw [isLst_at (by assumption)]; with_reducible conv => whnf) | (refine ifT rfl ?_; with_reducible conv => whnf) | (refine ifF rfl ?_; with_reducible conv => whnf) | (refine it_at (by assumption) ?_; with_reducible conv => whnf)))
  refine Lc_fun (fun d => some d) ?_ (fun _ _ => trivial) (fun i d S' R hi hs hR => ?_) fun S1 hs1 => ?_
  · rw [List.length_map]; unfold szL; omega
  · obtain ⟨x, _, rfl⟩ := intD_get hi
    ((with_reducible conv => whnf); repeat (first | (refine And.intro (okII _ _) ?_; rw [eqD_ii]; with_reducible conv => whnf) | (refine And.intro (by first | assumption | exact Exists.intro _ (by assumption) | exact ⟨rfl, rfl, by decide, by decide⟩ | exact Nat.le_of_ble_eq_true rfl | exact rfl) ?_; with_reducible conv => whnf) | (rw [isLst_at (by assumption)]; with_reducible conv => whnf) | (refine ifT rfl ?_; with_reducible conv => whnf) | (refine ifF rfl ?_; with_reducible conv => whnf) | (refine it_at (by assumption) ?_; with_reducible conv => whnf)))
    exact hR _ (Sub.refl _)
  rw [List.filterMap_some]
  have h2 := at_push S1 (.lst (intD ns))
  have hS1 := hs1.app [.lst (intD ns)]
  have hln : S.length ≤ S1.length := by
    false_or_by_contra
    rename_i hc
    cases S with
    | nil => simp at hc
    | cons o r =>
      have := at_lt (hs1 ((o :: r).length - 1) _ (List.getElem?_eq_getElem (by simp)))
      simp at this hc
      omega
  generalize hm0 : S1.length = m0 at *
  generalize S1 ++ [.lst (intD ns)] = S2 at *
  -- from here: cells cs at m0
  have main : ∀ (cs : List Int) S3, 0 < cs.length → cs.length ≤ 63 → S3[m0]? = some (.lst (intD cs)) → Sub S S3 → sSeq (sAsg (wB rList (wCons (wVar 2) wNil)) (gN 4))
    (sSeq (sAsg (wLst wNil) (gN 5))
    (sSeq (sFor (wR1 (wVar 1)) (gN 6) (sSeq (sAsg (wOp rMod (wVar 6) (wB rLen (wCons (wVar 2) wNil))) (gN 7))
    (sIf (wtAnd (wtVal (wOp rGe (wOp rIx (wVar 2) (wVar 7)) (wOp rPow (wC (.int 10)) (wC (.int 18))))) (wtVal (wOp rGt (wOp rIx (wVar 4) (wVar 7)) (wC (.int 0))))) (sSeq (sDrop (wM rAppend (wVar 5) (wCons (wOp rMod (wB rInt (wCons (wOp rIx (wVar 4) (wVar 7)) wNil)) (wC (.int 1000))) wNil)))
    (sSub rPut (wOp rDiv (wOp rIx (wVar 4) (wVar 7)) (wC (.int 1000))) (wVar 4) (wVar 7))) (sSeq (sAsg (wOp rMod (wB rInt (wCons (wOp rAdd (wOp rAdd (wOp rMul (wOp rIx (wVar 2) (wVar 7)) (wC (.int 48271))) (wOp rMul (wVar 6) (wC (.int 69621)))) (wC (.int 11))) wNil)) (wC (.int 2147483647))) (gN 8))
    (sDrop (wM rAppend (wVar 5) (wCons (wOp rMod (wB rInt (wCons (wOp rAdd (wOp rAdd (wOp rMul (wVar 8) (wVar 8)) (wOp rMul (wC (.int 3)) (wVar 8))) (wVar 6)) wNil)) (wC (.int 1000003))) wNil)))))))
    (sSeq (sDrop (wM0 rReverse (wVar 5)))
    (sRet (wVar 5))))) { nx := fun x S' => Q D.non S', rt := Q, bk := fun x x_1 => False, ct := fun x x_1 => False } [some (.rol (intD ns)), some (.int many), some (.ref m0), none, none, none, none, none, none] S3 := by
    intro cs S3 hc0 hc1 e3 s3
    ((with_reducible conv => whnf); repeat (first | (refine And.intro (okII _ _) ?_; rw [eqD_ii]; with_reducible conv => whnf) | (refine And.intro (by first | assumption | exact Exists.intro _ (by assumption) | exact ⟨rfl, rfl, by decide, by decide⟩ | exact Nat.le_of_ble_eq_true rfl | exact rfl) ?_; with_reducible conv => whnf) | (rw [isLst_at (by assumption)]; with_reducible conv => whnf) | (refine ifT rfl ?_; with_reducible conv => whnf) | (refine ifF rfl ?_; with_reducible conv => whnf) | (refine it_at (by assumption) ?_; with_reducible conv => whnf)))
    refine ⟨⟨by omega, by omega⟩, ?_⟩
    have e4 := push_at e3 [.lst (intD cs)]
    have e5 := at_push S3 (.lst (intD cs))
    have s4 := s3.app [.lst (intD cs)]
    have l3 := at_lt e3
    generalize hm4 : S3.length = m4 at *
    have hm5 : (S3 ++ [O.lst (intD cs)]).length = m4 + 1 := by simp [hm4]
    generalize S3 ++ [.lst (intD cs)] = S4 at *
    have e6 := push_at e4 [.lst []]
    have e7 := push_at e5 [.lst []]
    have e8 := at_push S4 (.lst [])
    have s5 := s4.app [.lst []]
    rw [hm5] at e8 ⊢
    generalize S4 ++ [.lst []] = S5 at *
    refine Loop_mk (fun i ρ S' => ∃ o6 o7 o8 rs ws, ρ = [some (.rol (intD ns)), some (.int many), some (.ref m0), none, some (.ref m4), some (.ref (m4 + 1)), o6, o7, o8] ∧ S'[m0]? = some (.lst (intD cs)) ∧ S'[m4]? = some (.lst (intD rs)) ∧ rs.length = cs.length ∧ S'[m4 + 1]? = some (.lst (intD ws)) ∧ ws.length = i ∧ Sub S S') ?_ ?_ ?_ ?_
    · exact ⟨none, none, none, cs, [], rfl, e6, e7, rfl, e8, rfl, s5⟩
    · intros; trivial
    · rintro i d ρ' S' hi ⟨o6, o7, o8, rs, ws, rfl, f0, f1, f2, f3, f4, f5⟩
      obtain ⟨hi1, rfl⟩ := rangeD_get hi
      ((with_reducible conv => whnf); repeat (first | (refine And.intro (okII _ _) ?_; rw [eqD_ii]; with_reducible conv => whnf) | (refine And.intro (by first | assumption | exact Exists.intro _ (by assumption) | exact ⟨rfl, rfl, by decide, by decide⟩ | exact Nat.le_of_ble_eq_true rfl | exact rfl) ?_; with_reducible conv => whnf) | (rw [isLst_at (by assumption)]; with_reducible conv => whnf) | (refine ifT rfl ?_; with_reducible conv => whnf) | (refine ifF rfl ?_; with_reducible conv => whnf) | (refine it_at (by assumption) ?_; with_reducible conv => whnf)))
      have hz : ((intD cs).length : Int) ≠ 0 := by rw [List.length_map]; omega
      have hz0 : (0 : Int) < ((intD cs).length : Int) := by rw [List.length_map]; omega
      obtain ⟨g0, g1⟩ := fmod_lt (a := 0 + (i : Int)) hz0
      refine ⟨hz, ?_⟩
      generalize hat : (0 + (i : Int)).fmod ((intD cs).length : Int) = at' at *
      rw [List.length_map] at g1
      ((with_reducible conv => whnf); repeat (first | (refine And.intro (okII _ _) ?_; rw [eqD_ii]; with_reducible conv => whnf) | (refine And.intro (by first | assumption | exact Exists.intro _ (by assumption) | exact ⟨rfl, rfl, by decide, by decide⟩ | exact Nat.le_of_ble_eq_true rfl | exact rfl) ?_; with_reducible conv => whnf) | (rw [isLst_at (by assumption)]; with_reducible conv => whnf) | (refine ifT rfl ?_; with_reducible conv => whnf) | (refine ifF rfl ?_; with_reducible conv => whnf) | (refine it_at (by assumption) ?_; with_reducible conv => whnf)))
      refine ⟨_, atZ_intD g0 g1, ?_⟩
      ((with_reducible conv => whnf); repeat (first | (refine And.intro (okII _ _) ?_; rw [eqD_ii]; with_reducible conv => whnf) | (refine And.intro (by first | assumption | exact Exists.intro _ (by assumption) | exact ⟨rfl, rfl, by decide, by decide⟩ | exact Nat.le_of_ble_eq_true rfl | exact rfl) ?_; with_reducible conv => whnf) | (rw [isLst_at (by assumption)]; with_reducible conv => whnf) | (refine ifT rfl ?_; with_reducible conv => whnf) | (refine ifF rfl ?_; with_reducible conv => whnf) | (refine it_at (by assumption) ?_; with_reducible conv => whnf)))
      refine ⟨⟨by omega, by omega, by decide⟩, ?_⟩
      ((with_reducible conv => whnf); repeat (first | (refine And.intro (okII _ _) ?_; rw [eqD_ii]; with_reducible conv => whnf) | (refine And.intro (by first | assumption | exact Exists.intro _ (by assumption) | exact ⟨rfl, rfl, by decide, by decide⟩ | exact Nat.le_of_ble_eq_true rfl | exact rfl) ?_; with_reducible conv => whnf) | (rw [isLst_at (by assumption)]; with_reducible conv => whnf) | (refine ifT rfl ?_; with_reducible conv => whnf) | (refine ifF rfl ?_; with_reducible conv => whnf) | (refine it_at (by assumption) ?_; with_reducible conv => whnf)))
      have push : ∀ (c : Int) o7 o8 rs, S'[m4]? = some (.lst (intD rs)) → rs.length = cs.length → ∀ S6, S6 = S'.set (m4 + 1) (.lst (intD (ws ++ [c]))) → ∃ o6' o7' o8' rs' ws', [some (D.rol (intD ns)), some (D.int many), some (D.ref m0), none, some (D.ref m4), some (D.ref (m4 + 1)), some (.int (0 + i)), o7, o8] =
          [some (D.rol (intD ns)), some (D.int many), some (D.ref m0), none, some (D.ref m4), some (D.ref (m4 + 1)), o6', o7', o8'] ∧ S6[m0]? = some (.lst (intD cs)) ∧ S6[m4]? = some (.lst (intD rs')) ∧ rs'.length = cs.length ∧ S6[m4 + 1]? = some (.lst (intD ws')) ∧ ws'.length = i + 1 ∧ Sub S S6 := by
        rintro c o7 o8 rs q1 q2 S6 rfl
        refine ⟨_, _, _, rs, ws ++ [c], rfl, ?_, ?_, q2, ?_, by simp [f4], f5.put (by omega)⟩
        · rw [at_set_ne (by omega), f0]
        · rw [at_set_ne (by omega), q1]
        · rw [at_set f3]
      have hw : (intD ws).length < szL := by rw [List.length_map]; unfold szL; omega
      have hw2 : ∀ c : Int, intD ws ++ [D.int c] = intD (ws ++ [c]) := fun c => by simp [intD]
      refine ite_i (fun hc => ?_) fun hc => ?_
      · ((with_reducible conv => whnf); repeat (first | (refine And.intro (okII _ _) ?_; rw [eqD_ii]; with_reducible conv => whnf) | (refine And.intro (by first | assumption | exact Exists.intro _ (by assumption) | exact ⟨rfl, rfl, by decide, by decide⟩ | exact Nat.le_of_ble_eq_true rfl | exact rfl) ?_; with_reducible conv => whnf) | (rw [isLst_at (by assumption)]; with_reducible conv => whnf) | (refine ifT rfl ?_; with_reducible conv => whnf) | (refine ifF rfl ?_; with_reducible conv => whnf) | (refine it_at (by assumption) ?_; with_reducible conv => whnf)))
        refine ⟨_, atZ_intD g0 (by rw [f2]; exact g1), ?_⟩
        ((with_reducible conv => whnf); repeat (first | (refine And.intro (okII _ _) ?_; rw [eqD_ii]; with_reducible conv => whnf) | (refine And.intro (by first | assumption | exact Exists.intro _ (by assumption) | exact ⟨rfl, rfl, by decide, by decide⟩ | exact Nat.le_of_ble_eq_true rfl | exact rfl) ?_; with_reducible conv => whnf) | (rw [isLst_at (by assumption)]; with_reducible conv => whnf) | (refine ifT rfl ?_; with_reducible conv => whnf) | (refine ifF rfl ?_; with_reducible conv => whnf) | (refine it_at (by assumption) ?_; with_reducible conv => whnf)))
        refine ite_d (fun hc2 => ?_) fun hc2 => ?_
        · ((with_reducible conv => whnf); repeat (first | (refine And.intro (okII _ _) ?_; rw [eqD_ii]; with_reducible conv => whnf) | (refine And.intro (by first | assumption | exact Exists.intro _ (by assumption) | exact ⟨rfl, rfl, by decide, by decide⟩ | exact Nat.le_of_ble_eq_true rfl | exact rfl) ?_; with_reducible conv => whnf) | (rw [isLst_at (by assumption)]; with_reducible conv => whnf) | (refine ifT rfl ?_; with_reducible conv => whnf) | (refine ifF rfl ?_; with_reducible conv => whnf) | (refine it_at (by assumption) ?_; with_reducible conv => whnf)))
          refine ⟨_, atZ_intD g0 (by rw [f2]; exact g1), ?_⟩
          ((with_reducible conv => whnf); repeat (first | (refine And.intro (okII _ _) ?_; rw [eqD_ii]; with_reducible conv => whnf) | (refine And.intro (by first | assumption | exact Exists.intro _ (by assumption) | exact ⟨rfl, rfl, by decide, by decide⟩ | exact Nat.le_of_ble_eq_true rfl | exact rfl) ?_; with_reducible conv => whnf) | (rw [isLst_at (by assumption)]; with_reducible conv => whnf) | (refine ifT rfl ?_; with_reducible conv => whnf) | (refine ifF rfl ?_; with_reducible conv => whnf) | (refine it_at (by assumption) ?_; with_reducible conv => whnf)))
          refine ⟨by decide, ?_⟩
          ((with_reducible conv => whnf); repeat (first | (refine And.intro (okII _ _) ?_; rw [eqD_ii]; with_reducible conv => whnf) | (refine And.intro (by first | assumption | exact Exists.intro _ (by assumption) | exact ⟨rfl, rfl, by decide, by decide⟩ | exact Nat.le_of_ble_eq_true rfl | exact rfl) ?_; with_reducible conv => whnf) | (rw [isLst_at (by assumption)]; with_reducible conv => whnf) | (refine ifT rfl ?_; with_reducible conv => whnf) | (refine ifF rfl ?_; with_reducible conv => whnf) | (refine it_at (by assumption) ?_; with_reducible conv => whnf)))
          rw [hw2]
          have q4 : (S'.set (m4 + 1) (.lst (intD (ws ++ [(rs.getD at'.toNat 0).fmod 1000]))))[m4]? = some (.lst (intD rs)) := by rw [at_set_ne (by omega), f1]
          ((with_reducible conv => whnf); repeat (first | (refine And.intro (okII _ _) ?_; rw [eqD_ii]; with_reducible conv => whnf) | (refine And.intro (by first | assumption | exact Exists.intro _ (by assumption) | exact ⟨rfl, rfl, by decide, by decide⟩ | exact Nat.le_of_ble_eq_true rfl | exact rfl) ?_; with_reducible conv => whnf) | (rw [isLst_at (by assumption)]; with_reducible conv => whnf) | (refine ifT rfl ?_; with_reducible conv => whnf) | (refine ifF rfl ?_; with_reducible conv => whnf) | (refine it_at (by assumption) ?_; with_reducible conv => whnf)))
          refine ⟨_, atZ_intD g0 (by rw [f2]; exact g1), ?_⟩
          ((with_reducible conv => whnf); repeat (first | (refine And.intro (okII _ _) ?_; rw [eqD_ii]; with_reducible conv => whnf) | (refine And.intro (by first | assumption | exact Exists.intro _ (by assumption) | exact ⟨rfl, rfl, by decide, by decide⟩ | exact Nat.le_of_ble_eq_true rfl | exact rfl) ?_; with_reducible conv => whnf) | (rw [isLst_at (by assumption)]; with_reducible conv => whnf) | (refine ifT rfl ?_; with_reducible conv => whnf) | (refine ifF rfl ?_; with_reducible conv => whnf) | (refine it_at (by assumption) ?_; with_reducible conv => whnf)))
          refine ⟨⟨by decide, by decide⟩, ?_⟩
          ((with_reducible conv => whnf); repeat (first | (refine And.intro (okII _ _) ?_; rw [eqD_ii]; with_reducible conv => whnf) | (refine And.intro (by first | assumption | exact Exists.intro _ (by assumption) | exact ⟨rfl, rfl, by decide, by decide⟩ | exact Nat.le_of_ble_eq_true rfl | exact rfl) ?_; with_reducible conv => whnf) | (rw [isLst_at (by assumption)]; with_reducible conv => whnf) | (refine ifT rfl ?_; with_reducible conv => whnf) | (refine ifF rfl ?_; with_reducible conv => whnf) | (refine it_at (by assumption) ?_; with_reducible conv => whnf)))
          refine ⟨_, ixZ_ok g0 (by rw [List.length_map, f2]; exact g1), ?_⟩
          ((with_reducible conv => whnf); repeat (first | (refine And.intro (okII _ _) ?_; rw [eqD_ii]; with_reducible conv => whnf) | (refine And.intro (by first | assumption | exact Exists.intro _ (by assumption) | exact ⟨rfl, rfl, by decide, by decide⟩ | exact Nat.le_of_ble_eq_true rfl | exact rfl) ?_; with_reducible conv => whnf) | (rw [isLst_at (by assumption)]; with_reducible conv => whnf) | (refine ifT rfl ?_; with_reducible conv => whnf) | (refine ifF rfl ?_; with_reducible conv => whnf) | (refine it_at (by assumption) ?_; with_reducible conv => whnf)))
          rw [intD_set]
          obtain ⟨a1, a2, a3, a4, a5, a6, a7, a8, a9, a10, a11, a12⟩ := push ((rs.getD at'.toNat 0).fmod 1000) (some (.int at')) o8 rs f1 f2 _ rfl
          refine ⟨_, _, _, rs.set at'.toNat _, a5, rfl, ?_, at_set a8, by rw [List.length_set, f2], ?_, a11, a12.put (by omega)⟩
          · rw [at_set_ne (by omega), a7]
          · rw [at_set_ne (by omega), a10]
        · ((with_reducible conv => whnf); repeat (first | (refine And.intro (okII _ _) ?_; rw [eqD_ii]; with_reducible conv => whnf) | (refine And.intro (by first | assumption | exact Exists.intro _ (by assumption) | exact ⟨rfl, rfl, by decide, by decide⟩ | exact Nat.le_of_ble_eq_true rfl | exact rfl) ?_; with_reducible conv => whnf) | (rw [isLst_at (by assumption)]; with_reducible conv => whnf) | (refine ifT rfl ?_; with_reducible conv => whnf) | (refine ifF rfl ?_; with_reducible conv => whnf) | (refine it_at (by assumption) ?_; with_reducible conv => whnf)))
          refine ⟨_, atZ_intD g0 g1, ?_⟩
          ((with_reducible conv => whnf); repeat (first | (refine And.intro (okII _ _) ?_; rw [eqD_ii]; with_reducible conv => whnf) | (refine And.intro (by first | assumption | exact Exists.intro _ (by assumption) | exact ⟨rfl, rfl, by decide, by decide⟩ | exact Nat.le_of_ble_eq_true rfl | exact rfl) ?_; with_reducible conv => whnf) | (rw [isLst_at (by assumption)]; with_reducible conv => whnf) | (refine ifT rfl ?_; with_reducible conv => whnf) | (refine ifF rfl ?_; with_reducible conv => whnf) | (refine it_at (by assumption) ?_; with_reducible conv => whnf)))
          refine ⟨smallMul (by decide), ?_⟩
          ((with_reducible conv => whnf); repeat (first | (refine And.intro (okII _ _) ?_; rw [eqD_ii]; with_reducible conv => whnf) | (refine And.intro (by first | assumption | exact Exists.intro _ (by assumption) | exact ⟨rfl, rfl, by decide, by decide⟩ | exact Nat.le_of_ble_eq_true rfl | exact rfl) ?_; with_reducible conv => whnf) | (rw [isLst_at (by assumption)]; with_reducible conv => whnf) | (refine ifT rfl ?_; with_reducible conv => whnf) | (refine ifF rfl ?_; with_reducible conv => whnf) | (refine it_at (by assumption) ?_; with_reducible conv => whnf)))
          refine ⟨smallMul (by decide), ?_⟩
          ((with_reducible conv => whnf); repeat (first | (refine And.intro (okII _ _) ?_; rw [eqD_ii]; with_reducible conv => whnf) | (refine And.intro (by first | assumption | exact Exists.intro _ (by assumption) | exact ⟨rfl, rfl, by decide, by decide⟩ | exact Nat.le_of_ble_eq_true rfl | exact rfl) ?_; with_reducible conv => whnf) | (rw [isLst_at (by assumption)]; with_reducible conv => whnf) | (refine ifT rfl ?_; with_reducible conv => whnf) | (refine ifF rfl ?_; with_reducible conv => whnf) | (refine it_at (by assumption) ?_; with_reducible conv => whnf)))
          refine ⟨by decide, ?_⟩
          ((with_reducible conv => whnf); repeat (first | (refine And.intro (okII _ _) ?_; rw [eqD_ii]; with_reducible conv => whnf) | (refine And.intro (by first | assumption | exact Exists.intro _ (by assumption) | exact ⟨rfl, rfl, by decide, by decide⟩ | exact Nat.le_of_ble_eq_true rfl | exact rfl) ?_; with_reducible conv => whnf) | (rw [isLst_at (by assumption)]; with_reducible conv => whnf) | (refine ifT rfl ?_; with_reducible conv => whnf) | (refine ifF rfl ?_; with_reducible conv => whnf) | (refine it_at (by assumption) ?_; with_reducible conv => whnf)))
          obtain ⟨h0, h1⟩ := fmod_lt (a := (cs.getD at'.toNat 0) * 48271 + (0 + (i : Int)) * 69621 + 11) (b := 2147483647) (by decide)
          refine ⟨smallMul (by omega), ?_⟩
          ((with_reducible conv => whnf); repeat (first | (refine And.intro (okII _ _) ?_; rw [eqD_ii]; with_reducible conv => whnf) | (refine And.intro (by first | assumption | exact Exists.intro _ (by assumption) | exact ⟨rfl, rfl, by decide, by decide⟩ | exact Nat.le_of_ble_eq_true rfl | exact rfl) ?_; with_reducible conv => whnf) | (rw [isLst_at (by assumption)]; with_reducible conv => whnf) | (refine ifT rfl ?_; with_reducible conv => whnf) | (refine ifF rfl ?_; with_reducible conv => whnf) | (refine it_at (by assumption) ?_; with_reducible conv => whnf)))
          refine ⟨smallMul' (by decide), ?_⟩
          ((with_reducible conv => whnf); repeat (first | (refine And.intro (okII _ _) ?_; rw [eqD_ii]; with_reducible conv => whnf) | (refine And.intro (by first | assumption | exact Exists.intro _ (by assumption) | exact ⟨rfl, rfl, by decide, by decide⟩ | exact Nat.le_of_ble_eq_true rfl | exact rfl) ?_; with_reducible conv => whnf) | (rw [isLst_at (by assumption)]; with_reducible conv => whnf) | (refine ifT rfl ?_; with_reducible conv => whnf) | (refine ifF rfl ?_; with_reducible conv => whnf) | (refine it_at (by assumption) ?_; with_reducible conv => whnf)))
          refine ⟨by decide, ?_⟩
          ((with_reducible conv => whnf); repeat (first | (refine And.intro (okII _ _) ?_; rw [eqD_ii]; with_reducible conv => whnf) | (refine And.intro (by first | assumption | exact Exists.intro _ (by assumption) | exact ⟨rfl, rfl, by decide, by decide⟩ | exact Nat.le_of_ble_eq_true rfl | exact rfl) ?_; with_reducible conv => whnf) | (rw [isLst_at (by assumption)]; with_reducible conv => whnf) | (refine ifT rfl ?_; with_reducible conv => whnf) | (refine ifF rfl ?_; with_reducible conv => whnf) | (refine it_at (by assumption) ?_; with_reducible conv => whnf)))
          rw [hw2]
          exact push _ _ _ rs f1 f2 _ rfl
      · ((with_reducible conv => whnf); repeat (first | (refine And.intro (okII _ _) ?_; rw [eqD_ii]; with_reducible conv => whnf) | (refine And.intro (by first | assumption | exact Exists.intro _ (by assumption) | exact ⟨rfl, rfl, by decide, by decide⟩ | exact Nat.le_of_ble_eq_true rfl | exact rfl) ?_; with_reducible conv => whnf) | (rw [isLst_at (by assumption)]; with_reducible conv => whnf) | (refine ifT rfl ?_; with_reducible conv => whnf) | (refine ifF rfl ?_; with_reducible conv => whnf) | (refine it_at (by assumption) ?_; with_reducible conv => whnf)))
        refine ⟨_, atZ_intD g0 g1, ?_⟩
        ((with_reducible conv => whnf); repeat (first | (refine And.intro (okII _ _) ?_; rw [eqD_ii]; with_reducible conv => whnf) | (refine And.intro (by first | assumption | exact Exists.intro _ (by assumption) | exact ⟨rfl, rfl, by decide, by decide⟩ | exact Nat.le_of_ble_eq_true rfl | exact rfl) ?_; with_reducible conv => whnf) | (rw [isLst_at (by assumption)]; with_reducible conv => whnf) | (refine ifT rfl ?_; with_reducible conv => whnf) | (refine ifF rfl ?_; with_reducible conv => whnf) | (refine it_at (by assumption) ?_; with_reducible conv => whnf)))
        refine ⟨smallMul (by decide), ?_⟩
        ((with_reducible conv => whnf); repeat (first | (refine And.intro (okII _ _) ?_; rw [eqD_ii]; with_reducible conv => whnf) | (refine And.intro (by first | assumption | exact Exists.intro _ (by assumption) | exact ⟨rfl, rfl, by decide, by decide⟩ | exact Nat.le_of_ble_eq_true rfl | exact rfl) ?_; with_reducible conv => whnf) | (rw [isLst_at (by assumption)]; with_reducible conv => whnf) | (refine ifT rfl ?_; with_reducible conv => whnf) | (refine ifF rfl ?_; with_reducible conv => whnf) | (refine it_at (by assumption) ?_; with_reducible conv => whnf)))
        refine ⟨smallMul (by decide), ?_⟩
        ((with_reducible conv => whnf); repeat (first | (refine And.intro (okII _ _) ?_; rw [eqD_ii]; with_reducible conv => whnf) | (refine And.intro (by first | assumption | exact Exists.intro _ (by assumption) | exact ⟨rfl, rfl, by decide, by decide⟩ | exact Nat.le_of_ble_eq_true rfl | exact rfl) ?_; with_reducible conv => whnf) | (rw [isLst_at (by assumption)]; with_reducible conv => whnf) | (refine ifT rfl ?_; with_reducible conv => whnf) | (refine ifF rfl ?_; with_reducible conv => whnf) | (refine it_at (by assumption) ?_; with_reducible conv => whnf)))
        refine ⟨by decide, ?_⟩
        ((with_reducible conv => whnf); repeat (first | (refine And.intro (okII _ _) ?_; rw [eqD_ii]; with_reducible conv => whnf) | (refine And.intro (by first | assumption | exact Exists.intro _ (by assumption) | exact ⟨rfl, rfl, by decide, by decide⟩ | exact Nat.le_of_ble_eq_true rfl | exact rfl) ?_; with_reducible conv => whnf) | (rw [isLst_at (by assumption)]; with_reducible conv => whnf) | (refine ifT rfl ?_; with_reducible conv => whnf) | (refine ifF rfl ?_; with_reducible conv => whnf) | (refine it_at (by assumption) ?_; with_reducible conv => whnf)))
        obtain ⟨h0, h1⟩ := fmod_lt (a := (cs.getD at'.toNat 0) * 48271 + (0 + (i : Int)) * 69621 + 11) (b := 2147483647) (by decide)
        refine ⟨smallMul (by omega), ?_⟩
        ((with_reducible conv => whnf); repeat (first | (refine And.intro (okII _ _) ?_; rw [eqD_ii]; with_reducible conv => whnf) | (refine And.intro (by first | assumption | exact Exists.intro _ (by assumption) | exact ⟨rfl, rfl, by decide, by decide⟩ | exact Nat.le_of_ble_eq_true rfl | exact rfl) ?_; with_reducible conv => whnf) | (rw [isLst_at (by assumption)]; with_reducible conv => whnf) | (refine ifT rfl ?_; with_reducible conv => whnf) | (refine ifF rfl ?_; with_reducible conv => whnf) | (refine it_at (by assumption) ?_; with_reducible conv => whnf)))
        refine ⟨smallMul' (by decide), ?_⟩
        ((with_reducible conv => whnf); repeat (first | (refine And.intro (okII _ _) ?_; rw [eqD_ii]; with_reducible conv => whnf) | (refine And.intro (by first | assumption | exact Exists.intro _ (by assumption) | exact ⟨rfl, rfl, by decide, by decide⟩ | exact Nat.le_of_ble_eq_true rfl | exact rfl) ?_; with_reducible conv => whnf) | (rw [isLst_at (by assumption)]; with_reducible conv => whnf) | (refine ifT rfl ?_; with_reducible conv => whnf) | (refine ifF rfl ?_; with_reducible conv => whnf) | (refine it_at (by assumption) ?_; with_reducible conv => whnf)))
        refine ⟨by decide, ?_⟩
        ((with_reducible conv => whnf); repeat (first | (refine And.intro (okII _ _) ?_; rw [eqD_ii]; with_reducible conv => whnf) | (refine And.intro (by first | assumption | exact Exists.intro _ (by assumption) | exact ⟨rfl, rfl, by decide, by decide⟩ | exact Nat.le_of_ble_eq_true rfl | exact rfl) ?_; with_reducible conv => whnf) | (rw [isLst_at (by assumption)]; with_reducible conv => whnf) | (refine ifT rfl ?_; with_reducible conv => whnf) | (refine ifF rfl ?_; with_reducible conv => whnf) | (refine it_at (by assumption) ?_; with_reducible conv => whnf)))
        rw [hw2]
        exact push _ _ _ rs f1 f2 _ rfl
    · rintro ρ' S' ⟨o6, o7, o8, rs, ws, rfl, f0, f1, f2, f3, f4, f5⟩
      ((with_reducible conv => whnf); repeat (first | (refine And.intro (okII _ _) ?_; rw [eqD_ii]; with_reducible conv => whnf) | (refine And.intro (by first | assumption | exact Exists.intro _ (by assumption) | exact ⟨rfl, rfl, by decide, by decide⟩ | exact Nat.le_of_ble_eq_true rfl | exact rfl) ?_; with_reducible conv => whnf) | (rw [isLst_at (by assumption)]; with_reducible conv => whnf) | (refine ifT rfl ?_; with_reducible conv => whnf) | (refine ifF rfl ?_; with_reducible conv => whnf) | (refine it_at (by assumption) ?_; with_reducible conv => whnf)))
      refine k _ _ ⟨ws.reverse, ?_⟩ (f5.put (by omega)) (by omega)
      rw [at_set f3, ← List.map_reverse]
  ((with_reducible conv => whnf); repeat (first | (refine And.intro (okII _ _) ?_; rw [eqD_ii]; with_reducible conv => whnf) | (refine And.intro (by first | assumption | exact Exists.intro _ (by assumption) | exact ⟨rfl, rfl, by decide, by decide⟩ | exact Nat.le_of_ble_eq_true rfl | exact rfl) ?_; with_reducible conv => whnf) | (rw [isLst_at (by assumption)]; with_reducible conv => whnf) | (refine ifT rfl ?_; with_reducible conv => whnf) | (refine ifF rfl ?_; with_reducible conv => whnf) | (refine it_at (by assumption) ?_; with_reducible conv => whnf)))
  refine ite_d (fun hc => ?_) fun hc => ?_
  · ((with_reducible conv => whnf); repeat (first | (refine And.intro (okII _ _) ?_; rw [eqD_ii]; with_reducible conv => whnf) | (refine And.intro (by first | assumption | exact Exists.intro _ (by assumption) | exact ⟨rfl, rfl, by decide, by decide⟩ | exact Nat.le_of_ble_eq_true rfl | exact rfl) ?_; with_reducible conv => whnf) | (rw [isLst_at (by assumption)]; with_reducible conv => whnf) | (refine ifT rfl ?_; with_reducible conv => whnf) | (refine ifF rfl ?_; with_reducible conv => whnf) | (refine it_at (by assumption) ?_; with_reducible conv => whnf)))
    have hn : ns = [] := by
      rw [List.length_map] at hc
      exact List.length_eq_zero_iff.mp (by omega)
    subst hn
    refine ⟨by decide, ?_⟩
    exact main [0] _ (by decide) (by decide) (at_set h2) (hS1.put hln)
  · rw [List.length_map] at hc
    exact main ns S2 (by omega) hl h2 hS1

@[reducible] def sp_same (N : Nat) : Spc := fun ds S Q => ∃ d, ds = [d, d] ∧ flat d = true ∧ slim d = true ∧ deep d ≤ N ∧ ∀ S', Sub S S' → Q (.bl true) S'
@[reducible] def spNo : Spc := fun _ _ _ => False
theorem body_law_same (sp : Spc) (N : Nat) (hN : N ≤ 60) (hsp : N = 0 ∨ ∃ M, N = M + 1 ∧ sp = sp_same M) : Body 3 2 (w_law_same sp) (sp_same N) := by
  rintro ds S Q _ ⟨d, rfl, hf, hsl, hd, k⟩
  unfold w_law_same
  have hself := eqD_self d hf
  have k0 := k S (Sub.refl _)
  (simp only [start, List.map_cons, List.map_nil, List.length_cons, List.length_nil, Nat.reduceAdd, Nat.reduceSub, List.replicate_succ, List.replicate_zero, List.cons_append, List.nil_append, Nat.sub_self, Nat.zero_add])
  cases d with
  | rol xs => cases hf
  | ref xs => cases hf
  | ty xs => cases hf
  | non =>
    ((with_reducible conv => whnf); repeat (first | (refine And.intro (okII _ _) ?_; rw [eqD_ii]; with_reducible conv => whnf) | (refine And.intro (by first | assumption | exact Exists.intro _ (by assumption) | exact ⟨rfl, rfl, by decide, by decide⟩ | exact Nat.le_of_ble_eq_true rfl | exact rfl) ?_; with_reducible conv => whnf) | (rw [isLst_at (by assumption)]; with_reducible conv => whnf) | (refine ifT rfl ?_; with_reducible conv => whnf) | (refine ifF rfl ?_; with_reducible conv => whnf) | (refine it_at (by assumption) ?_; with_reducible conv => whnf)))
    refine ⟨false, rfl, ?_⟩
    ((with_reducible conv => whnf); repeat (first | (refine And.intro (okII _ _) ?_; rw [eqD_ii]; with_reducible conv => whnf) | (refine And.intro (by first | assumption | exact Exists.intro _ (by assumption) | exact ⟨rfl, rfl, by decide, by decide⟩ | exact Nat.le_of_ble_eq_true rfl | exact rfl) ?_; with_reducible conv => whnf) | (rw [isLst_at (by assumption)]; with_reducible conv => whnf) | (refine ifT rfl ?_; with_reducible conv => whnf) | (refine ifF rfl ?_; with_reducible conv => whnf) | (refine it_at (by assumption) ?_; with_reducible conv => whnf)))
    refine ⟨false, rfl, ?_⟩
    ((with_reducible conv => whnf); repeat (first | (refine And.intro (okII _ _) ?_; rw [eqD_ii]; with_reducible conv => whnf) | (refine And.intro (by first | assumption | exact Exists.intro _ (by assumption) | exact ⟨rfl, rfl, by decide, by decide⟩ | exact Nat.le_of_ble_eq_true rfl | exact rfl) ?_; with_reducible conv => whnf) | (rw [isLst_at (by assumption)]; with_reducible conv => whnf) | (refine ifT rfl ?_; with_reducible conv => whnf) | (refine ifF rfl ?_; with_reducible conv => whnf) | (refine it_at (by assumption) ?_; with_reducible conv => whnf)))
    refine ⟨false, rfl, ?_⟩
    ((with_reducible conv => whnf); repeat (first | (refine And.intro (okII _ _) ?_; rw [eqD_ii]; with_reducible conv => whnf) | (refine And.intro (by first | assumption | exact Exists.intro _ (by assumption) | exact ⟨rfl, rfl, by decide, by decide⟩ | exact Nat.le_of_ble_eq_true rfl | exact rfl) ?_; with_reducible conv => whnf) | (rw [isLst_at (by assumption)]; with_reducible conv => whnf) | (refine ifT rfl ?_; with_reducible conv => whnf) | (refine ifF rfl ?_; with_reducible conv => whnf) | (refine it_at (by assumption) ?_; with_reducible conv => whnf)))
    exact k0
  | bl b =>
    ((with_reducible conv => whnf); repeat (first | (refine And.intro (okII _ _) ?_; rw [eqD_ii]; with_reducible conv => whnf) | (refine And.intro (by first | assumption | exact Exists.intro _ (by assumption) | exact ⟨rfl, rfl, by decide, by decide⟩ | exact Nat.le_of_ble_eq_true rfl | exact rfl) ?_; with_reducible conv => whnf) | (rw [isLst_at (by assumption)]; with_reducible conv => whnf) | (refine ifT rfl ?_; with_reducible conv => whnf) | (refine ifF rfl ?_; with_reducible conv => whnf) | (refine it_at (by assumption) ?_; with_reducible conv => whnf)))
    refine ⟨true, rfl, ?_⟩
    ((with_reducible conv => whnf); repeat (first | (refine And.intro (okII _ _) ?_; rw [eqD_ii]; with_reducible conv => whnf) | (refine And.intro (by first | assumption | exact Exists.intro _ (by assumption) | exact ⟨rfl, rfl, by decide, by decide⟩ | exact Nat.le_of_ble_eq_true rfl | exact rfl) ?_; with_reducible conv => whnf) | (rw [isLst_at (by assumption)]; with_reducible conv => whnf) | (refine ifT rfl ?_; with_reducible conv => whnf) | (refine ifF rfl ?_; with_reducible conv => whnf) | (refine it_at (by assumption) ?_; with_reducible conv => whnf)))
    refine ⟨true, rfl, ?_⟩
    ((with_reducible conv => whnf); repeat (first | (refine And.intro (okII _ _) ?_; rw [eqD_ii]; with_reducible conv => whnf) | (refine And.intro (by first | assumption | exact Exists.intro _ (by assumption) | exact ⟨rfl, rfl, by decide, by decide⟩ | exact Nat.le_of_ble_eq_true rfl | exact rfl) ?_; with_reducible conv => whnf) | (rw [isLst_at (by assumption)]; with_reducible conv => whnf) | (refine ifT rfl ?_; with_reducible conv => whnf) | (refine ifF rfl ?_; with_reducible conv => whnf) | (refine it_at (by assumption) ?_; with_reducible conv => whnf)))
    refine ⟨⟨hf, hf, Nat.zero_le _, Nat.zero_le _⟩, ?_⟩
    rw [hself]
    exact k0
  | int i =>
    ((with_reducible conv => whnf); repeat (first | (refine And.intro (okII _ _) ?_; rw [eqD_ii]; with_reducible conv => whnf) | (refine And.intro (by first | assumption | exact Exists.intro _ (by assumption) | exact ⟨rfl, rfl, by decide, by decide⟩ | exact Nat.le_of_ble_eq_true rfl | exact rfl) ?_; with_reducible conv => whnf) | (rw [isLst_at (by assumption)]; with_reducible conv => whnf) | (refine ifT rfl ?_; with_reducible conv => whnf) | (refine ifF rfl ?_; with_reducible conv => whnf) | (refine it_at (by assumption) ?_; with_reducible conv => whnf)))
    refine ⟨false, rfl, ?_⟩
    ((with_reducible conv => whnf); repeat (first | (refine And.intro (okII _ _) ?_; rw [eqD_ii]; with_reducible conv => whnf) | (refine And.intro (by first | assumption | exact Exists.intro _ (by assumption) | exact ⟨rfl, rfl, by decide, by decide⟩ | exact Nat.le_of_ble_eq_true rfl | exact rfl) ?_; with_reducible conv => whnf) | (rw [isLst_at (by assumption)]; with_reducible conv => whnf) | (refine ifT rfl ?_; with_reducible conv => whnf) | (refine ifF rfl ?_; with_reducible conv => whnf) | (refine it_at (by assumption) ?_; with_reducible conv => whnf)))
    refine ⟨true, rfl, ?_⟩
    ((with_reducible conv => whnf); repeat (first | (refine And.intro (okII _ _) ?_; rw [eqD_ii]; with_reducible conv => whnf) | (refine And.intro (by first | assumption | exact Exists.intro _ (by assumption) | exact ⟨rfl, rfl, by decide, by decide⟩ | exact Nat.le_of_ble_eq_true rfl | exact rfl) ?_; with_reducible conv => whnf) | (rw [isLst_at (by assumption)]; with_reducible conv => whnf) | (refine ifT rfl ?_; with_reducible conv => whnf) | (refine ifF rfl ?_; with_reducible conv => whnf) | (refine it_at (by assumption) ?_; with_reducible conv => whnf)))
    refine ⟨true, rfl, ?_⟩
    ((with_reducible conv => whnf); repeat (first | (refine And.intro (okII _ _) ?_; rw [eqD_ii]; with_reducible conv => whnf) | (refine And.intro (by first | assumption | exact Exists.intro _ (by assumption) | exact ⟨rfl, rfl, by decide, by decide⟩ | exact Nat.le_of_ble_eq_true rfl | exact rfl) ?_; with_reducible conv => whnf) | (rw [isLst_at (by assumption)]; with_reducible conv => whnf) | (refine ifT rfl ?_; with_reducible conv => whnf) | (refine ifF rfl ?_; with_reducible conv => whnf) | (refine it_at (by assumption) ?_; with_reducible conv => whnf)))
    refine ⟨false, rfl, ?_⟩
    ((with_reducible conv => whnf); repeat (first | (refine And.intro (okII _ _) ?_; rw [eqD_ii]; with_reducible conv => whnf) | (refine And.intro (by first | assumption | exact Exists.intro _ (by assumption) | exact ⟨rfl, rfl, by decide, by decide⟩ | exact Nat.le_of_ble_eq_true rfl | exact rfl) ?_; with_reducible conv => whnf) | (rw [isLst_at (by assumption)]; with_reducible conv => whnf) | (refine ifT rfl ?_; with_reducible conv => whnf) | (refine ifF rfl ?_; with_reducible conv => whnf) | (refine it_at (by assumption) ?_; with_reducible conv => whnf)))
    rw [decide_eq_true rfl]
    exact k0
  | str x =>
    ((with_reducible conv => whnf); repeat (first | (refine And.intro (okII _ _) ?_; rw [eqD_ii]; with_reducible conv => whnf) | (refine And.intro (by first | assumption | exact Exists.intro _ (by assumption) | exact ⟨rfl, rfl, by decide, by decide⟩ | exact Nat.le_of_ble_eq_true rfl | exact rfl) ?_; with_reducible conv => whnf) | (rw [isLst_at (by assumption)]; with_reducible conv => whnf) | (refine ifT rfl ?_; with_reducible conv => whnf) | (refine ifF rfl ?_; with_reducible conv => whnf) | (refine it_at (by assumption) ?_; with_reducible conv => whnf)))
    refine ⟨false, rfl, ?_⟩
    ((with_reducible conv => whnf); repeat (first | (refine And.intro (okII _ _) ?_; rw [eqD_ii]; with_reducible conv => whnf) | (refine And.intro (by first | assumption | exact Exists.intro _ (by assumption) | exact ⟨rfl, rfl, by decide, by decide⟩ | exact Nat.le_of_ble_eq_true rfl | exact rfl) ?_; with_reducible conv => whnf) | (rw [isLst_at (by assumption)]; with_reducible conv => whnf) | (refine ifT rfl ?_; with_reducible conv => whnf) | (refine ifF rfl ?_; with_reducible conv => whnf) | (refine it_at (by assumption) ?_; with_reducible conv => whnf)))
    refine ⟨false, rfl, ?_⟩
    ((with_reducible conv => whnf); repeat (first | (refine And.intro (okII _ _) ?_; rw [eqD_ii]; with_reducible conv => whnf) | (refine And.intro (by first | assumption | exact Exists.intro _ (by assumption) | exact ⟨rfl, rfl, by decide, by decide⟩ | exact Nat.le_of_ble_eq_true rfl | exact rfl) ?_; with_reducible conv => whnf) | (rw [isLst_at (by assumption)]; with_reducible conv => whnf) | (refine ifT rfl ?_; with_reducible conv => whnf) | (refine ifF rfl ?_; with_reducible conv => whnf) | (refine it_at (by assumption) ?_; with_reducible conv => whnf)))
    refine ⟨true, rfl, ?_⟩
    ((with_reducible conv => whnf); repeat (first | (refine And.intro (okII _ _) ?_; rw [eqD_ii]; with_reducible conv => whnf) | (refine And.intro (by first | assumption | exact Exists.intro _ (by assumption) | exact ⟨rfl, rfl, by decide, by decide⟩ | exact Nat.le_of_ble_eq_true rfl | exact rfl) ?_; with_reducible conv => whnf) | (rw [isLst_at (by assumption)]; with_reducible conv => whnf) | (refine ifT rfl ?_; with_reducible conv => whnf) | (refine ifF rfl ?_; with_reducible conv => whnf) | (refine it_at (by assumption) ?_; with_reducible conv => whnf)))
    refine ⟨true, rfl, ?_⟩
    ((with_reducible conv => whnf); repeat (first | (refine And.intro (okII _ _) ?_; rw [eqD_ii]; with_reducible conv => whnf) | (refine And.intro (by first | assumption | exact Exists.intro _ (by assumption) | exact ⟨rfl, rfl, by decide, by decide⟩ | exact Nat.le_of_ble_eq_true rfl | exact rfl) ?_; with_reducible conv => whnf) | (rw [isLst_at (by assumption)]; with_reducible conv => whnf) | (refine ifT rfl ?_; with_reducible conv => whnf) | (refine ifF rfl ?_; with_reducible conv => whnf) | (refine it_at (by assumption) ?_; with_reducible conv => whnf)))
    refine ⟨⟨hf, hf, Nat.zero_le _, Nat.zero_le _⟩, ?_⟩
    rw [hself]
    exact k0
  | tup xs =>
    ((with_reducible conv => whnf); repeat (first | (refine And.intro (okII _ _) ?_; rw [eqD_ii]; with_reducible conv => whnf) | (refine And.intro (by first | assumption | exact Exists.intro _ (by assumption) | exact ⟨rfl, rfl, by decide, by decide⟩ | exact Nat.le_of_ble_eq_true rfl | exact rfl) ?_; with_reducible conv => whnf) | (rw [isLst_at (by assumption)]; with_reducible conv => whnf) | (refine ifT rfl ?_; with_reducible conv => whnf) | (refine ifF rfl ?_; with_reducible conv => whnf) | (refine it_at (by assumption) ?_; with_reducible conv => whnf)))
    refine ⟨false, rfl, ?_⟩
    ((with_reducible conv => whnf); repeat (first | (refine And.intro (okII _ _) ?_; rw [eqD_ii]; with_reducible conv => whnf) | (refine And.intro (by first | assumption | exact Exists.intro _ (by assumption) | exact ⟨rfl, rfl, by decide, by decide⟩ | exact Nat.le_of_ble_eq_true rfl | exact rfl) ?_; with_reducible conv => whnf) | (rw [isLst_at (by assumption)]; with_reducible conv => whnf) | (refine ifT rfl ?_; with_reducible conv => whnf) | (refine ifF rfl ?_; with_reducible conv => whnf) | (refine it_at (by assumption) ?_; with_reducible conv => whnf)))
    refine ⟨false, rfl, ?_⟩
    ((with_reducible conv => whnf); repeat (first | (refine And.intro (okII _ _) ?_; rw [eqD_ii]; with_reducible conv => whnf) | (refine And.intro (by first | assumption | exact Exists.intro _ (by assumption) | exact ⟨rfl, rfl, by decide, by decide⟩ | exact Nat.le_of_ble_eq_true rfl | exact rfl) ?_; with_reducible conv => whnf) | (rw [isLst_at (by assumption)]; with_reducible conv => whnf) | (refine ifT rfl ?_; with_reducible conv => whnf) | (refine ifF rfl ?_; with_reducible conv => whnf) | (refine it_at (by assumption) ?_; with_reducible conv => whnf)))
    refine ⟨false, rfl, ?_⟩
    ((with_reducible conv => whnf); repeat (first | (refine And.intro (okII _ _) ?_; rw [eqD_ii]; with_reducible conv => whnf) | (refine And.intro (by first | assumption | exact Exists.intro _ (by assumption) | exact ⟨rfl, rfl, by decide, by decide⟩ | exact Nat.le_of_ble_eq_true rfl | exact rfl) ?_; with_reducible conv => whnf) | (rw [isLst_at (by assumption)]; with_reducible conv => whnf) | (refine ifT rfl ?_; with_reducible conv => whnf) | (refine ifF rfl ?_; with_reducible conv => whnf) | (refine it_at (by assumption) ?_; with_reducible conv => whnf)))
    refine ⟨true, rfl, ?_⟩
    ((with_reducible conv => whnf); repeat (first | (refine And.intro (okII _ _) ?_; rw [eqD_ii]; with_reducible conv => whnf) | (refine And.intro (by first | assumption | exact Exists.intro _ (by assumption) | exact ⟨rfl, rfl, by decide, by decide⟩ | exact Nat.le_of_ble_eq_true rfl | exact rfl) ?_; with_reducible conv => whnf) | (rw [isLst_at (by assumption)]; with_reducible conv => whnf) | (refine ifT rfl ?_; with_reducible conv => whnf) | (refine ifF rfl ?_; with_reducible conv => whnf) | (refine it_at (by assumption) ?_; with_reducible conv => whnf)))
    rw [if_neg (by simp)]
    have hsl := Bool.and_eq_true_iff.mp (show (decide (xs.length ≤ szL) && slims xs) = true from hsl)
    have hz := of_decide_eq_true hsl.1
    unfold szL at hz
    ((with_reducible conv => whnf); repeat (first | (refine And.intro (okII _ _) ?_; rw [eqD_ii]; with_reducible conv => whnf) | (refine And.intro (by first | assumption | exact Exists.intro _ (by assumption) | exact ⟨rfl, rfl, by decide, by decide⟩ | exact Nat.le_of_ble_eq_true rfl | exact rfl) ?_; with_reducible conv => whnf) | (rw [isLst_at (by assumption)]; with_reducible conv => whnf) | (refine ifT rfl ?_; with_reducible conv => whnf) | (refine ifF rfl ?_; with_reducible conv => whnf) | (refine it_at (by assumption) ?_; with_reducible conv => whnf)))
    refine ⟨⟨by omega, by omega⟩, ?_⟩
    refine Loop_mk (fun _ ρ S' => ∃ o, ρ = [some (.tup xs), some (.tup xs), o] ∧ Sub S S') ⟨_, rfl, Sub.refl _⟩ (by intros; trivial) ?_ ?_
    · rintro i d ρ' S' hi ⟨o, rfl, hs⟩
      obtain ⟨hi1, rfl⟩ := rangeD_get hi
      have hl : i < xs.length := by omega
      have e := List.getElem?_eq_getElem hl
      have ez := atZ_nat e
      rw [show ((i : Nat) : Int) = 0 + i by omega] at ez
      ((with_reducible conv => whnf); repeat (first | (refine And.intro (okII _ _) ?_; rw [eqD_ii]; with_reducible conv => whnf) | (refine And.intro (by first | assumption | exact Exists.intro _ (by assumption) | exact ⟨rfl, rfl, by decide, by decide⟩ | exact Nat.le_of_ble_eq_true rfl | exact rfl) ?_; with_reducible conv => whnf) | (rw [isLst_at (by assumption)]; with_reducible conv => whnf) | (refine ifT rfl ?_; with_reducible conv => whnf) | (refine ifF rfl ?_; with_reducible conv => whnf) | (refine it_at (by assumption) ?_; with_reducible conv => whnf)))
      refine ⟨_, ez, ?_⟩
      ((with_reducible conv => whnf); repeat (first | (refine And.intro (okII _ _) ?_; rw [eqD_ii]; with_reducible conv => whnf) | (refine And.intro (by first | assumption | exact Exists.intro _ (by assumption) | exact ⟨rfl, rfl, by decide, by decide⟩ | exact Nat.le_of_ble_eq_true rfl | exact rfl) ?_; with_reducible conv => whnf) | (rw [isLst_at (by assumption)]; with_reducible conv => whnf) | (refine ifT rfl ?_; with_reducible conv => whnf) | (refine ifF rfl ?_; with_reducible conv => whnf) | (refine it_at (by assumption) ?_; with_reducible conv => whnf)))
      refine ⟨_, ez, ?_⟩
      ((with_reducible conv => whnf); repeat (first | (refine And.intro (okII _ _) ?_; rw [eqD_ii]; with_reducible conv => whnf) | (refine And.intro (by first | assumption | exact Exists.intro _ (by assumption) | exact ⟨rfl, rfl, by decide, by decide⟩ | exact Nat.le_of_ble_eq_true rfl | exact rfl) ?_; with_reducible conv => whnf) | (rw [isLst_at (by assumption)]; with_reducible conv => whnf) | (refine ifT rfl ?_; with_reducible conv => whnf) | (refine ifF rfl ?_; with_reducible conv => whnf) | (refine it_at (by assumption) ?_; with_reducible conv => whnf)))
      have hdd : deep (.tup xs) = deeps xs + 1 := rfl
      rcases hsp with h0 | ⟨M, hM, rfl⟩
      · omega
      ((with_reducible conv => whnf); repeat (first | (refine And.intro (okII _ _) ?_; rw [eqD_ii]; with_reducible conv => whnf) | (refine And.intro (by first | assumption | exact Exists.intro _ (by assumption) | exact ⟨rfl, rfl, by decide, by decide⟩ | exact Nat.le_of_ble_eq_true rfl | exact rfl) ?_; with_reducible conv => whnf) | (rw [isLst_at (by assumption)]; with_reducible conv => whnf) | (refine ifT rfl ?_; with_reducible conv => whnf) | (refine ifF rfl ?_; with_reducible conv => whnf) | (refine it_at (by assumption) ?_; with_reducible conv => whnf)))
      have := deeps_get e
      refine ⟨_, rfl, flats_get hf e, slims_get hsl.2 e, by omega, fun S2 hs2 => ?_⟩
      ((with_reducible conv => whnf); repeat (first | (refine And.intro (okII _ _) ?_; rw [eqD_ii]; with_reducible conv => whnf) | (refine And.intro (by first | assumption | exact Exists.intro _ (by assumption) | exact ⟨rfl, rfl, by decide, by decide⟩ | exact Nat.le_of_ble_eq_true rfl | exact rfl) ?_; with_reducible conv => whnf) | (rw [isLst_at (by assumption)]; with_reducible conv => whnf) | (refine ifT rfl ?_; with_reducible conv => whnf) | (refine ifF rfl ?_; with_reducible conv => whnf) | (refine it_at (by assumption) ?_; with_reducible conv => whnf)))
      exact ⟨_, rfl, hs.trans hs2⟩
    · rintro ρ' S' ⟨o, rfl, hs⟩
      ((with_reducible conv => whnf); repeat (first | (refine And.intro (okII _ _) ?_; rw [eqD_ii]; with_reducible conv => whnf) | (refine And.intro (by first | assumption | exact Exists.intro _ (by assumption) | exact ⟨rfl, rfl, by decide, by decide⟩ | exact Nat.le_of_ble_eq_true rfl | exact rfl) ?_; with_reducible conv => whnf) | (rw [isLst_at (by assumption)]; with_reducible conv => whnf) | (refine ifT rfl ?_; with_reducible conv => whnf) | (refine ifF rfl ?_; with_reducible conv => whnf) | (refine it_at (by assumption) ?_; with_reducible conv => whnf)))
      exact k _ hs
@[reducible] def sp_cell : Spc := fun ds S Q => ∃ ns n, ds = [.rol (intD ns), .ref n] ∧ ns.length ≤ 63 ∧ Dr n S ∧ ∀ x S', Dr n S' → Ch n S S' → Q (.int x) S'
theorem body_law_cell : Body 2 2 (w_law_cell sp_take) sp_cell := by
  rintro ds S Q _ ⟨ns, n, rfl, hl, hd, k⟩
  unfold w_law_cell
  (simp only [start, List.map_cons, List.map_nil, List.length_cons, List.length_nil, Nat.reduceAdd, Nat.reduceSub, List.replicate_succ, List.replicate_zero, List.cons_append, List.nil_append, Nat.sub_self, Nat.zero_add])
  ((with_reducible conv => whnf); repeat (first | (refine And.intro (okII _ _) ?_; rw [eqD_ii]; with_reducible conv => whnf) | (refine And.intro (by first | assumption | exact Exists.intro _ (by assumption) | exact ⟨rfl, rfl, by decide, by decide⟩ | exact Nat.le_of_ble_eq_true rfl | exact rfl) ?_; with_reducible conv => whnf) | (rw [isLst_at (by assumption)]; with_reducible conv => whnf) | (refine ifT rfl ?_; with_reducible conv => whnf) | (refine ifF rfl ?_; with_reducible conv => whnf) | (refine it_at (by assumption) ?_; with_reducible conv => whnf)))
  refine ite_d (fun hc => k 0 S hd (Ch.refl _ _)) fun hc => ?_
  ((with_reducible conv => whnf); repeat (first | (refine And.intro (okII _ _) ?_; rw [eqD_ii]; with_reducible conv => whnf) | (refine And.intro (by first | assumption | exact Exists.intro _ (by assumption) | exact ⟨rfl, rfl, by decide, by decide⟩ | exact Nat.le_of_ble_eq_true rfl | exact rfl) ?_; with_reducible conv => whnf) | (rw [isLst_at (by assumption)]; with_reducible conv => whnf) | (refine ifT rfl ?_; with_reducible conv => whnf) | (refine ifF rfl ?_; with_reducible conv => whnf) | (refine it_at (by assumption) ?_; with_reducible conv => whnf)))
  rw [List.length_map] at hc ⊢
  refine ⟨_, _, rfl, by omega, hd, fun r S' h0 h1 hd' hc' => ?_⟩
  ((with_reducible conv => whnf); repeat (first | (refine And.intro (okII _ _) ?_; rw [eqD_ii]; with_reducible conv => whnf) | (refine And.intro (by first | assumption | exact Exists.intro _ (by assumption) | exact ⟨rfl, rfl, by decide, by decide⟩ | exact Nat.le_of_ble_eq_true rfl | exact rfl) ?_; with_reducible conv => whnf) | (rw [isLst_at (by assumption)]; with_reducible conv => whnf) | (refine ifT rfl ?_; with_reducible conv => whnf) | (refine ifF rfl ?_; with_reducible conv => whnf) | (refine it_at (by assumption) ?_; with_reducible conv => whnf)))
  refine ⟨_, atZ_intD h0 h1, ?_⟩
  ((with_reducible conv => whnf); repeat (first | (refine And.intro (okII _ _) ?_; rw [eqD_ii]; with_reducible conv => whnf) | (refine And.intro (by first | assumption | exact Exists.intro _ (by assumption) | exact ⟨rfl, rfl, by decide, by decide⟩ | exact Nat.le_of_ble_eq_true rfl | exact rfl) ?_; with_reducible conv => whnf) | (rw [isLst_at (by assumption)]; with_reducible conv => whnf) | (refine ifT rfl ?_; with_reducible conv => whnf) | (refine ifF rfl ?_; with_reducible conv => whnf) | (refine it_at (by assumption) ?_; with_reducible conv => whnf)))
  exact k _ _ hd' hc'
end K79
set_option linter.all false
set_option maxRecDepth 100000
set_option maxHeartbeats 4000000
namespace K79
open DL
theorem fdiv2 (x : Nat) : (x : Int).fdiv 2 = ((x / 2 : Nat) : Int) := by rw [Int.fdiv_eq_ediv_of_nonneg _ (by decide)]; omega
theorem fmod2 (x : Nat) : (x : Int).fmod 2 = ((x % 2 : Nat) : Int) := by rw [Int.fmod_eq_emod_of_nonneg _ (by decide)]; omega
@[reducible] def sp_two : Spc := fun ds S Q => ∃ a b : Nat, ds = [.int a, .int b] ∧ ∀ S', Sub S S' → Q (.int (a ^^^ b : Nat)) S'
theorem xor_2 (x y : Nat) : x ^^^ y = 2 * (x / 2 ^^^ y / 2) + (if x % 2 = y % 2 then 0 else 1) := by
  have a := Nat.xor_div_two (a := x) (b := y)
  have b := Nat.xor_mod_two_eq_one (a := x) (b := y)
  rw [← a]
  split <;> omega
theorem body_added_two : Body 4 2 w_added_two sp_two := by
  rintro ds S Q _ ⟨a, b, rfl, k⟩
  unfold w_added_two
  (simp only [start, List.map_cons, List.map_nil, List.length_cons, List.length_nil, Nat.reduceAdd, Nat.reduceSub, List.replicate_succ, List.replicate_zero, List.cons_append, List.nil_append, Nat.sub_self, Nat.zero_add])
  ((with_reducible conv => whnf); repeat (first | (rw [natD_len]; with_reducible conv => whnf) | (rw [intD_len]; with_reducible conv => whnf) | (refine Exists.intro _ (And.intro (rfl : _ = some _) ?_); with_reducible conv => whnf) | (refine And.intro (okII _ _) ?_; rw [eqD_ii]; with_reducible conv => whnf) | (refine And.intro (by first | assumption | exact Exists.intro _ (by assumption) | exact ⟨rfl, rfl, by decide, by decide⟩ | exact Nat.le_of_ble_eq_true rfl | exact rfl) ?_; with_reducible conv => whnf) | (rw [isLst_at (by assumption)]; with_reducible conv => whnf) | (refine ifT rfl ?_; with_reducible conv => whnf) | (refine ifF rfl ?_; with_reducible conv => whnf) | (refine it_at (by assumption) ?_; with_reducible conv => whnf)))
  refine ⟨fun m ρ S' => ∃ (x y f d : Nat), m = x + y ∧ ρ = [some (.int x), some (.int y), some (.int f), some (.int d)] ∧ f + d * (x ^^^ y) = a ^^^ b ∧ S' = S, ⟨a + b, a, b, 0, 1, rfl, rfl, by omega, rfl⟩, ?_⟩
  rintro m ρ' S' ⟨x, y, f, d, rfl, rfl, he, rfl⟩
  have step : 0 < x + y → sSeq (sIf (wtVal (wOp rNe (wOp rMod (wVar 0) (wC (.int 2))) (wOp rMod (wVar 1) (wC (.int 2))))) (sAug 2 (wVar 3) rIAdd) sNext)
      (sPar3 0 1 3 (wOp rDiv (wVar 0) (wC (.int 2))) (wOp rDiv (wVar 1) (wC (.int 2))) (wOp rMul (wC (.int 2)) (wVar 3)))
      { nx := fun ρ3 S3 => ∃ m', m' < x + y ∧ ∃ (x y f d : Nat), m' = x + y ∧ ρ3 = [some (.int x), some (.int y), some (.int f), some (.int d)] ∧ f + d * (x ^^^ y) = a ^^^ b ∧ S3 = S', rt := Q, bk := fun ρ3 S3 => sRet (wVar 2) { nx := fun x S' => Q D.non S', rt := Q, bk := fun x x_1 => False, ct := fun x x_1 => False } ρ3 S3, ct := fun ρ3 S3 => ∃ m', m' < x + y ∧ ∃ (x y f d : Nat), m' = x + y ∧ ρ3 = [some (.int x), some (.int y), some (.int f), some (.int d)] ∧ f + d * (x ^^^ y) = a ^^^ b ∧ S3 = S' }
      [some (.int x), some (.int y), some (.int f), some (.int d)] S' := by
    intro h0
    ((with_reducible conv => whnf); repeat (first | (rw [natD_len]; with_reducible conv => whnf) | (rw [intD_len]; with_reducible conv => whnf) | (refine Exists.intro _ (And.intro (rfl : _ = some _) ?_); with_reducible conv => whnf) | (refine And.intro (okII _ _) ?_; rw [eqD_ii]; with_reducible conv => whnf) | (refine And.intro (by first | assumption | exact Exists.intro _ (by assumption) | exact ⟨rfl, rfl, by decide, by decide⟩ | exact Nat.le_of_ble_eq_true rfl | exact rfl) ?_; with_reducible conv => whnf) | (rw [isLst_at (by assumption)]; with_reducible conv => whnf) | (refine ifT rfl ?_; with_reducible conv => whnf) | (refine ifF rfl ?_; with_reducible conv => whnf) | (refine it_at (by assumption) ?_; with_reducible conv => whnf)))
    refine ⟨by decide, ?_⟩
    ((with_reducible conv => whnf); repeat (first | (rw [natD_len]; with_reducible conv => whnf) | (rw [intD_len]; with_reducible conv => whnf) | (refine Exists.intro _ (And.intro (rfl : _ = some _) ?_); with_reducible conv => whnf) | (refine And.intro (okII _ _) ?_; rw [eqD_ii]; with_reducible conv => whnf) | (refine And.intro (by first | assumption | exact Exists.intro _ (by assumption) | exact ⟨rfl, rfl, by decide, by decide⟩ | exact Nat.le_of_ble_eq_true rfl | exact rfl) ?_; with_reducible conv => whnf) | (rw [isLst_at (by assumption)]; with_reducible conv => whnf) | (refine ifT rfl ?_; with_reducible conv => whnf) | (refine ifF rfl ?_; with_reducible conv => whnf) | (refine it_at (by assumption) ?_; with_reducible conv => whnf)))
    refine ⟨by decide, ?_⟩
    rw [fmod2, fmod2]
    ((with_reducible conv => whnf); repeat (first | (rw [natD_len]; with_reducible conv => whnf) | (rw [intD_len]; with_reducible conv => whnf) | (refine Exists.intro _ (And.intro (rfl : _ = some _) ?_); with_reducible conv => whnf) | (refine And.intro (okII _ _) ?_; rw [eqD_ii]; with_reducible conv => whnf) | (refine And.intro (by first | assumption | exact Exists.intro _ (by assumption) | exact ⟨rfl, rfl, by decide, by decide⟩ | exact Nat.le_of_ble_eq_true rfl | exact rfl) ?_; with_reducible conv => whnf) | (rw [isLst_at (by assumption)]; with_reducible conv => whnf) | (refine ifT rfl ?_; with_reducible conv => whnf) | (refine ifF rfl ?_; with_reducible conv => whnf) | (refine it_at (by assumption) ?_; with_reducible conv => whnf)))
    have hx := xor_2 x y
    have fin : ∀ f' : Nat, f' + 2 * d * (x / 2 ^^^ y / 2) = a ^^^ b → ∃ m', m' < x + y ∧ ∃ (x_1 y_1 f_1 d_1 : Nat), m' = x_1 + y_1 ∧ [some (D.int ((x / 2 : Nat) : Int)), some (D.int ((y / 2 : Nat) : Int)), some (D.int (f' : Nat)), some (D.int (2 * (d : Int)))] = [some (.int x_1), some (.int y_1), some (.int f_1), some (.int d_1)] ∧ f_1 + d_1 * (x_1 ^^^ y_1) = a ^^^ b ∧ S' = S' := by
      intro f' h
      exact ⟨x / 2 + y / 2, by omega, x / 2, y / 2, f', 2 * d, rfl, by rw [show ((2 * d : Nat) : Int) = 2 * (d : Int) by omega], h, rfl⟩
    by_cases c : x % 2 = y % 2
    · refine ifF (by simp; omega) ?_
      rw [if_pos c] at hx
      ((with_reducible conv => whnf); repeat (first | (rw [natD_len]; with_reducible conv => whnf) | (rw [intD_len]; with_reducible conv => whnf) | (refine Exists.intro _ (And.intro (rfl : _ = some _) ?_); with_reducible conv => whnf) | (refine And.intro (okII _ _) ?_; rw [eqD_ii]; with_reducible conv => whnf) | (refine And.intro (by first | assumption | exact Exists.intro _ (by assumption) | exact ⟨rfl, rfl, by decide, by decide⟩ | exact Nat.le_of_ble_eq_true rfl | exact rfl) ?_; with_reducible conv => whnf) | (rw [isLst_at (by assumption)]; with_reducible conv => whnf) | (refine ifT rfl ?_; with_reducible conv => whnf) | (refine ifF rfl ?_; with_reducible conv => whnf) | (refine it_at (by assumption) ?_; with_reducible conv => whnf)))
      refine ⟨⟨by decide, by decide⟩, ?_⟩
      ((with_reducible conv => whnf); repeat (first | (rw [natD_len]; with_reducible conv => whnf) | (rw [intD_len]; with_reducible conv => whnf) | (refine Exists.intro _ (And.intro (rfl : _ = some _) ?_); with_reducible conv => whnf) | (refine And.intro (okII _ _) ?_; rw [eqD_ii]; with_reducible conv => whnf) | (refine And.intro (by first | assumption | exact Exists.intro _ (by assumption) | exact ⟨rfl, rfl, by decide, by decide⟩ | exact Nat.le_of_ble_eq_true rfl | exact rfl) ?_; with_reducible conv => whnf) | (rw [isLst_at (by assumption)]; with_reducible conv => whnf) | (refine ifT rfl ?_; with_reducible conv => whnf) | (refine ifF rfl ?_; with_reducible conv => whnf) | (refine it_at (by assumption) ?_; with_reducible conv => whnf)))
      refine ⟨⟨by decide, by decide⟩, ?_⟩
      ((with_reducible conv => whnf); repeat (first | (rw [natD_len]; with_reducible conv => whnf) | (rw [intD_len]; with_reducible conv => whnf) | (refine Exists.intro _ (And.intro (rfl : _ = some _) ?_); with_reducible conv => whnf) | (refine And.intro (okII _ _) ?_; rw [eqD_ii]; with_reducible conv => whnf) | (refine And.intro (by first | assumption | exact Exists.intro _ (by assumption) | exact ⟨rfl, rfl, by decide, by decide⟩ | exact Nat.le_of_ble_eq_true rfl | exact rfl) ?_; with_reducible conv => whnf) | (rw [isLst_at (by assumption)]; with_reducible conv => whnf) | (refine ifT rfl ?_; with_reducible conv => whnf) | (refine ifF rfl ?_; with_reducible conv => whnf) | (refine it_at (by assumption) ?_; with_reducible conv => whnf)))
      refine ⟨smallMul' (by decide), ?_⟩
      rw [fdiv2, fdiv2]
      refine fin f ?_
      rw [← he, hx, Nat.mul_comm 2 d, Nat.mul_assoc, Nat.add_zero]
    · refine ifT (by simp; omega) ?_
      rw [if_neg c] at hx
      ((with_reducible conv => whnf); repeat (first | (rw [natD_len]; with_reducible conv => whnf) | (rw [intD_len]; with_reducible conv => whnf) | (refine Exists.intro _ (And.intro (rfl : _ = some _) ?_); with_reducible conv => whnf) | (refine And.intro (okII _ _) ?_; rw [eqD_ii]; with_reducible conv => whnf) | (refine And.intro (by first | assumption | exact Exists.intro _ (by assumption) | exact ⟨rfl, rfl, by decide, by decide⟩ | exact Nat.le_of_ble_eq_true rfl | exact rfl) ?_; with_reducible conv => whnf) | (rw [isLst_at (by assumption)]; with_reducible conv => whnf) | (refine ifT rfl ?_; with_reducible conv => whnf) | (refine ifF rfl ?_; with_reducible conv => whnf) | (refine it_at (by assumption) ?_; with_reducible conv => whnf)))
      refine ⟨⟨by decide, by decide⟩, ?_⟩
      ((with_reducible conv => whnf); repeat (first | (rw [natD_len]; with_reducible conv => whnf) | (rw [intD_len]; with_reducible conv => whnf) | (refine Exists.intro _ (And.intro (rfl : _ = some _) ?_); with_reducible conv => whnf) | (refine And.intro (okII _ _) ?_; rw [eqD_ii]; with_reducible conv => whnf) | (refine And.intro (by first | assumption | exact Exists.intro _ (by assumption) | exact ⟨rfl, rfl, by decide, by decide⟩ | exact Nat.le_of_ble_eq_true rfl | exact rfl) ?_; with_reducible conv => whnf) | (rw [isLst_at (by assumption)]; with_reducible conv => whnf) | (refine ifT rfl ?_; with_reducible conv => whnf) | (refine ifF rfl ?_; with_reducible conv => whnf) | (refine it_at (by assumption) ?_; with_reducible conv => whnf)))
      refine ⟨⟨by decide, by decide⟩, ?_⟩
      ((with_reducible conv => whnf); repeat (first | (rw [natD_len]; with_reducible conv => whnf) | (rw [intD_len]; with_reducible conv => whnf) | (refine Exists.intro _ (And.intro (rfl : _ = some _) ?_); with_reducible conv => whnf) | (refine And.intro (okII _ _) ?_; rw [eqD_ii]; with_reducible conv => whnf) | (refine And.intro (by first | assumption | exact Exists.intro _ (by assumption) | exact ⟨rfl, rfl, by decide, by decide⟩ | exact Nat.le_of_ble_eq_true rfl | exact rfl) ?_; with_reducible conv => whnf) | (rw [isLst_at (by assumption)]; with_reducible conv => whnf) | (refine ifT rfl ?_; with_reducible conv => whnf) | (refine ifF rfl ?_; with_reducible conv => whnf) | (refine it_at (by assumption) ?_; with_reducible conv => whnf)))
      refine ⟨smallMul' (by decide), ?_⟩
      rw [fdiv2, fdiv2]
      refine fin (f + d) ?_
      rw [← he, hx, Nat.mul_add, Nat.mul_comm 2 d, Nat.mul_assoc]
      omega
  ((with_reducible conv => whnf); repeat (first | (rw [natD_len]; with_reducible conv => whnf) | (rw [intD_len]; with_reducible conv => whnf) | (refine Exists.intro _ (And.intro (rfl : _ = some _) ?_); with_reducible conv => whnf) | (refine And.intro (okII _ _) ?_; rw [eqD_ii]; with_reducible conv => whnf) | (refine And.intro (by first | assumption | exact Exists.intro _ (by assumption) | exact ⟨rfl, rfl, by decide, by decide⟩ | exact Nat.le_of_ble_eq_true rfl | exact rfl) ?_; with_reducible conv => whnf) | (rw [isLst_at (by assumption)]; with_reducible conv => whnf) | (refine ifT rfl ?_; with_reducible conv => whnf) | (refine ifF rfl ?_; with_reducible conv => whnf) | (refine it_at (by assumption) ?_; with_reducible conv => whnf)))
  refine ite_d (fun hc => ?_) fun hc => ?_
  · exact step (by omega)
  · ((with_reducible conv => whnf); repeat (first | (rw [natD_len]; with_reducible conv => whnf) | (rw [intD_len]; with_reducible conv => whnf) | (refine Exists.intro _ (And.intro (rfl : _ = some _) ?_); with_reducible conv => whnf) | (refine And.intro (okII _ _) ?_; rw [eqD_ii]; with_reducible conv => whnf) | (refine And.intro (by first | assumption | exact Exists.intro _ (by assumption) | exact ⟨rfl, rfl, by decide, by decide⟩ | exact Nat.le_of_ble_eq_true rfl | exact rfl) ?_; with_reducible conv => whnf) | (rw [isLst_at (by assumption)]; with_reducible conv => whnf) | (refine ifT rfl ?_; with_reducible conv => whnf) | (refine ifF rfl ?_; with_reducible conv => whnf) | (refine it_at (by assumption) ?_; with_reducible conv => whnf)))
    refine ite_d (fun hc2 => ?_) fun hc2 => ?_
    · exact step (by omega)
    · have hx : x = 0 := by omega
      have hy : y = 0 := by omega
      subst hx hy
      rw [Nat.xor_self, Nat.mul_zero, Nat.add_zero] at he
      subst he
      exact k _ (Sub.refl _)
@[reducible] def sp_added : Spc := fun ds S Q => ∃ h, ds = [.tup (natD h)] ∧ h.length ≤ 100 ∧ ∀ S', Sub S S' → Q (.int (xr h : Nat)) S'
theorem xr_take {h : List Nat} {i : Nat} (hi : i < h.length) : xr (h.take (i + 1)) = xr (h.take i) ^^^ h.getD i 0 := by
  rw [List.take_add_one, List.getElem?_eq_getElem hi, xr_app, List.getD_eq_getElem?_getD, List.getElem?_eq_getElem hi]
  show _ ^^^ (h[i] ^^^ 0) = _ ^^^ h[i]
  rw [Nat.xor_zero]
theorem atZ_natD {o : List Nat} {k : Nat} (h : k < o.length) : atZ (natD o) (k : Int) = some (.int (o.getD k 0 : Nat)) := by
  have := atZ_intN (ns := o.map fun (k : Nat) => (k : Int)) (i := k) (by rw [List.length_map]; exact h)
  rw [this]
  rw [List.getD_eq_getElem?_getD, List.getD_eq_getElem?_getD, List.getElem?_map, List.getElem?_eq_getElem h]
  rfl
theorem natD_getD {h : List Nat} {i : Nat} {d : D} (e : (natD h)[i]? = some d) : i < h.length ∧ d = .int (h.getD i 0 : Nat) := by
  obtain ⟨x, hx, rfl⟩ := natD_get e
  refine ⟨(List.getElem?_eq_some_iff.mp hx).1, ?_⟩
  rw [List.getD_eq_getElem?_getD, hx]
  rfl
theorem body_added : Body 3 1 (w_added sp_two) sp_added := by
  rintro ds S Q _ ⟨h, rfl, hl, k⟩
  unfold w_added
  (simp only [start, List.map_cons, List.map_nil, List.length_cons, List.length_nil, Nat.reduceAdd, Nat.reduceSub, List.replicate_succ, List.replicate_zero, List.cons_append, List.nil_append, Nat.sub_self, Nat.zero_add])
  ((with_reducible conv => whnf); repeat (first | (rw [natD_len]; with_reducible conv => whnf) | (rw [intD_len]; with_reducible conv => whnf) | (refine Exists.intro _ (And.intro (rfl : _ = some _) ?_); with_reducible conv => whnf) | (refine And.intro (okII _ _) ?_; rw [eqD_ii]; with_reducible conv => whnf) | (refine And.intro (by first | assumption | exact Exists.intro _ (by assumption) | exact ⟨rfl, rfl, by decide, by decide⟩ | exact Nat.le_of_ble_eq_true rfl | exact rfl) ?_; with_reducible conv => whnf) | (rw [isLst_at (by assumption)]; with_reducible conv => whnf) | (refine ifT rfl ?_; with_reducible conv => whnf) | (refine ifF rfl ?_; with_reducible conv => whnf) | (refine it_at (by assumption) ?_; with_reducible conv => whnf)))
  refine Loop_mk (fun i ρ S' => ∃ o2, ρ = [some (.tup (natD h)), some (.int (xr (h.take i) : Nat)), o2] ∧ Sub S S') ⟨none, rfl, Sub.refl _⟩ (by intros; trivial) ?_ ?_
  · rintro i d ρ' S' hi ⟨o2, rfl, hs⟩
    obtain ⟨hi1, rfl⟩ := natD_getD hi
    ((with_reducible conv => whnf); repeat (first | (rw [natD_len]; with_reducible conv => whnf) | (rw [intD_len]; with_reducible conv => whnf) | (refine Exists.intro _ (And.intro (rfl : _ = some _) ?_); with_reducible conv => whnf) | (refine And.intro (okII _ _) ?_; rw [eqD_ii]; with_reducible conv => whnf) | (refine And.intro (by first | assumption | exact Exists.intro _ (by assumption) | exact ⟨rfl, rfl, by decide, by decide⟩ | exact Nat.le_of_ble_eq_true rfl | exact rfl) ?_; with_reducible conv => whnf) | (rw [isLst_at (by assumption)]; with_reducible conv => whnf) | (refine ifT rfl ?_; with_reducible conv => whnf) | (refine ifF rfl ?_; with_reducible conv => whnf) | (refine it_at (by assumption) ?_; with_reducible conv => whnf)))
    refine ⟨_, _, rfl, fun S2 h2 => ?_⟩
    rw [← xr_take hi1]
    exact ⟨_, rfl, hs.trans h2⟩
  · rintro ρ' S' ⟨o2, rfl, hs⟩
    rw [natD_len, List.take_length]
    ((with_reducible conv => whnf); repeat (first | (rw [natD_len]; with_reducible conv => whnf) | (rw [intD_len]; with_reducible conv => whnf) | (refine Exists.intro _ (And.intro (rfl : _ = some _) ?_); with_reducible conv => whnf) | (refine And.intro (okII _ _) ?_; rw [eqD_ii]; with_reducible conv => whnf) | (refine And.intro (by first | assumption | exact Exists.intro _ (by assumption) | exact ⟨rfl, rfl, by decide, by decide⟩ | exact Nat.le_of_ble_eq_true rfl | exact rfl) ?_; with_reducible conv => whnf) | (rw [isLst_at (by assumption)]; with_reducible conv => whnf) | (refine ifT rfl ?_; with_reducible conv => whnf) | (refine ifF rfl ?_; with_reducible conv => whnf) | (refine it_at (by assumption) ?_; with_reducible conv => whnf)))
    exact k _ hs
@[reducible] def optP : Option (Nat × Nat) → D
  | none => .non
  | some (k, y) => .tup [.int (k : Nat), .int (y : Nat)]
@[reducible] def sp_move : Spc := fun ds S Q => ∃ h, ds = [.tup (natD h)] ∧ h.length ≤ 100 ∧ ∀ S', Sub S S' → Q (optP (hm h)) S'
theorem body_heaps_move : Body 4 1 (w_heaps_move sp_added sp_two) sp_move := by
  rintro ds S Q _ ⟨h, rfl, hl, k⟩
  unfold w_heaps_move
  (simp only [start, List.map_cons, List.map_nil, List.length_cons, List.length_nil, Nat.reduceAdd, Nat.reduceSub, List.replicate_succ, List.replicate_zero, List.cons_append, List.nil_append, Nat.sub_self, Nat.zero_add])
  ((with_reducible conv => whnf); repeat (first | (rw [natD_len]; with_reducible conv => whnf) | (rw [intD_len]; with_reducible conv => whnf) | (refine Exists.intro _ (And.intro (rfl : _ = some _) ?_); with_reducible conv => whnf) | (refine And.intro (okII _ _) ?_; rw [eqD_ii]; with_reducible conv => whnf) | (refine And.intro (by first | assumption | exact Exists.intro _ (by assumption) | exact ⟨rfl, rfl, by decide, by decide⟩ | exact Nat.le_of_ble_eq_true rfl | exact rfl) ?_; with_reducible conv => whnf) | (rw [isLst_at (by assumption)]; with_reducible conv => whnf) | (refine ifT rfl ?_; with_reducible conv => whnf) | (refine ifF rfl ?_; with_reducible conv => whnf) | (refine it_at (by assumption) ?_; with_reducible conv => whnf)))
  refine ⟨h, rfl, hl, fun S1 s1 => ?_⟩
  ((with_reducible conv => whnf); repeat (first | (rw [natD_len]; with_reducible conv => whnf) | (rw [intD_len]; with_reducible conv => whnf) | (refine Exists.intro _ (And.intro (rfl : _ = some _) ?_); with_reducible conv => whnf) | (refine And.intro (okII _ _) ?_; rw [eqD_ii]; with_reducible conv => whnf) | (refine And.intro (by first | assumption | exact Exists.intro _ (by assumption) | exact ⟨rfl, rfl, by decide, by decide⟩ | exact Nat.le_of_ble_eq_true rfl | exact rfl) ?_; with_reducible conv => whnf) | (rw [isLst_at (by assumption)]; with_reducible conv => whnf) | (refine ifT rfl ?_; with_reducible conv => whnf) | (refine ifF rfl ?_; with_reducible conv => whnf) | (refine it_at (by assumption) ?_; with_reducible conv => whnf)))
  refine ⟨⟨by omega, by omega⟩, ?_⟩
  refine Loop_mk (fun i ρ S' => ∃ o2 o3, ρ = [some (.tup (natD h)), some (.int (xr h : Nat)), o2, o3] ∧ hmP (xr h) h i = none ∧ Sub S S') ⟨none, none, rfl, rfl, s1⟩ (by intros; trivial) ?_ ?_
  · rintro i d ρ' S' hi ⟨o2, o3, rfl, hn, hs⟩
    obtain ⟨hi1, rfl⟩ := rangeD_get hi
    have hih : i < h.length := by omega
    rw [show (0 : Int) + i = i by omega]
    ((with_reducible conv => whnf); repeat (first | (rw [natD_len]; with_reducible conv => whnf) | (rw [intD_len]; with_reducible conv => whnf) | (refine Exists.intro _ (And.intro (rfl : _ = some _) ?_); with_reducible conv => whnf) | (refine And.intro (okII _ _) ?_; rw [eqD_ii]; with_reducible conv => whnf) | (refine And.intro (by first | assumption | exact Exists.intro _ (by assumption) | exact ⟨rfl, rfl, by decide, by decide⟩ | exact Nat.le_of_ble_eq_true rfl | exact rfl) ?_; with_reducible conv => whnf) | (rw [isLst_at (by assumption)]; with_reducible conv => whnf) | (refine ifT rfl ?_; with_reducible conv => whnf) | (refine ifF rfl ?_; with_reducible conv => whnf) | (refine it_at (by assumption) ?_; with_reducible conv => whnf)))
    refine ⟨_, atZ_natD hih, ?_⟩
    ((with_reducible conv => whnf); repeat (first | (rw [natD_len]; with_reducible conv => whnf) | (rw [intD_len]; with_reducible conv => whnf) | (refine Exists.intro _ (And.intro (rfl : _ = some _) ?_); with_reducible conv => whnf) | (refine And.intro (okII _ _) ?_; rw [eqD_ii]; with_reducible conv => whnf) | (refine And.intro (by first | assumption | exact Exists.intro _ (by assumption) | exact ⟨rfl, rfl, by decide, by decide⟩ | exact Nat.le_of_ble_eq_true rfl | exact rfl) ?_; with_reducible conv => whnf) | (rw [isLst_at (by assumption)]; with_reducible conv => whnf) | (refine ifT rfl ?_; with_reducible conv => whnf) | (refine ifF rfl ?_; with_reducible conv => whnf) | (refine it_at (by assumption) ?_; with_reducible conv => whnf)))
    refine ⟨_, _, rfl, fun S2 h2 => ?_⟩
    have hs2 := hs.trans h2
    ((with_reducible conv => whnf); repeat (first | (rw [natD_len]; with_reducible conv => whnf) | (rw [intD_len]; with_reducible conv => whnf) | (refine Exists.intro _ (And.intro (rfl : _ = some _) ?_); with_reducible conv => whnf) | (refine And.intro (okII _ _) ?_; rw [eqD_ii]; with_reducible conv => whnf) | (refine And.intro (by first | assumption | exact Exists.intro _ (by assumption) | exact ⟨rfl, rfl, by decide, by decide⟩ | exact Nat.le_of_ble_eq_true rfl | exact rfl) ?_; with_reducible conv => whnf) | (rw [isLst_at (by assumption)]; with_reducible conv => whnf) | (refine ifT rfl ?_; with_reducible conv => whnf) | (refine ifF rfl ?_; with_reducible conv => whnf) | (refine it_at (by assumption) ?_; with_reducible conv => whnf)))
    refine ⟨_, atZ_natD hih, ?_⟩
    ((with_reducible conv => whnf); repeat (first | (rw [natD_len]; with_reducible conv => whnf) | (rw [intD_len]; with_reducible conv => whnf) | (refine Exists.intro _ (And.intro (rfl : _ = some _) ?_); with_reducible conv => whnf) | (refine And.intro (okII _ _) ?_; rw [eqD_ii]; with_reducible conv => whnf) | (refine And.intro (by first | assumption | exact Exists.intro _ (by assumption) | exact ⟨rfl, rfl, by decide, by decide⟩ | exact Nat.le_of_ble_eq_true rfl | exact rfl) ?_; with_reducible conv => whnf) | (rw [isLst_at (by assumption)]; with_reducible conv => whnf) | (refine ifT rfl ?_; with_reducible conv => whnf) | (refine ifF rfl ?_; with_reducible conv => whnf) | (refine it_at (by assumption) ?_; with_reducible conv => whnf)))
    have hm1 : hmP (xr h) h (i + 1) = if (xr h ^^^ h.getD i 0) < h.getD i 0 then some (i, xr h ^^^ h.getD i 0) else none := by
      conv => lhs; unfold hmP
      rw [hn]
    refine ite_d (fun hc => ?_) fun hc => ?_
    · rw [if_pos (by omega)] at hm1
      have fin := k _ hs2
      rw [show hm h = some (i, xr h ^^^ h.getD i 0) from hmP_keep hm1 _ (by omega)] at fin
      ((with_reducible conv => whnf); repeat (first | (rw [natD_len]; with_reducible conv => whnf) | (rw [intD_len]; with_reducible conv => whnf) | (refine Exists.intro _ (And.intro (rfl : _ = some _) ?_); with_reducible conv => whnf) | (refine And.intro (okII _ _) ?_; rw [eqD_ii]; with_reducible conv => whnf) | (refine And.intro (by first | assumption | exact Exists.intro _ (by assumption) | exact ⟨rfl, rfl, by decide, by decide⟩ | exact Nat.le_of_ble_eq_true rfl | exact rfl) ?_; with_reducible conv => whnf) | (rw [isLst_at (by assumption)]; with_reducible conv => whnf) | (refine ifT rfl ?_; with_reducible conv => whnf) | (refine ifF rfl ?_; with_reducible conv => whnf) | (refine it_at (by assumption) ?_; with_reducible conv => whnf)))
      exact fin
    · rw [if_neg (by omega)] at hm1
      exact ⟨_, _, rfl, hm1, hs2⟩
  · rintro ρ' S' ⟨o2, o3, rfl, hn, hs⟩
    rw [rangeD_len, show ((h.length : Int) - 0).toNat = h.length by omega] at hn
    have fin := k _ hs
    rw [show hm h = none from hn] at fin
    exact fin
theorem sum_nat (h : List Nat) : (h.map fun (k : Nat) => (k : Int)).sum = (h.sum : Nat) := by
  induction h with
  | nil => rfl
  | cons a l ih => rw [List.map_cons, List.sum_cons, List.sum_cons, ih]; omega
@[reducible] def sp_loses : Spc := fun ds S Q => ∃ h, ds = [.tup (natD h)] ∧ h.length ≤ 100 ∧ ∀ S', Sub S S' → Q (.bl (F false h)) S'
theorem body_last_loses : Body 2 1 (w_last_loses sp_added) sp_loses := by
  rintro ds S Q _ ⟨h, rfl, hl, k⟩
  unfold w_last_loses
  (simp only [start, List.map_cons, List.map_nil, List.length_cons, List.length_nil, Nat.reduceAdd, Nat.reduceSub, List.replicate_succ, List.replicate_zero, List.cons_append, List.nil_append, Nat.sub_self, Nat.zero_add])
  (with_reducible conv => whnf)
  rw [natD_map]
  refine Lc_lm (xs := h) (e := fun (k : Nat) => D.int (k : Int)) (fun y => .bl (decide (y ≤ 1))) (by unfold szL; omega) (by intros; trivial) (fun y S' R _ _ hR => ?_) fun S1 s1 => ?_
  · ((with_reducible conv => whnf); repeat (first | (rw [natD_len]; with_reducible conv => whnf) | (rw [intD_len]; with_reducible conv => whnf) | (refine Exists.intro _ (And.intro (rfl : _ = some _) ?_); with_reducible conv => whnf) | (refine And.intro (okII _ _) ?_; rw [eqD_ii]; with_reducible conv => whnf) | (refine And.intro (by first | assumption | exact Exists.intro _ (by assumption) | exact ⟨rfl, rfl, by decide, by decide⟩ | exact Nat.le_of_ble_eq_true rfl | exact rfl) ?_; with_reducible conv => whnf) | (rw [isLst_at (by assumption)]; with_reducible conv => whnf) | (refine ifT rfl ?_; with_reducible conv => whnf) | (refine ifF rfl ?_; with_reducible conv => whnf) | (refine it_at (by assumption) ?_; with_reducible conv => whnf)))
    have := hR S' (Sub.refl _)
    rw [show decide (y ≤ 1) = decide ((y : Int) ≤ 1) by rw [decide_eq_decide]; omega] at this
    exact this
  have e1 : (S1 ++ [O.lst (h.map fun y => D.bl (decide (y ≤ 1)))])[S1.length]? = some (.lst ((h.map fun y => decide (y ≤ 1)).map D.bl)) := by rw [at_push, List.map_map]; rfl
  have s2 := s1.app [O.lst (h.map fun y => D.bl (decide (y ≤ 1)))]
  generalize S1 ++ [O.lst (h.map fun y => D.bl (decide (y ≤ 1)))] = S2 at *
  (with_reducible conv => whnf)
  refine ⟨_, e1, ?_⟩
  have eo : ((h.map fun y => decide (y ≤ 1)).all id) = ones h := by unfold ones; rw [List.all_map]; rfl
  rw [eo]
  rw [← natD_map]
  have fin := k
  unfold F at fin
  rw [if_neg (by decide)] at fin
  by_cases c : ones h = true
  · rw [c] at fin ⊢
    rw [if_pos rfl] at fin
    ((with_reducible conv => whnf); repeat (first | (rw [natD_len]; with_reducible conv => whnf) | (rw [intD_len]; with_reducible conv => whnf) | (refine Exists.intro _ (And.intro (rfl : _ = some _) ?_); with_reducible conv => whnf) | (refine And.intro (okII _ _) ?_; rw [eqD_ii]; with_reducible conv => whnf) | (refine And.intro (by first | assumption | exact Exists.intro _ (by assumption) | exact ⟨rfl, rfl, by decide, by decide⟩ | exact Nat.le_of_ble_eq_true rfl | exact rfl) ?_; with_reducible conv => whnf) | (rw [isLst_at (by assumption)]; with_reducible conv => whnf) | (refine ifT rfl ?_; with_reducible conv => whnf) | (refine ifF rfl ?_; with_reducible conv => whnf) | (refine it_at (by assumption) ?_; with_reducible conv => whnf)))
    rw [sum_nat, fmod2]
    have f := fin S2 s2
    rw [show decide (h.sum % 2 = 0) = decide (((h.sum % 2 : Nat) : Int) = 0) by rw [decide_eq_decide]; omega] at f
    refine ⟨by decide, ?_⟩
    ((with_reducible conv => whnf); repeat (first | (rw [natD_len]; with_reducible conv => whnf) | (rw [intD_len]; with_reducible conv => whnf) | (refine Exists.intro _ (And.intro (rfl : _ = some _) ?_); with_reducible conv => whnf) | (refine And.intro (okII _ _) ?_; rw [eqD_ii]; with_reducible conv => whnf) | (refine And.intro (by first | assumption | exact Exists.intro _ (by assumption) | exact ⟨rfl, rfl, by decide, by decide⟩ | exact Nat.le_of_ble_eq_true rfl | exact rfl) ?_; with_reducible conv => whnf) | (rw [isLst_at (by assumption)]; with_reducible conv => whnf) | (refine ifT rfl ?_; with_reducible conv => whnf) | (refine ifF rfl ?_; with_reducible conv => whnf) | (refine it_at (by assumption) ?_; with_reducible conv => whnf)))
    exact f
  · have c : ones h = false := by simpa using c
    rw [c] at fin ⊢
    rw [if_neg (by decide)] at fin
    ((with_reducible conv => whnf); repeat (first | (rw [natD_len]; with_reducible conv => whnf) | (rw [intD_len]; with_reducible conv => whnf) | (refine Exists.intro _ (And.intro (rfl : _ = some _) ?_); with_reducible conv => whnf) | (refine And.intro (okII _ _) ?_; rw [eqD_ii]; with_reducible conv => whnf) | (refine And.intro (by first | assumption | exact Exists.intro _ (by assumption) | exact ⟨rfl, rfl, by decide, by decide⟩ | exact Nat.le_of_ble_eq_true rfl | exact rfl) ?_; with_reducible conv => whnf) | (rw [isLst_at (by assumption)]; with_reducible conv => whnf) | (refine ifT rfl ?_; with_reducible conv => whnf) | (refine ifF rfl ?_; with_reducible conv => whnf) | (refine it_at (by assumption) ?_; with_reducible conv => whnf)))
    refine ⟨h, rfl, hl, fun S3 s3 => ?_⟩
    have f := fin S3 (s2.trans s3)
    rw [show decide (xr h ≠ 0) = !decide (((xr h : Nat) : Int) = 0) by
      rw [← decide_not, decide_eq_decide]
      omega] at f
    ((with_reducible conv => whnf); repeat (first | (rw [natD_len]; with_reducible conv => whnf) | (rw [intD_len]; with_reducible conv => whnf) | (refine Exists.intro _ (And.intro (rfl : _ = some _) ?_); with_reducible conv => whnf) | (refine And.intro (okII _ _) ?_; rw [eqD_ii]; with_reducible conv => whnf) | (refine And.intro (by first | assumption | exact Exists.intro _ (by assumption) | exact ⟨rfl, rfl, by decide, by decide⟩ | exact Nat.le_of_ble_eq_true rfl | exact rfl) ?_; with_reducible conv => whnf) | (rw [isLst_at (by assumption)]; with_reducible conv => whnf) | (refine ifT rfl ?_; with_reducible conv => whnf) | (refine ifF rfl ?_; with_reducible conv => whnf) | (refine it_at (by assumption) ?_; with_reducible conv => whnf)))
    exact f
end K79
set_option linter.all false
set_option maxRecDepth 100000
set_option maxHeartbeats 4000000
namespace K79
open DL
def bits (x L : Nat) : List Nat := (List.range L).map fun k => x / 2 ^ k % 2
theorem bits_len (x L : Nat) : (bits x L).length = L := by unfold bits; rw [List.length_map, List.length_range]
theorem bits_get {x L k : Nat} (h : k < L) : (bits x L).getD k 0 = x / 2 ^ k % 2 := by
  unfold bits
  rw [List.getD_eq_getElem?_getD, List.getElem?_map, List.getElem?_range h]
  rfl
theorem bits_succ (x L : Nat) : bits x (L + 1) = bits x L ++ [x / 2 ^ L % 2] := by unfold bits; rw [List.range_succ, List.map_append]; rfl
theorem natD_app (a b : List Nat) : natD a ++ natD b = natD (a ++ b) := by simp [natD, intD]
@[reducible] def sp_bin : Spc := fun ds S Q => ∃ x : Nat, ds = [.int x] ∧ x < 2 ^ 300 ∧ ∀ L p S', x < 2 ^ L → L ≤ 300 → S.length ≤ p → S'[p]? = some (.lst (natD (bits x L))) → Sub S S' → Q (.ref p) S'
theorem body_law_binary : Body 3 1 w_law_binary sp_bin := by
  rintro ds S Q _ ⟨x, rfl, hx, k⟩
  unfold w_law_binary
  (simp only [start, List.map_cons, List.map_nil, List.length_cons, List.length_nil, Nat.reduceAdd, Nat.reduceSub, List.replicate_succ, List.replicate_zero, List.cons_append, List.nil_append, Nat.sub_self, Nat.zero_add])
  ((with_reducible conv => whnf); repeat (first | (rw [natD_len]; with_reducible conv => whnf) | (rw [intD_len]; with_reducible conv => whnf) | (refine Exists.intro _ (And.intro (rfl : _ = some _) ?_); with_reducible conv => whnf) | (refine And.intro (okII _ _) ?_; rw [eqD_ii]; with_reducible conv => whnf) | (refine And.intro (by first | assumption | exact Exists.intro _ (by assumption) | exact ⟨rfl, rfl, by decide, by decide⟩ | exact Nat.le_of_ble_eq_true rfl | exact rfl) ?_; with_reducible conv => whnf) | (rw [isLst_at (by assumption)]; with_reducible conv => whnf) | (refine ifT rfl ?_; with_reducible conv => whnf) | (refine ifF rfl ?_; with_reducible conv => whnf) | (refine it_at (by assumption) ?_; with_reducible conv => whnf)))
  have e0 := at_push S (.lst [])
  have s0 := (Sub.refl S).app [.lst []]
  generalize S ++ [.lst []] = S1 at *
  refine ⟨fun m ρ S' => ∃ L, m = x / 2 ^ L ∧ L ≤ 300 ∧ ρ = [some (.int x), some (.ref S.length), some (.int (x / 2 ^ L : Nat))] ∧ S'[S.length]? = some (.lst (natD (bits x L))) ∧ Sub S S', ⟨x, 0, by rw [Nat.pow_zero, Nat.div_one], by decide, by rw [Nat.pow_zero, Nat.div_one], e0, s0⟩, ?_⟩
  rintro m ρ' S' ⟨L, rfl, hL, rfl, f1, f2⟩
  ((with_reducible conv => whnf); repeat (first | (rw [natD_len]; with_reducible conv => whnf) | (rw [intD_len]; with_reducible conv => whnf) | (refine Exists.intro _ (And.intro (rfl : _ = some _) ?_); with_reducible conv => whnf) | (refine And.intro (okII _ _) ?_; rw [eqD_ii]; with_reducible conv => whnf) | (refine And.intro (by first | assumption | exact Exists.intro _ (by assumption) | exact ⟨rfl, rfl, by decide, by decide⟩ | exact Nat.le_of_ble_eq_true rfl | exact rfl) ?_; with_reducible conv => whnf) | (rw [isLst_at (by assumption)]; with_reducible conv => whnf) | (refine ifT rfl ?_; with_reducible conv => whnf) | (refine ifF rfl ?_; with_reducible conv => whnf) | (refine it_at (by assumption) ?_; with_reducible conv => whnf)))
  refine ite_d (fun hc => ?_) fun hc => ?_
  · have hL2 : L < 300 := by
      false_or_by_contra
      have : L = 300 := by omega
      subst this
      rw [Nat.div_eq_of_lt hx] at hc
      omega
    ((with_reducible conv => whnf); repeat (first | (rw [natD_len]; with_reducible conv => whnf) | (rw [intD_len]; with_reducible conv => whnf) | (refine Exists.intro _ (And.intro (rfl : _ = some _) ?_); with_reducible conv => whnf) | (refine And.intro (okII _ _) ?_; rw [eqD_ii]; with_reducible conv => whnf) | (refine And.intro (by first | assumption | exact Exists.intro _ (by assumption) | exact ⟨rfl, rfl, by decide, by decide⟩ | exact Nat.le_of_ble_eq_true rfl | exact rfl) ?_; with_reducible conv => whnf) | (rw [isLst_at (by assumption)]; with_reducible conv => whnf) | (refine ifT rfl ?_; with_reducible conv => whnf) | (refine ifF rfl ?_; with_reducible conv => whnf) | (refine it_at (by assumption) ?_; with_reducible conv => whnf)))
    refine ⟨by decide, ?_⟩
    rw [fmod2]
    ((with_reducible conv => whnf); repeat (first | (rw [natD_len]; with_reducible conv => whnf) | (rw [intD_len]; with_reducible conv => whnf) | (refine Exists.intro _ (And.intro (rfl : _ = some _) ?_); with_reducible conv => whnf) | (refine And.intro (okII _ _) ?_; rw [eqD_ii]; with_reducible conv => whnf) | (refine And.intro (by first | assumption | exact Exists.intro _ (by assumption) | exact ⟨rfl, rfl, by decide, by decide⟩ | exact Nat.le_of_ble_eq_true rfl | exact rfl) ?_; with_reducible conv => whnf) | (rw [isLst_at (by assumption)]; with_reducible conv => whnf) | (refine ifT rfl ?_; with_reducible conv => whnf) | (refine ifF rfl ?_; with_reducible conv => whnf) | (refine it_at (by assumption) ?_; with_reducible conv => whnf)))
    refine ⟨by rw [bits_len]; unfold szL; omega, ?_⟩
    ((with_reducible conv => whnf); repeat (first | (rw [natD_len]; with_reducible conv => whnf) | (rw [intD_len]; with_reducible conv => whnf) | (refine Exists.intro _ (And.intro (rfl : _ = some _) ?_); with_reducible conv => whnf) | (refine And.intro (okII _ _) ?_; rw [eqD_ii]; with_reducible conv => whnf) | (refine And.intro (by first | assumption | exact Exists.intro _ (by assumption) | exact ⟨rfl, rfl, by decide, by decide⟩ | exact Nat.le_of_ble_eq_true rfl | exact rfl) ?_; with_reducible conv => whnf) | (rw [isLst_at (by assumption)]; with_reducible conv => whnf) | (refine ifT rfl ?_; with_reducible conv => whnf) | (refine ifF rfl ?_; with_reducible conv => whnf) | (refine it_at (by assumption) ?_; with_reducible conv => whnf)))
    refine ⟨⟨by decide, by decide⟩, ?_⟩
    rw [fdiv2]
    have e2 : x / 2 ^ L / 2 = x / 2 ^ (L + 1) := by rw [Nat.div_div_eq_div_mul, Nat.pow_succ]
    refine ⟨x / 2 ^ (L + 1), by rw [← e2]; omega, L + 1, rfl, hL2, by rw [← e2], ?_, f2.put (Nat.le_refl _)⟩
    rw [at_set f1, bits_succ, ← natD_app]
    rfl
  · ((with_reducible conv => whnf); repeat (first | (rw [natD_len]; with_reducible conv => whnf) | (rw [intD_len]; with_reducible conv => whnf) | (refine Exists.intro _ (And.intro (rfl : _ = some _) ?_); with_reducible conv => whnf) | (refine And.intro (okII _ _) ?_; rw [eqD_ii]; with_reducible conv => whnf) | (refine And.intro (by first | assumption | exact Exists.intro _ (by assumption) | exact ⟨rfl, rfl, by decide, by decide⟩ | exact Nat.le_of_ble_eq_true rfl | exact rfl) ?_; with_reducible conv => whnf) | (rw [isLst_at (by assumption)]; with_reducible conv => whnf) | (refine ifT rfl ?_; with_reducible conv => whnf) | (refine ifF rfl ?_; with_reducible conv => whnf) | (refine it_at (by assumption) ?_; with_reducible conv => whnf)))
    refine k L _ _ ?_ hL (Nat.le_refl _) f1 f2
    have : x / 2 ^ L = 0 := by
      generalize x / 2 ^ L = q at *
      omega
    exact (Nat.div_eq_zero_iff_lt (Nat.two_pow_pos L)).mp this
/-! without carrying -/
def oddC (h : List Nat) (k : Nat) : Nat := (h.filter fun x => decide (x / 2 ^ k % 2 = 1)).length
theorem oddC_par : ∀ (h : List Nat) (k : Nat), oddC h k % 2 = xr h / 2 ^ k % 2
  | [], k => by show 0 % 2 = 0 / 2 ^ k % 2; rw [Nat.zero_div]
  | x :: l, k => by
    have ih := oddC_par l k
    have e : (x ^^^ xr l) / 2 ^ k = x / 2 ^ k ^^^ xr l / 2 ^ k := Nat.xor_div_two_pow
    have b := Nat.xor_mod_two_eq_one (a := x / 2 ^ k) (b := xr l / 2 ^ k)
    show ((x :: l).filter _).length % 2 = (x ^^^ xr l) / 2 ^ k % 2
    rw [e, List.filter_cons]
    unfold oddC at ih
    by_cases c : x / 2 ^ k % 2 = 1
    · rw [if_pos (decide_eq_true c), List.length_cons]
      omega
    · rw [if_neg (by simpa using c)]
      omega
theorem xr_lt : ∀ {h : List Nat} {K : Nat}, (∀ x ∈ h, x < 2 ^ K) → xr h < 2 ^ K
  | [], K, _ => Nat.two_pow_pos K
  | x :: l, K, h => Nat.xor_lt_two_pow (h x List.mem_cons_self) (xr_lt fun y hy => h y (List.mem_cons_of_mem _ hy))
structure Row where
  p : Nat
  L : Nat
  x : Nat
structure RowsOk (rows : List Row) (h : List Nat) (S : Sto) : Prop where
  map : rows.map Row.x = h
  at_ : ∀ r ∈ rows, S[r.p]? = some (.lst (natD (bits r.x r.L)))
  lt : ∀ r ∈ rows, r.x < 2 ^ r.L
  le : ∀ r ∈ rows, r.L ≤ 300
theorem RowsOk.sub {rows : List Row} {h : List Nat} {S S' : Sto} (o : RowsOk rows h S) (s : Sub S S') : RowsOk rows h S' := ⟨o.map, fun r hr => s _ _ (o.at_ r hr), o.lt, o.le⟩
theorem RowsOk.len {rows : List Row} {h : List Nat} {S : Sto} (o : RowsOk rows h S) : rows.length = h.length := by rw [← o.map, List.length_map]
@[reducible] def rowD (r : Row) : D := .ref r.p
@[reducible] def sp_wc : Spc := fun ds S Q => ∃ n h, ds = [.ref n] ∧ S[n]? = some (.lst (natD h)) ∧ h.length ≤ 100 ∧ (∀ x ∈ h, x < 2 ^ 300) ∧ ∀ S', Sub S S' → Q (.int (xr h : Nat)) S'
theorem body_law_without_carrying : Body 8 1 (w_law_without_carrying sp_bin) sp_wc := by
  rintro ds S Q _ ⟨n, h, rfl, e0, hl, hx, k⟩
  unfold w_law_without_carrying
  (simp only [start, List.map_cons, List.map_nil, List.length_cons, List.length_nil, Nat.reduceAdd, Nat.reduceSub, List.replicate_succ, List.replicate_zero, List.cons_append, List.nil_append, Nat.sub_self, Nat.zero_add])
  ((with_reducible conv => whnf); repeat (first | (rw [natD_len]; with_reducible conv => whnf) | (rw [intD_len]; with_reducible conv => whnf) | (refine Exists.intro _ (And.intro (rfl : _ = some _) ?_); with_reducible conv => whnf) | (refine And.intro (okII _ _) ?_; rw [eqD_ii]; with_reducible conv => whnf) | (refine And.intro (by first | assumption | exact Exists.intro _ (by assumption) | exact ⟨rfl, rfl, by decide, by decide⟩ | exact Nat.le_of_ble_eq_true rfl | exact rfl) ?_; with_reducible conv => whnf) | (rw [isLst_at (by assumption)]; with_reducible conv => whnf) | (refine ifT rfl ?_; with_reducible conv => whnf) | (refine ifF rfl ?_; with_reducible conv => whnf) | (refine it_at (by assumption) ?_; with_reducible conv => whnf)))
  refine ⟨by rw [natD_len]; unfold szL; omega, fun i acc S' => ∃ rows, acc = rows.map rowD ∧ RowsOk rows (h.take i) S' ∧ Sub S S', ⟨[], rfl, ⟨rfl, by simp, by simp, by simp⟩, Sub.refl _⟩, ?_, ?_, ?_⟩
  · rintro i acc S' ⟨rows, rfl, hr, hs⟩
    exact hs _ _ e0
  · rintro i d acc S' hi ⟨rows, rfl, hr, hs⟩
    obtain ⟨hi1, rfl⟩ := natD_getD hi
    ((with_reducible conv => whnf); repeat (first | (rw [natD_len]; with_reducible conv => whnf) | (rw [intD_len]; with_reducible conv => whnf) | (refine Exists.intro _ (And.intro (rfl : _ = some _) ?_); with_reducible conv => whnf) | (refine And.intro (okII _ _) ?_; rw [eqD_ii]; with_reducible conv => whnf) | (refine And.intro (by first | assumption | exact Exists.intro _ (by assumption) | exact ⟨rfl, rfl, by decide, by decide⟩ | exact Nat.le_of_ble_eq_true rfl | exact rfl) ?_; with_reducible conv => whnf) | (rw [isLst_at (by assumption)]; with_reducible conv => whnf) | (refine ifT rfl ?_; with_reducible conv => whnf) | (refine ifF rfl ?_; with_reducible conv => whnf) | (refine it_at (by assumption) ?_; with_reducible conv => whnf)))
    have hm : h.getD i 0 ∈ h := by
      rw [List.getD_eq_getElem?_getD, List.getElem?_eq_getElem hi1]
      exact List.getElem_mem _
    refine ⟨h.getD i 0, rfl, hx _ hm, fun L p S2 h1 h2 h3 h4 h5 => ?_⟩
    have hr2 := hr.sub h5
    refine ⟨rows ++ [⟨p, L, h.getD i 0⟩], by rw [List.map_append]; rfl, ⟨?_, ?_, ?_, ?_⟩, hs.trans h5⟩
    · rw [List.map_append, hr.map, List.take_add_one, List.getElem?_eq_getElem hi1, List.getD_eq_getElem?_getD, List.getElem?_eq_getElem hi1]
      rfl
    · intro r m
      rcases List.mem_append.mp m with m | m
      · exact hr2.at_ r m
      · rw [List.mem_singleton.mp m]; exact h4
    · intro r m
      rcases List.mem_append.mp m with m | m
      · exact hr2.lt r m
      · rw [List.mem_singleton.mp m]; exact h1
    · intro r m
      rcases List.mem_append.mp m with m | m
      · exact hr2.le r m
      · rw [List.mem_singleton.mp m]; exact h2
  rintro acc S1 ⟨rows, rfl, hr, hs⟩
  rw [natD_len, List.take_length] at hr
  have hrl := hr.len
  have e1 := at_push S1 (.lst (rows.map rowD))
  have hr := hr.sub (Sub.push S1 [.lst (rows.map rowD)])
  have hs := hs.app [.lst (rows.map rowD)]
  generalize S1 ++ [.lst (rows.map rowD)] = S2 at *
  generalize S1.length = pr at *
  ((with_reducible conv => whnf); repeat (first | (rw [natD_len]; with_reducible conv => whnf) | (rw [intD_len]; with_reducible conv => whnf) | (refine Exists.intro _ (And.intro (rfl : _ = some _) ?_); with_reducible conv => whnf) | (refine And.intro (okII _ _) ?_; rw [eqD_ii]; with_reducible conv => whnf) | (refine And.intro (by first | assumption | exact Exists.intro _ (by assumption) | exact ⟨rfl, rfl, by decide, by decide⟩ | exact Nat.le_of_ble_eq_true rfl | exact rfl) ?_; with_reducible conv => whnf) | (rw [isLst_at (by assumption)]; with_reducible conv => whnf) | (refine ifT rfl ?_; with_reducible conv => whnf) | (refine ifF rfl ?_; with_reducible conv => whnf) | (refine it_at (by assumption) ?_; with_reducible conv => whnf)))
  have e2 := at_push S2 (.lst [.int 0])
  have e1 := push_at e1 [.lst [.int 0]]
  have hr := hr.sub (Sub.push S2 [.lst [.int 0]])
  have hs := hs.app [.lst [.int 0]]
  ((with_reducible conv => whnf); repeat (first | (rw [natD_len]; with_reducible conv => whnf) | (rw [intD_len]; with_reducible conv => whnf) | (refine Exists.intro _ (And.intro (rfl : _ = some _) ?_); with_reducible conv => whnf) | (refine And.intro (okII _ _) ?_; rw [eqD_ii]; with_reducible conv => whnf) | (refine And.intro (by first | assumption | exact Exists.intro _ (by assumption) | exact ⟨rfl, rfl, by decide, by decide⟩ | exact Nat.le_of_ble_eq_true rfl | exact rfl) ?_; with_reducible conv => whnf) | (rw [isLst_at (by assumption)]; with_reducible conv => whnf) | (refine ifT rfl ?_; with_reducible conv => whnf) | (refine ifF rfl ?_; with_reducible conv => whnf) | (refine it_at (by assumption) ?_; with_reducible conv => whnf)))
  generalize S2 ++ [.lst [.int 0]] = S3 at *
  refine Lc_lm (xs := rows) (e := rowD) (fun r => .int (r.L : Nat)) (by unfold szL; omega) (fun S' h => h _ _ e1) (fun r S' R m h hR => ?_) fun S4 s4 => ?_
  · have f := h _ _ (hr.at_ r m)
    ((with_reducible conv => whnf); repeat (first | (rw [natD_len]; with_reducible conv => whnf) | (rw [intD_len]; with_reducible conv => whnf) | (refine Exists.intro _ (And.intro (rfl : _ = some _) ?_); with_reducible conv => whnf) | (refine And.intro (okII _ _) ?_; rw [eqD_ii]; with_reducible conv => whnf) | (refine And.intro (by first | assumption | exact Exists.intro _ (by assumption) | exact ⟨rfl, rfl, by decide, by decide⟩ | exact Nat.le_of_ble_eq_true rfl | exact rfl) ?_; with_reducible conv => whnf) | (rw [isLst_at (by assumption)]; with_reducible conv => whnf) | (refine ifT rfl ?_; with_reducible conv => whnf) | (refine ifF rfl ?_; with_reducible conv => whnf) | (refine it_at (by assumption) ?_; with_reducible conv => whnf)))
    rw [bits_len]
    exact hR S' (Sub.refl _)
  have em : rows.map (fun r => D.int (r.L : Nat)) = natD (rows.map Row.L) := by rw [natD_map, List.map_map]; rfl
  rw [em]
  have e4 := at_push S4 (.lst (natD (rows.map Row.L)))
  have e2 := push_at (s4 _ _ e2) [.lst (natD (rows.map Row.L))]
  have e1 := push_at (s4 _ _ e1) [.lst (natD (rows.map Row.L))]
  have s5 := s4.app [.lst (natD (rows.map Row.L))]
  have hr := hr.sub s5
  have hs := hs.trans s5
  ((with_reducible conv => whnf); repeat (first | (rw [natD_len]; with_reducible conv => whnf) | (rw [intD_len]; with_reducible conv => whnf) | (refine Exists.intro _ (And.intro (rfl : _ = some _) ?_); with_reducible conv => whnf) | (refine And.intro (okII _ _) ?_; rw [eqD_ii]; with_reducible conv => whnf) | (refine And.intro (by first | assumption | exact Exists.intro _ (by assumption) | exact ⟨rfl, rfl, by decide, by decide⟩ | exact Nat.le_of_ble_eq_true rfl | exact rfl) ?_; with_reducible conv => whnf) | (rw [isLst_at (by assumption)]; with_reducible conv => whnf) | (refine ifT rfl ?_; with_reducible conv => whnf) | (refine ifF rfl ?_; with_reducible conv => whnf) | (refine it_at (by assumption) ?_; with_reducible conv => whnf)))
  generalize S4 ++ [.lst (natD (rows.map Row.L))] = S5 at *
  refine ⟨by rw [List.length_map, List.length_singleton]; unfold szL; omega, ?_⟩
  rw [show [D.int 0] = natD [0] from rfl, natD_app]
  have e5 := at_push S5 (.lst (natD ([0] ++ rows.map Row.L)))
  have e1 := push_at e1 [.lst (natD ([0] ++ rows.map Row.L))]
  have hr := hr.sub (Sub.push S5 [.lst (natD ([0] ++ rows.map Row.L))])
  have hs := hs.app [.lst (natD ([0] ++ rows.map Row.L))]
  ((with_reducible conv => whnf); repeat (first | (rw [natD_len]; with_reducible conv => whnf) | (rw [intD_len]; with_reducible conv => whnf) | (refine Exists.intro _ (And.intro (rfl : _ = some _) ?_); with_reducible conv => whnf) | (refine And.intro (okII _ _) ?_; rw [eqD_ii]; with_reducible conv => whnf) | (refine And.intro (by first | assumption | exact Exists.intro _ (by assumption) | exact ⟨rfl, rfl, by decide, by decide⟩ | exact Nat.le_of_ble_eq_true rfl | exact rfl) ?_; with_reducible conv => whnf) | (rw [isLst_at (by assumption)]; with_reducible conv => whnf) | (refine ifT rfl ?_; with_reducible conv => whnf) | (refine ifF rfl ?_; with_reducible conv => whnf) | (refine it_at (by assumption) ?_; with_reducible conv => whnf)))
  generalize S5 ++ [.lst (natD ([0] ++ rows.map Row.L))] = S6 at *
  refine ⟨([0] ++ rows.map Row.L).map fun (k : Nat) => (k : Int), by show (match S6[S5.length]? with | some (.lst xs) => some xs | _ => none) = _; rw [e5], by simp, fun mx m1 m2 => ?_⟩
  obtain ⟨K, hK, rfl⟩ := List.mem_map.mp m1
  have hK2 : ∀ r ∈ rows, r.L ≤ K := fun r m => by
    have := m2 (r.L : Nat) (List.mem_map.mpr ⟨r.L, List.mem_append.mpr (.inr (List.mem_map.mpr ⟨r, m, rfl⟩)), rfl⟩)
    omega
  have hK3 : K ≤ 300 := by
    rcases List.mem_append.mp hK with m | m
    · rw [List.mem_singleton.mp m]; omega
    · obtain ⟨r, m', rfl⟩ := List.mem_map.mp m
      exact hr.le r m'
  have hxK : xr h < 2 ^ K := xr_lt fun x m => by
    rw [← hr.map] at m
    obtain ⟨r, m', rfl⟩ := List.mem_map.mp m
    exact Nat.lt_of_lt_of_le (hr.lt r m') (Nat.pow_le_pow_right (by decide) (hK2 r m'))
  ((with_reducible conv => whnf); repeat (first | (rw [natD_len]; with_reducible conv => whnf) | (rw [intD_len]; with_reducible conv => whnf) | (refine Exists.intro _ (And.intro (rfl : _ = some _) ?_); with_reducible conv => whnf) | (refine And.intro (okII _ _) ?_; rw [eqD_ii]; with_reducible conv => whnf) | (refine And.intro (by first | assumption | exact Exists.intro _ (by assumption) | exact ⟨rfl, rfl, by decide, by decide⟩ | exact Nat.le_of_ble_eq_true rfl | exact rfl) ?_; with_reducible conv => whnf) | (rw [isLst_at (by assumption)]; with_reducible conv => whnf) | (refine ifT rfl ?_; with_reducible conv => whnf) | (refine ifF rfl ?_; with_reducible conv => whnf) | (refine it_at (by assumption) ?_; with_reducible conv => whnf)))
  refine ⟨⟨by omega, by omega⟩, ?_⟩
  refine Loop_mk (fun i ρ S' => ∃ o5 o7, ρ = [some (.ref n), some (.ref pr), none, some (.int (xr h % 2 ^ i : Nat)), some (.int (2 ^ i : Nat)), o5, none, o7] ∧ S'[pr]? = some (.lst (rows.map rowD)) ∧ RowsOk rows h S' ∧ Sub S S') ⟨none, none, by rw [Nat.pow_zero, Nat.mod_one]; rfl, e1, hr, hs⟩ (by intros; trivial) ?_ ?_
  · rintro i d ρ' S' hi ⟨o5, o7, rfl, f1, hr, hs⟩
    obtain ⟨hi1, rfl⟩ := rangeD_get hi
    rw [show (0 : Int) + i = i by omega]
    ((with_reducible conv => whnf); repeat (first | (rw [natD_len]; with_reducible conv => whnf) | (rw [intD_len]; with_reducible conv => whnf) | (refine Exists.intro _ (And.intro (rfl : _ = some _) ?_); with_reducible conv => whnf) | (refine And.intro (okII _ _) ?_; rw [eqD_ii]; with_reducible conv => whnf) | (refine And.intro (by first | assumption | exact Exists.intro _ (by assumption) | exact ⟨rfl, rfl, by decide, by decide⟩ | exact Nat.le_of_ble_eq_true rfl | exact rfl) ?_; with_reducible conv => whnf) | (rw [isLst_at (by assumption)]; with_reducible conv => whnf) | (refine ifT rfl ?_; with_reducible conv => whnf) | (refine ifF rfl ?_; with_reducible conv => whnf) | (refine it_at (by assumption) ?_; with_reducible conv => whnf)))
    refine Lc_lf (xs := rows) (e := rowD) (fun r => decide (r.x / 2 ^ i % 2 = 1)) rowD (by unfold szL; omega) (fun S' h => h _ _ f1) (fun r S7 R m h hR => ?_) fun S7 h7 => ?_
    · have f := h _ _ (hr.at_ r m)
      have hz := hR S7 (Sub.refl _)
      ((with_reducible conv => whnf); repeat (first | (rw [natD_len]; with_reducible conv => whnf) | (rw [intD_len]; with_reducible conv => whnf) | (refine Exists.intro _ (And.intro (rfl : _ = some _) ?_); with_reducible conv => whnf) | (refine And.intro (okII _ _) ?_; rw [eqD_ii]; with_reducible conv => whnf) | (refine And.intro (by first | assumption | exact Exists.intro _ (by assumption) | exact ⟨rfl, rfl, by decide, by decide⟩ | exact Nat.le_of_ble_eq_true rfl | exact rfl) ?_; with_reducible conv => whnf) | (rw [isLst_at (by assumption)]; with_reducible conv => whnf) | (refine ifT rfl ?_; with_reducible conv => whnf) | (refine ifF rfl ?_; with_reducible conv => whnf) | (refine it_at (by assumption) ?_; with_reducible conv => whnf)))
      rw [bits_len]
      refine ite_d (fun hc => ?_) fun hc => ?_
      · ((with_reducible conv => whnf); repeat (first | (rw [natD_len]; with_reducible conv => whnf) | (rw [intD_len]; with_reducible conv => whnf) | (refine Exists.intro _ (And.intro (rfl : _ = some _) ?_); with_reducible conv => whnf) | (refine And.intro (okII _ _) ?_; rw [eqD_ii]; with_reducible conv => whnf) | (refine And.intro (by first | assumption | exact Exists.intro _ (by assumption) | exact ⟨rfl, rfl, by decide, by decide⟩ | exact Nat.le_of_ble_eq_true rfl | exact rfl) ?_; with_reducible conv => whnf) | (rw [isLst_at (by assumption)]; with_reducible conv => whnf) | (refine ifT rfl ?_; with_reducible conv => whnf) | (refine ifF rfl ?_; with_reducible conv => whnf) | (refine it_at (by assumption) ?_; with_reducible conv => whnf)))
        refine ⟨_, atZ_natD (by rw [bits_len]; omega), ?_⟩
        rw [bits_get (by omega)]
        ((with_reducible conv => whnf); repeat (first | (rw [natD_len]; with_reducible conv => whnf) | (rw [intD_len]; with_reducible conv => whnf) | (refine Exists.intro _ (And.intro (rfl : _ = some _) ?_); with_reducible conv => whnf) | (refine And.intro (okII _ _) ?_; rw [eqD_ii]; with_reducible conv => whnf) | (refine And.intro (by first | assumption | exact Exists.intro _ (by assumption) | exact ⟨rfl, rfl, by decide, by decide⟩ | exact Nat.le_of_ble_eq_true rfl | exact rfl) ?_; with_reducible conv => whnf) | (rw [isLst_at (by assumption)]; with_reducible conv => whnf) | (refine ifT rfl ?_; with_reducible conv => whnf) | (refine ifF rfl ?_; with_reducible conv => whnf) | (refine it_at (by assumption) ?_; with_reducible conv => whnf)))
        refine ite_d (fun hc2 => ?_) fun hc2 => ?_
        · rw [if_pos (decide_eq_true (by omega))] at hz; exact hz
        · rw [if_neg (by rw [decide_eq_true_eq]; omega)] at hz; exact hz
      · have h0 : r.x / 2 ^ i = 0 := Nat.div_eq_of_lt (Nat.lt_of_lt_of_le (hr.lt r m) (Nat.pow_le_pow_right (by decide) (by omega)))
        rw [if_neg (by rw [decide_eq_true_eq, h0]; decide)] at hz
        exact hz
    have e7 := at_push S7 (.lst ((rows.filter fun r => decide (r.x / 2 ^ i % 2 = 1)).map rowD))
    have ss := h7.app [.lst ((rows.filter fun r => decide (r.x / 2 ^ i % 2 = 1)).map rowD)]
    have f1 := ss _ _ f1
    have hr := hr.sub ss
    have hs := hs.trans ss
    ((with_reducible conv => whnf); repeat (first | (rw [natD_len]; with_reducible conv => whnf) | (rw [intD_len]; with_reducible conv => whnf) | (refine Exists.intro _ (And.intro (rfl : _ = some _) ?_); with_reducible conv => whnf) | (refine And.intro (okII _ _) ?_; rw [eqD_ii]; with_reducible conv => whnf) | (refine And.intro (by first | assumption | exact Exists.intro _ (by assumption) | exact ⟨rfl, rfl, by decide, by decide⟩ | exact Nat.le_of_ble_eq_true rfl | exact rfl) ?_; with_reducible conv => whnf) | (rw [isLst_at (by assumption)]; with_reducible conv => whnf) | (refine ifT rfl ?_; with_reducible conv => whnf) | (refine ifF rfl ?_; with_reducible conv => whnf) | (refine it_at (by assumption) ?_; with_reducible conv => whnf)))
    rw [List.length_map]
    have ec : (rows.filter fun r => decide (r.x / 2 ^ i % 2 = 1)).length = oddC h i := by
      unfold oddC
      rw [← hr.map, List.filter_map, List.length_map]
      rfl
    rw [ec]
    refine ⟨by decide, ?_⟩
    rw [fmod2, oddC_par]
    ((with_reducible conv => whnf); repeat (first | (rw [natD_len]; with_reducible conv => whnf) | (rw [intD_len]; with_reducible conv => whnf) | (refine Exists.intro _ (And.intro (rfl : _ = some _) ?_); with_reducible conv => whnf) | (refine And.intro (okII _ _) ?_; rw [eqD_ii]; with_reducible conv => whnf) | (refine And.intro (by first | assumption | exact Exists.intro _ (by assumption) | exact ⟨rfl, rfl, by decide, by decide⟩ | exact Nat.le_of_ble_eq_true rfl | exact rfl) ?_; with_reducible conv => whnf) | (rw [isLst_at (by assumption)]; with_reducible conv => whnf) | (refine ifT rfl ?_; with_reducible conv => whnf) | (refine ifF rfl ?_; with_reducible conv => whnf) | (refine it_at (by assumption) ?_; with_reducible conv => whnf)))
    refine ⟨smallMul (by omega), ?_⟩
    ((with_reducible conv => whnf); repeat (first | (rw [natD_len]; with_reducible conv => whnf) | (rw [intD_len]; with_reducible conv => whnf) | (refine Exists.intro _ (And.intro (rfl : _ = some _) ?_); with_reducible conv => whnf) | (refine And.intro (okII _ _) ?_; rw [eqD_ii]; with_reducible conv => whnf) | (refine And.intro (by first | assumption | exact Exists.intro _ (by assumption) | exact ⟨rfl, rfl, by decide, by decide⟩ | exact Nat.le_of_ble_eq_true rfl | exact rfl) ?_; with_reducible conv => whnf) | (rw [isLst_at (by assumption)]; with_reducible conv => whnf) | (refine ifT rfl ?_; with_reducible conv => whnf) | (refine ifF rfl ?_; with_reducible conv => whnf) | (refine it_at (by assumption) ?_; with_reducible conv => whnf)))
    refine ⟨smallMul' (by decide), ?_⟩
    have e1 : ((xr h % 2 ^ i : Nat) : Int) + ((2 ^ i : Nat) : Int) * ((xr h / 2 ^ i % 2 : Nat) : Int) = ((xr h % 2 ^ (i + 1) : Nat) : Int) := by
      rw [Nat.mod_pow_succ]
      omega
    have e2 : (2 : Int) * ((2 ^ i : Nat) : Int) = ((2 ^ (i + 1) : Nat) : Int) := by rw [Nat.pow_succ]; omega
    rw [e1, e2]
    exact ⟨_, _, rfl, f1, hr, hs⟩
  · rintro ρ' S' ⟨o5, o7, rfl, f1, hr, hs⟩
    rw [rangeD_len, show ((K : Int) - 0).toNat = K by omega, Nat.mod_eq_of_lt hxK]
    ((with_reducible conv => whnf); repeat (first | (rw [natD_len]; with_reducible conv => whnf) | (rw [intD_len]; with_reducible conv => whnf) | (refine Exists.intro _ (And.intro (rfl : _ = some _) ?_); with_reducible conv => whnf) | (refine And.intro (okII _ _) ?_; rw [eqD_ii]; with_reducible conv => whnf) | (refine And.intro (by first | assumption | exact Exists.intro _ (by assumption) | exact ⟨rfl, rfl, by decide, by decide⟩ | exact Nat.le_of_ble_eq_true rfl | exact rfl) ?_; with_reducible conv => whnf) | (rw [isLst_at (by assumption)]; with_reducible conv => whnf) | (refine ifT rfl ?_; with_reducible conv => whnf) | (refine ifF rfl ?_; with_reducible conv => whnf) | (refine it_at (by assumption) ?_; with_reducible conv => whnf)))
    exact k _ hs
end K79
set_option linter.all false
set_option maxRecDepth 100000
set_option maxHeartbeats 4000000
namespace K79
open DL
def keyN (g : List Nat) : List Ky := g.map fun (k : Nat) => Sum.inl (k : Int)
theorem kys_nat : ∀ g : List Nat, kysOf (natD g) = some (keyN g)
  | [] => rfl
  | x :: g => by
    show (match kyOf (.int (x : Int)), kysOf (natD g) with | some k, some ks => some (k :: ks) | _, _ => none) = _
    rw [kys_nat g]
    rfl
theorem kyt_nat (g : List Nat) : kyt (.tup (natD g)) = some (keyN g) := kys_nat g
theorem keyN_inj : ∀ {a b : List Nat}, keyN a = keyN b → a = b
  | [], [], _ => rfl
  | x :: a, y :: b, h => by
    unfold keyN at h
    rw [List.map_cons, List.map_cons] at h
    injection h with h1 h2
    injection h1 with h1
    rw [keyN_inj h2, show x = y by omega]
  | [], _ :: _, h => by cases h
  | _ :: _, [], h => by cases h
def allL : Nat → List (List Nat)
  | 0 => [[]]
  | L + 1 => (allL L).flatMap fun g => (List.range 7).map fun x => x :: g
theorem allL_len : ∀ L, (allL L).length = 7 ^ L
  | 0 => rfl
  | L + 1 => by
    show ((allL L).flatMap _).length = _
    rw [Nat.pow_succ, ← allL_len L]
    generalize allL L = l
    induction l with
    | nil => rfl
    | cons a l ih => rw [List.flatMap_cons, List.length_append, ih, List.length_map, List.length_range, List.length_cons]; omega
theorem allL_mem : ∀ g : List Nat, (∀ x ∈ g, x < 7) → g ∈ allL g.length
  | [], _ => List.mem_singleton.mpr rfl
  | x :: g, h => List.mem_flatMap.mpr ⟨g, allL_mem g fun y hy => h y (List.mem_cons_of_mem _ hy), List.mem_map.mpr ⟨x, List.mem_range.mpr (h x List.mem_cons_self), rfl⟩⟩
structure Kn (L : Nat) (lw : Bool) (kvs : List (List Ky × D)) : Prop where
  nd : (kvs.map (·.1)).Nodup
  all : ∀ kv ∈ kvs, ∃ g : List Nat, kv.1 = keyN g ∧ g.length = L ∧ (∀ x ∈ g, x < 7) ∧ kv.2 = .bl (F lw g)
theorem Kn.nil (L : Nat) (lw : Bool) : Kn L lw [] := ⟨List.nodup_nil, by simp⟩
theorem Kn.len {L : Nat} {lw : Bool} {kvs : List (List Ky × D)} (h : Kn L lw kvs) : kvs.length ≤ 7 ^ L := by
  have := h.nd.length_le_of_subset (l₂ := (allL L).map keyN) fun k hk => by
    obtain ⟨kv, hkv, rfl⟩ := List.mem_map.mp hk
    obtain ⟨g, e, hl, hg, _⟩ := h.all kv hkv
    rw [e]
    exact List.mem_map.mpr ⟨g, by rw [← hl]; exact allL_mem g hg, rfl⟩
  rwa [List.length_map, List.length_map, allL_len] at this
theorem Kn.val {L : Nat} {lw : Bool} {kvs : List (List Ky × D)} (h : Kn L lw kvs) {g : List Nat} {v : D} (e : valK kvs (keyN g) = some v) : v = .bl (F lw g) := by
  obtain ⟨kv, h1, rfl⟩ := Option.map_eq_some_iff.mp e
  have hm := List.mem_of_find?_eq_some h1
  have hk0 := List.find?_some h1
  have hk : kv.1 = keyN g := of_decide_eq_true hk0
  obtain ⟨g', e1, _, _, e2⟩ := h.all kv hm
  rw [e2, keyN_inj (e1.symm.trans hk)]
theorem Kn.put {L : Nat} {lw : Bool} {kvs : List (List Ky × D)} (h : Kn L lw kvs) {g : List Nat} (hl : g.length = L) (hg : ∀ x ∈ g, x < 7) : Kn L lw (putD kvs (keyN g) (.bl (F lw g))) := by
  unfold putD
  by_cases c : (kvs.any fun kv => decide (kv.1 = keyN g)) = true
  · rw [if_pos c]
    refine ⟨?_, fun kv hkv => ?_⟩
    · rw [List.map_map]
      have : (kvs.map ((fun kv : List Ky × D => kv.1) ∘ fun kv => if kv.1 = keyN g then (kv.1, D.bl (F lw g)) else kv)) = kvs.map (·.1) := by
        apply List.map_congr_left
        intro kv _
        show (if kv.1 = keyN g then (kv.1, D.bl (F lw g)) else kv).1 = kv.1
        split <;> rfl
      rw [this]
      exact h.nd
    · obtain ⟨kv', hk', rfl⟩ := List.mem_map.mp hkv
      split
      · rename_i e
        exact ⟨g, e, hl, hg, rfl⟩
      · exact h.all kv' hk'
  · rw [if_neg c]
    refine ⟨?_, fun kv hkv => ?_⟩
    · rw [List.map_append, List.nodup_append]
      refine ⟨h.nd, by simp, fun a ha b hb e => c ?_⟩
      obtain ⟨kv, hkv, rfl⟩ := List.mem_map.mp ha
      rw [List.any_eq_true]
      refine ⟨kv, hkv, decide_eq_true ?_⟩
      rw [e]
      simpa using hb
    · rcases List.mem_append.mp hkv with m | m
      · exact h.all kv m
      · rw [List.mem_singleton.mp m]
        exact ⟨g, rfl, hl, hg, rfl⟩
theorem putD_val (kvs : List (List Ky × D)) (k : List Ky) (v : D) : valK (putD kvs k v) k = some v := by
  unfold valK putD
  by_cases c : (kvs.any fun kv => decide (kv.1 = k)) = true
  · rw [if_pos c]
    induction kvs with
    | nil => cases c
    | cons kv l ih =>
      rw [List.map_cons, List.find?_cons]
      by_cases e : kv.1 = k
      · rw [if_pos e]
        simp [e]
      · rw [if_neg e, decide_eq_false e]
        refine ih ?_
        rw [List.any_cons, decide_eq_false e, Bool.false_or] at c
        exact c
  · rw [if_neg c, List.find?_append]
    have : (kvs.find? fun kv => decide (kv.1 = k)) = none := by
      rw [List.find?_eq_none]
      intro kv hkv e
      exact c (List.any_eq_true.mpr ⟨kv, hkv, e⟩)
    rw [this, Option.none_or]
    simp
theorem dict_T {n : Nat} {S : Sto} {kvs : List (List Ky × D)} {A : List (Ky × D) → Prop} {B : List (List Ky × D) → Prop} (h : S[n]? = some (.dT kvs)) (b : B kvs) : match S[n]? with
    | some (.dK kvs) => A kvs
    | some (.dT kvs) => B kvs
    | _ => False := by
  rw [h]
  exact b
/-- a tuple of naturals sorts -/
theorem sort_nat {h : List Nat} {ys : List D} (hp : ys.Perm (natD h)) : ∃ g : List Nat, g.Perm h ∧ ys = natD g := by
  obtain ⟨g, h1, h2⟩ := perm_map (fun (k : Nat) => D.int (k : Int)) (ys := ys) (zs := natD h) hp h (natD_map h)
  exact ⟨g, h1, by rw [h2, natD_map]⟩
theorem mv_natD (g : List Nat) (k y : Nat) : (natD g).take k ++ [D.int (y : Int)] ++ (natD g).drop (k + 1) = natD (mv g k y) := by
  unfold mv
  simp [natD, intD]
@[reducible] def sp_won (N : Nat) : Spc := fun ds S Q => ∃ h n lw kvs, ds = [.tup (natD h), .ref n, .bl lw] ∧ h.sum ≤ N ∧ h.length ≤ 4 ∧ (∀ x ∈ h, x < 7) ∧ S[n]? = some (.dT kvs) ∧ Kn h.length lw kvs ∧
  ∀ S' kvs', S'[n]? = some (.dT kvs') → Kn h.length lw kvs' → Ch n S S' → Q (.bl (F lw h)) S'
end K79
set_option linter.all false
set_option maxRecDepth 100000
set_option maxHeartbeats 4000000
namespace K79
open DL
theorem won_rest {sp : Spc} {N : Nat} (hsp : N = 0 ∨ ∃ M, N = M + 1 ∧ sp = sp_won M) {h g : List Nat} {n : Nat} {lw b0 : Bool} {S S1 : Sto} {kvs : List (List Ky × D)} {E : Ends}
    (hp : g.Perm h) (hs : h.sum ≤ N) (hl : h.length ≤ 4) (hx : ∀ x ∈ h, x < 7) (hb : b0 = true ↔ (g.sum = 0 ∧ lw = false)) (e1 : S1[n]? = some (.dT kvs)) (K1 : Kn h.length lw kvs) (c1 : Ch n S S1)
    (k : ∀ S' kvs' o4 o5 o6, S'[n]? = some (.dT kvs') → Kn h.length lw kvs' → valK kvs' (keyN g) = some (.bl (F lw g)) → Ch n S S' → E.nx [some (.tup (natD h)), some (.ref n), some (.bl lw), some (.tup (natD g)), o4, o5, o6] S') :
    sSeq (sFor (wR1 (wB rLen (wCons (wVar 3) wNil))) (gN 5) (sFor (wR1 (wOp rIx (wVar 3) (wVar 5))) (gN 6) (sIf (wtAnd (wtNot (wtVal (wVar 4))) (wtNot (wtVal (wCall 3 sp (wCons (wOp rAdd (wOp rAdd (wSl rSl (wVar 3) wPNo (wPAt (wVar 5))) (wTup (wCons (wVar 6) wNil))) (wSl rSl (wVar 3) (wPAt (wOp rAdd (wVar 5) (wC (.int 1)))) wPNo)) (wCons (wVar 1) (wCons (wVar 2) wNil))))))) (sAsg (wC (.bl true)) (gN 4)) sNext)))
      (sSub rDPut (wVar 4) (wVar 1) (wVar 3)) E [some (.tup (natD h)), some (.ref n), some (.bl lw), some (.tup (natD g)), some (.bl b0), none, none] S1 := by
  have hgl : g.length = h.length := hp.length_eq
  have hgs : g.sum = h.sum := hp.sum_nat
  have hgx : ∀ x ∈ g, x < 7 := fun x m => hx x (hp.mem_iff.mp m)
  have hget : ∀ {i}, i < g.length → g.getD i 0 < 7 := fun {i} hi => hgx _ (by rw [List.getD_eq_getElem?_getD, List.getElem?_eq_getElem hi]; exact List.getElem_mem _)
  ((with_reducible conv => whnf); repeat (first | (rw [natD_len]; with_reducible conv => whnf) | (rw [intD_len]; with_reducible conv => whnf) | (refine Exists.intro _ (And.intro (rfl : _ = some _) ?_); with_reducible conv => whnf) | (refine And.intro (okII _ _) ?_; rw [eqD_ii]; with_reducible conv => whnf) | (refine And.intro (by first | assumption | exact Exists.intro _ (by assumption) | exact ⟨rfl, rfl, by decide, by decide⟩ | exact Nat.le_of_ble_eq_true rfl | exact rfl) ?_; with_reducible conv => whnf) | (rw [isLst_at (by assumption)]; with_reducible conv => whnf) | (refine ifT rfl ?_; with_reducible conv => whnf) | (refine ifF rfl ?_; with_reducible conv => whnf) | (refine it_at (by assumption) ?_; with_reducible conv => whnf)))
  refine ⟨⟨by omega, by omega⟩, ?_⟩
  refine Loop_mk (fun i ρ S' => ∃ b o5 o6 kvs', ρ = [some (.tup (natD h)), some (.ref n), some (.bl lw), some (.tup (natD g)), some (.bl b), o5, o6] ∧ (b = true ↔ (g.sum = 0 ∧ lw = false) ∨ ∃ k, k < i ∧ ∃ y, y < g.getD k 0 ∧ F lw (mv g k y) = false) ∧ S'[n]? = some (.dT kvs') ∧ Kn h.length lw kvs' ∧ Ch n S S') ⟨b0, none, none, kvs, rfl, by rw [hb]; simp, e1, K1, c1⟩ (by intros; trivial) ?_ ?_
  · rintro i d ρ' S' hi ⟨b, o5, o6, kvs', rfl, hbi, f1, f2, f3⟩
    obtain ⟨hi1, rfl⟩ := rangeD_get hi
    have hig : i < g.length := by omega
    rw [show (0 : Int) + i = i by omega]
    have h7 := hget hig
    ((with_reducible conv => whnf); repeat (first | (rw [natD_len]; with_reducible conv => whnf) | (rw [intD_len]; with_reducible conv => whnf) | (refine Exists.intro _ (And.intro (rfl : _ = some _) ?_); with_reducible conv => whnf) | (refine And.intro (okII _ _) ?_; rw [eqD_ii]; with_reducible conv => whnf) | (refine And.intro (by first | assumption | exact Exists.intro _ (by assumption) | exact ⟨rfl, rfl, by decide, by decide⟩ | exact Nat.le_of_ble_eq_true rfl | exact rfl) ?_; with_reducible conv => whnf) | (rw [isLst_at (by assumption)]; with_reducible conv => whnf) | (refine ifT rfl ?_; with_reducible conv => whnf) | (refine ifF rfl ?_; with_reducible conv => whnf) | (refine it_at (by assumption) ?_; with_reducible conv => whnf)))
    refine ⟨_, atZ_natD hig, ?_⟩
    ((with_reducible conv => whnf); repeat (first | (rw [natD_len]; with_reducible conv => whnf) | (rw [intD_len]; with_reducible conv => whnf) | (refine Exists.intro _ (And.intro (rfl : _ = some _) ?_); with_reducible conv => whnf) | (refine And.intro (okII _ _) ?_; rw [eqD_ii]; with_reducible conv => whnf) | (refine And.intro (by first | assumption | exact Exists.intro _ (by assumption) | exact ⟨rfl, rfl, by decide, by decide⟩ | exact Nat.le_of_ble_eq_true rfl | exact rfl) ?_; with_reducible conv => whnf) | (rw [isLst_at (by assumption)]; with_reducible conv => whnf) | (refine ifT rfl ?_; with_reducible conv => whnf) | (refine ifF rfl ?_; with_reducible conv => whnf) | (refine it_at (by assumption) ?_; with_reducible conv => whnf)))
    refine ⟨⟨by omega, by omega⟩, ?_⟩
    refine Loop_mk (fun j ρ S' => ∃ b o6 kvs', ρ = [some (.tup (natD h)), some (.ref n), some (.bl lw), some (.tup (natD g)), some (.bl b), some (.int i), o6] ∧ (b = true ↔ ((g.sum = 0 ∧ lw = false) ∨ ∃ k, k < i ∧ ∃ y, y < g.getD k 0 ∧ F lw (mv g k y) = false) ∨ ∃ y, y < j ∧ F lw (mv g i y) = false) ∧ S'[n]? = some (.dT kvs') ∧ Kn h.length lw kvs' ∧ Ch n S S') ⟨b, o6, kvs', rfl, by rw [hbi]; simp, f1, f2, f3⟩ (by intros; trivial) ?_ ?_
    · rintro j d ρ' S2 hj ⟨b, o6, kvs', rfl, hbj, f1, f2, f3⟩
      obtain ⟨hj1, rfl⟩ := rangeD_get hj
      have hjg : j < g.getD i 0 := by omega
      rw [show (0 : Int) + j = j by omega]
      cases b with
      | true =>
        ((with_reducible conv => whnf); repeat (first | (rw [natD_len]; with_reducible conv => whnf) | (rw [intD_len]; with_reducible conv => whnf) | (refine Exists.intro _ (And.intro (rfl : _ = some _) ?_); with_reducible conv => whnf) | (refine And.intro (okII _ _) ?_; rw [eqD_ii]; with_reducible conv => whnf) | (refine And.intro (by first | assumption | exact Exists.intro _ (by assumption) | exact ⟨rfl, rfl, by decide, by decide⟩ | exact Nat.le_of_ble_eq_true rfl | exact rfl) ?_; with_reducible conv => whnf) | (rw [isLst_at (by assumption)]; with_reducible conv => whnf) | (refine ifT rfl ?_; with_reducible conv => whnf) | (refine ifF rfl ?_; with_reducible conv => whnf) | (refine it_at (by assumption) ?_; with_reducible conv => whnf)))
        exact ⟨true, _, kvs', rfl, ⟨fun _ => by
          rcases hbj.mp rfl with q | ⟨y, q1, q2⟩
          · exact .inl q
          · exact .inr ⟨y, by omega, q2⟩, fun _ => rfl⟩, f1, f2, f3⟩
      | false =>
        have hbn : ¬ (((g.sum = 0 ∧ lw = false) ∨ ∃ k, k < i ∧ ∃ y, y < g.getD k 0 ∧ F lw (mv g k y) = false) ∨ ∃ y, y < j ∧ F lw (mv g i y) = false) := fun q => by cases hbj.mpr q
        have hsm := sum_mv hig j
        have hge := getD_le_sum g i
        have hml := mv_len hig j
        rcases hsp with h0 | ⟨M, hM, rfl⟩
        · omega
        ((with_reducible conv => whnf); repeat (first | (rw [natD_len]; with_reducible conv => whnf) | (rw [intD_len]; with_reducible conv => whnf) | (refine Exists.intro _ (And.intro (rfl : _ = some _) ?_); with_reducible conv => whnf) | (refine And.intro (okII _ _) ?_; rw [eqD_ii]; with_reducible conv => whnf) | (refine And.intro (by first | assumption | exact Exists.intro _ (by assumption) | exact ⟨rfl, rfl, by decide, by decide⟩ | exact Nat.le_of_ble_eq_true rfl | exact rfl) ?_; with_reducible conv => whnf) | (rw [isLst_at (by assumption)]; with_reducible conv => whnf) | (refine ifT rfl ?_; with_reducible conv => whnf) | (refine ifF rfl ?_; with_reducible conv => whnf) | (refine it_at (by assumption) ?_; with_reducible conv => whnf)))
        rw [cut_take _ (by omega), Int.toNat_natCast]
        refine ⟨by simp only [List.length_take, List.length_singleton]; unfold szL; omega, ?_⟩
        (with_reducible conv => whnf)
        rw [cut_drop _ (by omega), show ((i : Int) + 1).toNat = i + 1 by omega]
        refine ⟨by simp only [List.length_take, List.length_singleton, List.length_append, List.length_drop, natD_len]; unfold szL; omega, ?_⟩
        (with_reducible conv => whnf)
        rw [mv_natD]
        ((with_reducible conv => whnf); repeat (first | (rw [natD_len]; with_reducible conv => whnf) | (rw [intD_len]; with_reducible conv => whnf) | (refine Exists.intro _ (And.intro (rfl : _ = some _) ?_); with_reducible conv => whnf) | (refine And.intro (okII _ _) ?_; rw [eqD_ii]; with_reducible conv => whnf) | (refine And.intro (by first | assumption | exact Exists.intro _ (by assumption) | exact ⟨rfl, rfl, by decide, by decide⟩ | exact Nat.le_of_ble_eq_true rfl | exact rfl) ?_; with_reducible conv => whnf) | (rw [isLst_at (by assumption)]; with_reducible conv => whnf) | (refine ifT rfl ?_; with_reducible conv => whnf) | (refine ifF rfl ?_; with_reducible conv => whnf) | (refine it_at (by assumption) ?_; with_reducible conv => whnf)))
        refine ⟨mv g i j, n, lw, kvs', rfl, by omega, by omega, fun x m => ?_, f1, by rw [hml, hgl]; exact f2, fun S3 kvs3 g1 g2 g3 => ?_⟩
        · unfold mv at m
          rcases List.mem_append.mp m with m | m
          · rcases List.mem_append.mp m with m | m
            · exact hgx x (List.mem_of_mem_take m)
            · rw [List.mem_singleton.mp m]; omega
          · exact hgx x (List.mem_of_mem_drop m)
        rw [hml, hgl] at g2
        cases eF : F lw (mv g i j) with
        | true =>
          ((with_reducible conv => whnf); repeat (first | (rw [natD_len]; with_reducible conv => whnf) | (rw [intD_len]; with_reducible conv => whnf) | (refine Exists.intro _ (And.intro (rfl : _ = some _) ?_); with_reducible conv => whnf) | (refine And.intro (okII _ _) ?_; rw [eqD_ii]; with_reducible conv => whnf) | (refine And.intro (by first | assumption | exact Exists.intro _ (by assumption) | exact ⟨rfl, rfl, by decide, by decide⟩ | exact Nat.le_of_ble_eq_true rfl | exact rfl) ?_; with_reducible conv => whnf) | (rw [isLst_at (by assumption)]; with_reducible conv => whnf) | (refine ifT rfl ?_; with_reducible conv => whnf) | (refine ifF rfl ?_; with_reducible conv => whnf) | (refine it_at (by assumption) ?_; with_reducible conv => whnf)))
          exact ⟨false, _, kvs3, rfl, ⟨(by intro z; cases z), fun q => by
            rcases q with q | ⟨y, q1, q2⟩
            · exact absurd (.inl q) hbn
            · by_cases c : y = j
              · subst c; rw [eF] at q2; cases q2
              · exact absurd (.inr ⟨y, by omega, q2⟩) hbn⟩, g1, g2, f3.trans g3⟩
        | false =>
          ((with_reducible conv => whnf); repeat (first | (rw [natD_len]; with_reducible conv => whnf) | (rw [intD_len]; with_reducible conv => whnf) | (refine Exists.intro _ (And.intro (rfl : _ = some _) ?_); with_reducible conv => whnf) | (refine And.intro (okII _ _) ?_; rw [eqD_ii]; with_reducible conv => whnf) | (refine And.intro (by first | assumption | exact Exists.intro _ (by assumption) | exact ⟨rfl, rfl, by decide, by decide⟩ | exact Nat.le_of_ble_eq_true rfl | exact rfl) ?_; with_reducible conv => whnf) | (rw [isLst_at (by assumption)]; with_reducible conv => whnf) | (refine ifT rfl ?_; with_reducible conv => whnf) | (refine ifF rfl ?_; with_reducible conv => whnf) | (refine it_at (by assumption) ?_; with_reducible conv => whnf)))
          exact ⟨true, _, kvs3, rfl, ⟨fun _ => .inr ⟨j, by omega, eF⟩, fun _ => rfl⟩, g1, g2, f3.trans g3⟩
    · rintro ρ' S2 ⟨b, o6, kvs', rfl, hbj, f1, f2, f3⟩
      rw [rangeD_len, show ((g.getD i 0 : Int) - 0).toNat = g.getD i 0 by omega] at hbj
      refine ⟨b, _, _, kvs', rfl, ?_, f1, f2, f3⟩
      rw [hbj]
      constructor
      · rintro ((q | ⟨k, q1, q2⟩) | ⟨y, q1, q2⟩)
        · exact .inl q
        · exact .inr ⟨k, by omega, q2⟩
        · exact .inr ⟨i, by omega, y, q1, q2⟩
      · rintro (q | ⟨k, q1, y, q2, q3⟩)
        · exact .inl (.inl q)
        · by_cases c : k = i
          · subst c; exact .inr ⟨y, q2, q3⟩
          · exact .inl (.inr ⟨k, by omega, y, q2, q3⟩)
  · rintro ρ' S2 ⟨b, o5, o6, kvs', rfl, hbi, f1, f2, f3⟩
    rw [rangeD_len, show ((g.length : Int) - 0).toNat = g.length by omega, ← F_step] at hbi
    have eb : b = F lw g := by
      cases b with
      | true => exact (hbi.mp rfl).symm
      | false =>
        cases e : F lw g with
        | false => rfl
        | true => exact absurd (hbi.mpr e) (by decide)
    subst eb
    have hlen := f2.len
    have h74 : 7 ^ h.length ≤ 7 ^ 4 := Nat.pow_le_pow_right (by decide) hl
    (with_reducible conv => whnf)
    refine dict_T f1 ⟨_, kyt_nat g, by unfold szL; omega, ?_⟩
    exact k _ _ _ _ _ (at_set f1) (f2.put hgl hgx) (putD_val _ _ _) (f3.trans (Ch.set _ _))
theorem body_law_won (sp : Spc) (N : Nat) (hsp : N = 0 ∨ ∃ M, N = M + 1 ∧ sp = sp_won M) : Body 7 3 (w_law_won sp) (sp_won N) := by
  rintro ds S Q _ ⟨h, n, lw, kvs, rfl, hs, hl, hx, e0, K0, k⟩
  unfold w_law_won
  (simp only [start, List.map_cons, List.map_nil, List.length_cons, List.length_nil, Nat.reduceAdd, Nat.reduceSub, List.replicate_succ, List.replicate_zero, List.cons_append, List.nil_append, Nat.sub_self, Nat.zero_add])
  ((with_reducible conv => whnf); repeat (first | (rw [natD_len]; with_reducible conv => whnf) | (rw [intD_len]; with_reducible conv => whnf) | (refine Exists.intro _ (And.intro (rfl : _ = some _) ?_); with_reducible conv => whnf) | (refine And.intro (okII _ _) ?_; rw [eqD_ii]; with_reducible conv => whnf) | (refine And.intro (by first | assumption | exact Exists.intro _ (by assumption) | exact ⟨rfl, rfl, by decide, by decide⟩ | exact Nat.le_of_ble_eq_true rfl | exact rfl) ?_; with_reducible conv => whnf) | (rw [isLst_at (by assumption)]; with_reducible conv => whnf) | (refine ifT rfl ?_; with_reducible conv => whnf) | (refine ifF rfl ?_; with_reducible conv => whnf) | (refine it_at (by assumption) ?_; with_reducible conv => whnf)))
  refine ⟨sortOk_int _, fun ys hp _ => ?_⟩
  obtain ⟨g, hg, rfl⟩ := sort_nat hp
  have e1 := push_at e0 [.lst (natD g)]
  have en := at_push S (.lst (natD g))
  have c1 := (Ch.refl n S).app [.lst (natD g)]
  ((with_reducible conv => whnf); repeat (first | (rw [natD_len]; with_reducible conv => whnf) | (rw [intD_len]; with_reducible conv => whnf) | (refine Exists.intro _ (And.intro (rfl : _ = some _) ?_); with_reducible conv => whnf) | (refine And.intro (okII _ _) ?_; rw [eqD_ii]; with_reducible conv => whnf) | (refine And.intro (by first | assumption | exact Exists.intro _ (by assumption) | exact ⟨rfl, rfl, by decide, by decide⟩ | exact Nat.le_of_ble_eq_true rfl | exact rfl) ?_; with_reducible conv => whnf) | (rw [isLst_at (by assumption)]; with_reducible conv => whnf) | (refine ifT rfl ?_; with_reducible conv => whnf) | (refine ifF rfl ?_; with_reducible conv => whnf) | (refine it_at (by assumption) ?_; with_reducible conv => whnf)))
  generalize S ++ [.lst (natD g)] = S1 at *
  have fin : ∀ S' kvs', S'[n]? = some (.dT kvs') → Kn h.length lw kvs' → Ch n S S' → Q (.bl (F lw g)) S' := fun S' kvs' a b c => by
    rw [F_perm hg]
    exact k S' kvs' a b c
  refine dict_T e1 ⟨_, kyt_nat g, ?_⟩
  cases e : valK kvs (keyN g) with
  | some v =>
    ((with_reducible conv => whnf); repeat (first | (rw [natD_len]; with_reducible conv => whnf) | (rw [intD_len]; with_reducible conv => whnf) | (refine Exists.intro _ (And.intro (rfl : _ = some _) ?_); with_reducible conv => whnf) | (refine And.intro (okII _ _) ?_; rw [eqD_ii]; with_reducible conv => whnf) | (refine And.intro (by first | assumption | exact Exists.intro _ (by assumption) | exact ⟨rfl, rfl, by decide, by decide⟩ | exact Nat.le_of_ble_eq_true rfl | exact rfl) ?_; with_reducible conv => whnf) | (rw [isLst_at (by assumption)]; with_reducible conv => whnf) | (refine ifT rfl ?_; with_reducible conv => whnf) | (refine ifF rfl ?_; with_reducible conv => whnf) | (refine it_at (by assumption) ?_; with_reducible conv => whnf)))
    refine dict_T e1 ⟨_, kyt_nat g, ?_⟩
    rw [e]
    refine ⟨v, rfl, ?_⟩
    rw [K0.val e]
    exact fin _ _ e1 K0 c1
  | none =>
    have gs := sum_nat g
    have after : ∀ b0 : Bool, (b0 = true ↔ (g.sum = 0 ∧ lw = false)) → sSeq (sFor (wR1 (wB rLen (wCons (wVar 3) wNil))) (gN 5) (sFor (wR1 (wOp rIx (wVar 3) (wVar 5))) (gN 6) (sIf (wtAnd (wtNot (wtVal (wVar 4))) (wtNot (wtVal (wCall 3 sp (wCons (wOp rAdd (wOp rAdd (wSl rSl (wVar 3) wPNo (wPAt (wVar 5))) (wTup (wCons (wVar 6) wNil))) (wSl rSl (wVar 3) (wPAt (wOp rAdd (wVar 5) (wC (.int 1)))) wPNo)) (wCons (wVar 1) (wCons (wVar 2) wNil))))))) (sAsg (wC (.bl true)) (gN 4)) sNext)))
      (sSub rDPut (wVar 4) (wVar 1) (wVar 3)) { nx := sRet (wOp rDIx (wVar 1) (wVar 3)) { nx := fun x S' => Q D.non S', rt := Q, bk := fun x x_1 => False, ct := fun x x_1 => False }, rt := Q, bk := fun x x_1 => False, ct := fun x x_1 => False } [some (.tup (natD h)), some (.ref n), some (.bl lw), some (.tup (natD g)), some (.bl b0), none, none] S1 := fun b0 hb =>
      won_rest hsp hg hs hl hx hb e1 K0 c1 fun S' kvs' o4 o5 o6 a b v c => by
        ((with_reducible conv => whnf); repeat (first | (rw [natD_len]; with_reducible conv => whnf) | (rw [intD_len]; with_reducible conv => whnf) | (refine Exists.intro _ (And.intro (rfl : _ = some _) ?_); with_reducible conv => whnf) | (refine And.intro (okII _ _) ?_; rw [eqD_ii]; with_reducible conv => whnf) | (refine And.intro (by first | assumption | exact Exists.intro _ (by assumption) | exact ⟨rfl, rfl, by decide, by decide⟩ | exact Nat.le_of_ble_eq_true rfl | exact rfl) ?_; with_reducible conv => whnf) | (rw [isLst_at (by assumption)]; with_reducible conv => whnf) | (refine ifT rfl ?_; with_reducible conv => whnf) | (refine ifF rfl ?_; with_reducible conv => whnf) | (refine it_at (by assumption) ?_; with_reducible conv => whnf)))
        refine dict_T a ⟨_, kyt_nat g, ?_⟩
        rw [v]
        exact ⟨_, rfl, fin _ _ a b c⟩
    ((with_reducible conv => whnf); repeat (first | (rw [natD_len]; with_reducible conv => whnf) | (rw [intD_len]; with_reducible conv => whnf) | (refine Exists.intro _ (And.intro (rfl : _ = some _) ?_); with_reducible conv => whnf) | (refine And.intro (okII _ _) ?_; rw [eqD_ii]; with_reducible conv => whnf) | (refine And.intro (by first | assumption | exact Exists.intro _ (by assumption) | exact ⟨rfl, rfl, by decide, by decide⟩ | exact Nat.le_of_ble_eq_true rfl | exact rfl) ?_; with_reducible conv => whnf) | (rw [isLst_at (by assumption)]; with_reducible conv => whnf) | (refine ifT rfl ?_; with_reducible conv => whnf) | (refine ifF rfl ?_; with_reducible conv => whnf) | (refine it_at (by assumption) ?_; with_reducible conv => whnf)))
    rw [gs]
    refine ite_d (fun hc => ?_) fun hc => ?_
    · refine after (!lw) ?_
      cases lw <;> simp <;> omega
    · refine after false ?_
      constructor
      · intro z; cases z
      · rintro ⟨z, _⟩; omega
end K79
set_option linter.all false
set_option maxRecDepth 100000
set_option maxHeartbeats 4000000
namespace K79
open DL
def mexA (l : List Nat) : Nat → Nat → Nat
  | 0, m => m
  | s + 1, m => if m ∈ l then mexA l s (m + 1) else m
/-- the least that is missing -/
def mex (l : List Nat) : Nat := mexA l l.length 0
theorem all_in {l : List Nat} {m : Nat} (h : ∀ k, k < m → k ∈ l) : m ≤ l.length := by
  have := (List.nodup_range (n := m)).length_le_of_subset (l₂ := l) fun x hx => h x (List.mem_range.mp hx)
  rwa [List.length_range] at this
theorem mexA_spec {l : List Nat} : ∀ s m, (∀ k, k < m → k ∈ l) → l.length ≤ s + m → mexA l s m ∉ l ∧ ∀ k, k < mexA l s m → k ∈ l
  | 0, m, h, hl => by
    refine ⟨fun hm => ?_, h⟩
    have : ∀ k, k < m + 1 → k ∈ l := fun k hk => by
      by_cases c : k = m
      · rw [c]; exact hm
      · exact h k (by omega)
    have := all_in this
    omega
  | s + 1, m, h, hl => by
    unfold mexA
    by_cases c : m ∈ l
    · rw [if_pos c]
      refine mexA_spec s (m + 1) (fun k hk => ?_) (by omega)
      by_cases c2 : k = m
      · rw [c2]; exact c
      · exact h k (by omega)
    · rw [if_neg c]
      exact ⟨c, h⟩
theorem mex_spec (l : List Nat) : mex l ∉ l ∧ ∀ k, k < mex l → k ∈ l := mexA_spec _ _ (by omega) (by omega)
theorem mex_le (l : List Nat) : mex l ≤ l.length := all_in (mex_spec l).2
theorem mex_of {l : List Nat} {m : Nat} (h1 : m ∉ l) (h2 : ∀ k, k < m → k ∈ l) : m = mex l := by
  obtain ⟨a, b⟩ := mex_spec l
  rcases Nat.lt_trichotomy m (mex l) with c | c | c
  · exact absurd (b m c) h1
  · exact c
  · exact absurd (h2 _ c) a
theorem mex_congr {a b : List Nat} (h : ∀ x, x ∈ a ↔ x ∈ b) : mex a = mex b := by
  obtain ⟨p, q⟩ := mex_spec a
  exact mex_of (fun z => p ((h _).mpr z)) fun k hk => (h k).mp (q k hk)
@[reducible] def sp_mex : Spc := fun ds S Q => ∃ n l, ds = [.ref n] ∧ S[n]? = some (.lst (natD l)) ∧ ∀ S', Sub S S' → Q (.int (mex l : Nat)) S'
theorem body_least_missing : Body 2 1 w_least_missing sp_mex := by
  rintro ds S Q _ ⟨n, l, rfl, e0, k⟩
  unfold w_least_missing
  (simp only [start, List.map_cons, List.map_nil, List.length_cons, List.length_nil, Nat.reduceAdd, Nat.reduceSub, List.replicate_succ, List.replicate_zero, List.cons_append, List.nil_append, Nat.sub_self, Nat.zero_add])
  ((with_reducible conv => whnf); repeat (first | (rw [natD_len]; with_reducible conv => whnf) | (rw [intD_len]; with_reducible conv => whnf) | (refine Exists.intro _ (And.intro (rfl : _ = some _) ?_); with_reducible conv => whnf) | (refine And.intro (okII _ _) ?_; rw [eqD_ii]; with_reducible conv => whnf) | (refine And.intro (by first | assumption | exact Exists.intro _ (by assumption) | exact ⟨rfl, rfl, by decide, by decide⟩ | exact Nat.le_of_ble_eq_true rfl | exact rfl) ?_; with_reducible conv => whnf) | (rw [isLst_at (by assumption)]; with_reducible conv => whnf) | (refine ifT rfl ?_; with_reducible conv => whnf) | (refine ifF rfl ?_; with_reducible conv => whnf) | (refine it_at (by assumption) ?_; with_reducible conv => whnf)))
  refine ⟨fun m ρ S' => ∃ f : Nat, m = mex l - f ∧ f ≤ mex l ∧ ρ = [some (.ref n), some (.int f)] ∧ S' = S, ⟨mex l, 0, by omega, by omega, rfl, rfl⟩, ?_⟩
  rintro m ρ' S' ⟨f, rfl, hf, rfl, rfl⟩
  obtain ⟨h1, h2⟩ := mex_spec l
  ((with_reducible conv => whnf); repeat (first | (refine And.intro (okII _ _) ?_; rw [eqD_ii]; with_reducible conv => whnf) | (refine And.intro (by first | assumption | exact Exists.intro _ (by assumption) | exact ⟨rfl, rfl, by decide, by decide⟩ | exact Nat.le_of_ble_eq_true rfl | exact rfl) ?_; with_reducible conv => whnf) | (rw [isLst_at (by assumption)]; with_reducible conv => whnf) | (refine ifT rfl ?_; with_reducible conv => whnf) | (refine ifF rfl ?_; with_reducible conv => whnf) | (refine it_at (by assumption) ?_; with_reducible conv => whnf)))
  refine ⟨⟨rfl, flats_int _, Nat.zero_le _, by rw [deeps_int]; omega⟩, ?_⟩
  rw [any_nat]
  by_cases c : f ∈ l
  · refine ifT (by simp [c]) ?_
    have hne : f ≠ mex l := fun z => h1 (by rw [← z]; exact c)
    ((with_reducible conv => whnf); repeat (first | (rw [natD_len]; with_reducible conv => whnf) | (rw [intD_len]; with_reducible conv => whnf) | (refine Exists.intro _ (And.intro (rfl : _ = some _) ?_); with_reducible conv => whnf) | (refine And.intro (okII _ _) ?_; rw [eqD_ii]; with_reducible conv => whnf) | (refine And.intro (by first | assumption | exact Exists.intro _ (by assumption) | exact ⟨rfl, rfl, by decide, by decide⟩ | exact Nat.le_of_ble_eq_true rfl | exact rfl) ?_; with_reducible conv => whnf) | (rw [isLst_at (by assumption)]; with_reducible conv => whnf) | (refine ifT rfl ?_; with_reducible conv => whnf) | (refine ifF rfl ?_; with_reducible conv => whnf) | (refine it_at (by assumption) ?_; with_reducible conv => whnf)))
    exact ⟨mex l - (f + 1), by omega, f + 1, rfl, by omega, by rw [show ((f + 1 : Nat) : Int) = (f : Int) + 1 by omega], rfl⟩
  · refine ifF (by simp [c]) ?_
    have : f = mex l := by
      false_or_by_contra
      exact c (h2 f (by omega))
    subst this
    ((with_reducible conv => whnf); repeat (first | (rw [natD_len]; with_reducible conv => whnf) | (rw [intD_len]; with_reducible conv => whnf) | (refine Exists.intro _ (And.intro (rfl : _ = some _) ?_); with_reducible conv => whnf) | (refine And.intro (okII _ _) ?_; rw [eqD_ii]; with_reducible conv => whnf) | (refine And.intro (by first | assumption | exact Exists.intro _ (by assumption) | exact ⟨rfl, rfl, by decide, by decide⟩ | exact Nat.le_of_ble_eq_true rfl | exact rfl) ?_; with_reducible conv => whnf) | (rw [isLst_at (by assumption)]; with_reducible conv => whnf) | (refine ifT rfl ?_; with_reducible conv => whnf) | (refine ifF rfl ?_; with_reducible conv => whnf) | (refine it_at (by assumption) ?_; with_reducible conv => whnf)))
    exact k _ (Sub.refl _)
def numsN (game : List (List Nat)) : Nat → List Nat
  | 0 => []
  | i + 1 => numsN game i ++ [mex ((game.getD i []).map fun t => (numsN game i).getD t 0)]
theorem numsN_len (game : List (List Nat)) : ∀ i, (numsN game i).length = i
  | 0 => rfl
  | i + 1 => by show (_ ++ [_]).length = _; rw [List.length_append, numsN_len game i]; rfl
@[reducible] def ordD (o : List Nat) : D := .tup (natD o)
@[reducible] def sp_nums : Spc := fun ds S Q => ∃ game : List (List Nat), ds = [.tup (game.map ordD)] ∧ game.length ≤ 1000 ∧ (∀ i, i < game.length → (game.getD i []).length ≤ 100 ∧ ∀ t ∈ game.getD i [], t < i) ∧ ∀ S', Sub S S' → Q (ordD (numsN game game.length)) S'
theorem natD_app' (a b : List Nat) : natD a ++ natD b = natD (a ++ b) := natD_app a b
theorem body_numbers_of : Body 4 1 (w_numbers_of sp_mex) sp_nums := by
  rintro ds S Q _ ⟨game, rfl, hl, hg, k⟩
  unfold w_numbers_of
  (simp only [start, List.map_cons, List.map_nil, List.length_cons, List.length_nil, Nat.reduceAdd, Nat.reduceSub, List.replicate_succ, List.replicate_zero, List.cons_append, List.nil_append, Nat.sub_self, Nat.zero_add])
  ((with_reducible conv => whnf); repeat (first | (rw [natD_len]; with_reducible conv => whnf) | (rw [intD_len]; with_reducible conv => whnf) | (refine Exists.intro _ (And.intro (rfl : _ = some _) ?_); with_reducible conv => whnf) | (refine And.intro (okII _ _) ?_; rw [eqD_ii]; with_reducible conv => whnf) | (refine And.intro (by first | assumption | exact Exists.intro _ (by assumption) | exact ⟨rfl, rfl, by decide, by decide⟩ | exact Nat.le_of_ble_eq_true rfl | exact rfl) ?_; with_reducible conv => whnf) | (rw [isLst_at (by assumption)]; with_reducible conv => whnf) | (refine ifT rfl ?_; with_reducible conv => whnf) | (refine ifF rfl ?_; with_reducible conv => whnf) | (refine it_at (by assumption) ?_; with_reducible conv => whnf)))
  have e0 := at_push S (.lst [])
  have s0 := (Sub.refl S).app [.lst []]
  generalize S ++ [.lst []] = S1 at *
  refine Loop_mk (fun i ρ S' => ∃ o2, ρ = [some (.tup (game.map ordD)), some (.ref S.length), o2, none] ∧ S'[S.length]? = some (.lst (natD (numsN game i))) ∧ Sub S S') ⟨none, rfl, e0, s0⟩ (by intros; trivial) ?_ ?_
  · rintro i d ρ' S' hi ⟨o2, rfl, f1, f2⟩
    rw [List.getElem?_map] at hi
    cases eg : game[i]? with
    | none => rw [eg] at hi; cases hi
    | some mvs =>
      rw [eg] at hi
      cases Option.some.inj hi
      have hig := (List.getElem?_eq_some_iff.mp eg).1
      have egd : game.getD i [] = mvs := by rw [List.getD_eq_getElem?_getD, eg]; rfl
      obtain ⟨g1, g2⟩ := hg i hig
      rw [egd] at g1 g2
      have hnl := numsN_len game i
      (with_reducible conv => whnf)
      refine ⟨⟨_, f1⟩, ?_⟩
      (with_reducible conv => whnf)
      rw [natD_map mvs]
      refine Lc_lm (xs := mvs) (e := fun (t : Nat) => D.int (t : Int)) (fun t => .int ((numsN game i).getD t 0 : Nat)) (by unfold szL; omega) (by intros; trivial) (fun t S3 R m h hR => ?_) fun S3 s3 => ?_
      · have f := h _ _ f1
        have := g2 t m
        ((with_reducible conv => whnf); repeat (first | (rw [natD_len]; with_reducible conv => whnf) | (rw [intD_len]; with_reducible conv => whnf) | (refine Exists.intro _ (And.intro (rfl : _ = some _) ?_); with_reducible conv => whnf) | (refine And.intro (okII _ _) ?_; rw [eqD_ii]; with_reducible conv => whnf) | (refine And.intro (by first | assumption | exact Exists.intro _ (by assumption) | exact ⟨rfl, rfl, by decide, by decide⟩ | exact Nat.le_of_ble_eq_true rfl | exact rfl) ?_; with_reducible conv => whnf) | (rw [isLst_at (by assumption)]; with_reducible conv => whnf) | (refine ifT rfl ?_; with_reducible conv => whnf) | (refine ifF rfl ?_; with_reducible conv => whnf) | (refine it_at (by assumption) ?_; with_reducible conv => whnf)))
        exact ⟨_, atZ_natD (by omega), hR S3 (Sub.refl _)⟩
      have em : mvs.map (fun t => D.int ((numsN game i).getD t 0 : Nat)) = natD (mvs.map fun t => (numsN game i).getD t 0) := by rw [natD_map, List.map_map]; rfl
      rw [em]
      have e3 := at_push S3 (.lst (natD (mvs.map fun t => (numsN game i).getD t 0)))
      have ss := s3.app [.lst (natD (mvs.map fun t => (numsN game i).getD t 0))]
      have f1 := ss _ _ f1
      have f2 := f2.trans ss
      ((with_reducible conv => whnf); repeat (first | (rw [natD_len]; with_reducible conv => whnf) | (rw [intD_len]; with_reducible conv => whnf) | (refine Exists.intro _ (And.intro (rfl : _ = some _) ?_); with_reducible conv => whnf) | (refine And.intro (okII _ _) ?_; rw [eqD_ii]; with_reducible conv => whnf) | (refine And.intro (by first | assumption | exact Exists.intro _ (by assumption) | exact ⟨rfl, rfl, by decide, by decide⟩ | exact Nat.le_of_ble_eq_true rfl | exact rfl) ?_; with_reducible conv => whnf) | (rw [isLst_at (by assumption)]; with_reducible conv => whnf) | (refine ifT rfl ?_; with_reducible conv => whnf) | (refine ifF rfl ?_; with_reducible conv => whnf) | (refine it_at (by assumption) ?_; with_reducible conv => whnf)))
      refine ⟨_, _, rfl, e3, fun S4 s4 => ?_⟩
      have f1 := s4 _ _ f1
      have f2 := f2.trans s4
      ((with_reducible conv => whnf); repeat (first | (rw [natD_len]; with_reducible conv => whnf) | (rw [intD_len]; with_reducible conv => whnf) | (refine Exists.intro _ (And.intro (rfl : _ = some _) ?_); with_reducible conv => whnf) | (refine And.intro (okII _ _) ?_; rw [eqD_ii]; with_reducible conv => whnf) | (refine And.intro (by first | assumption | exact Exists.intro _ (by assumption) | exact ⟨rfl, rfl, by decide, by decide⟩ | exact Nat.le_of_ble_eq_true rfl | exact rfl) ?_; with_reducible conv => whnf) | (rw [isLst_at (by assumption)]; with_reducible conv => whnf) | (refine ifT rfl ?_; with_reducible conv => whnf) | (refine ifF rfl ?_; with_reducible conv => whnf) | (refine it_at (by assumption) ?_; with_reducible conv => whnf)))
      refine ⟨by rw [hnl]; unfold szL; omega, ?_⟩
      refine ⟨_, rfl, ?_, f2.put (Nat.le_refl _)⟩
      rw [at_set f1]
      show _ = some (O.lst (natD (numsN game i ++ [mex ((game.getD i []).map fun t => (numsN game i).getD t 0)])))
      rw [egd, ← natD_app]
      rfl
  · rintro ρ' S' ⟨o2, rfl, f1, f2⟩
    rw [List.length_map] at f1
    ((with_reducible conv => whnf); repeat (first | (rw [natD_len]; with_reducible conv => whnf) | (rw [intD_len]; with_reducible conv => whnf) | (refine Exists.intro _ (And.intro (rfl : _ = some _) ?_); with_reducible conv => whnf) | (refine And.intro (okII _ _) ?_; rw [eqD_ii]; with_reducible conv => whnf) | (refine And.intro (by first | assumption | exact Exists.intro _ (by assumption) | exact ⟨rfl, rfl, by decide, by decide⟩ | exact Nat.le_of_ble_eq_true rfl | exact rfl) ?_; with_reducible conv => whnf) | (rw [isLst_at (by assumption)]; with_reducible conv => whnf) | (refine ifT rfl ?_; with_reducible conv => whnf) | (refine ifF rfl ?_; with_reducible conv => whnf) | (refine it_at (by assumption) ?_; with_reducible conv => whnf)))
    exact k _ f2
end K79
set_option linter.all false
set_option maxRecDepth 100000
set_option maxHeartbeats 4000000
namespace K79
open DL
/-- where one may go to from st -/
def goTo (st : Nat) (steps : List Nat) : List Nat := ((steps.filter fun x => decide (x ≤ st)).map fun x => st - x).reverse
def gameN (m : Nat) (steps : List Nat) : List (List Nat) := (List.range m).map fun st => goTo st steps
theorem gameN_get {m st : Nat} (steps : List Nat) (h : st < m) : (gameN m steps).getD st [] = goTo st steps := by
  unfold gameN
  rw [List.getD_eq_getElem?_getD, List.getElem?_map, List.getElem?_range h]
  rfl
theorem gameN_len (m : Nat) (steps : List Nat) : (gameN m steps).length = m := by unfold gameN; rw [List.length_map, List.length_range]
theorem goTo_mem {st t : Nat} {steps : List Nat} : t ∈ goTo st steps ↔ ∃ x ∈ steps, x ≤ st ∧ t = st - x := by
  unfold goTo
  rw [List.mem_reverse, List.mem_map]
  constructor
  · rintro ⟨x, hx, rfl⟩
    obtain ⟨h1, h2⟩ := List.mem_filter.mp hx
    exact ⟨x, h1, of_decide_eq_true h2, rfl⟩
  · rintro ⟨x, h1, h2, rfl⟩
    exact ⟨x, List.mem_filter.mpr ⟨h1, decide_eq_true h2⟩, rfl⟩
theorem goTo_len (st : Nat) (steps : List Nat) : (goTo st steps).length ≤ steps.length := by
  unfold goTo
  rw [List.length_reverse, List.length_map]
  exact List.length_filter_le _ _
/-- steps: ascending, from 1 -/
structure Stp (steps : List Nat) : Prop where
  asc : steps.Pairwise (· < ·)
  pos : ∀ x ∈ steps, 0 < x
  len : steps.length ≤ 50
theorem goTo_asc {st : Nat} {steps : List Nat} (h : Stp steps) : (goTo st steps).Pairwise (· ≤ ·) := by
  unfold goTo
  rw [List.pairwise_reverse, List.pairwise_map]
  exact (h.asc.filter _).imp fun {a b} hab => by omega
theorem sort_goTo {st : Nat} {steps : List Nat} (h : Stp steps) {ys : List D} (hp : ys.Perm (natD ((steps.filter fun x => decide (x ≤ st)).map fun x => st - x))) (hw : ys.Pairwise (fun a b => ltD b a = false)) : ys = natD (goTo st steps) := by
  obtain ⟨ms, rfl, h2, h3⟩ := sort_int hp hw
  have : ms = (goTo st steps).map fun (k : Nat) => (k : Int) := by
    refine List.Perm.eq_of_pairwise (le := (· ≤ ·)) (fun a b _ _ h1 h2 => Int.le_antisymm h1 h2) h3 ?_ ?_
    · rw [List.pairwise_map]
      exact (goTo_asc h).imp fun {a b} hab => by omega
    · refine h2.trans ?_
      refine List.Perm.map _ ?_
      unfold goTo
      exact (List.reverse_perm _).symm
  rw [this]
theorem natD_mapL {α : Type} (l : List α) (f : α → Nat) : l.map (fun x => D.int (f x : Nat)) = natD (l.map f) := by rw [natD_map, List.map_map]; rfl
@[reducible] def sp_some : Spc := fun ds S Q => ∃ (m : Nat) (steps : List Nat), ds = [.int m, .tup (natD steps)] ∧ m ≤ 400 ∧ Stp steps ∧ ∀ S', Sub S S' → Q (.tup ((gameN (m + 1) steps).map ordD)) S'
/-- one turn of the comprehension: where one may go to -/
theorem body_take_some : Body 4 2 w_take_some sp_some := by
  rintro ds S Q _ ⟨m, steps, rfl, hm, hst, k⟩
  unfold w_take_some
  (simp only [start, List.map_cons, List.map_nil, List.length_cons, List.length_nil, Nat.reduceAdd, Nat.reduceSub, List.replicate_succ, List.replicate_zero, List.cons_append, List.nil_append, Nat.sub_self, Nat.zero_add])
  ((with_reducible conv => whnf); repeat (first | (rw [natD_len]; with_reducible conv => whnf) | (rw [intD_len]; with_reducible conv => whnf) | (refine Exists.intro _ (And.intro (rfl : _ = some _) ?_); with_reducible conv => whnf) | (refine And.intro (okII _ _) ?_; rw [eqD_ii]; with_reducible conv => whnf) | (refine And.intro (by first | assumption | exact Exists.intro _ (by assumption) | exact ⟨rfl, rfl, by decide, by decide⟩ | exact Nat.le_of_ble_eq_true rfl | exact rfl) ?_; with_reducible conv => whnf) | (rw [isLst_at (by assumption)]; with_reducible conv => whnf) | (refine ifT rfl ?_; with_reducible conv => whnf) | (refine ifF rfl ?_; with_reducible conv => whnf) | (refine it_at (by assumption) ?_; with_reducible conv => whnf)))
  refine ⟨⟨by omega, by omega⟩, ?_⟩
  rw [show (m : Int) + 1 = ((m + 1 : Nat) : Int) by omega]
  have h50 := hst.len
  refine Lc_rm (fun st => ordD (goTo st steps)) (by unfold szL; omega) (by intros; trivial) (fun st S1 R hs h1 hR => ?_) fun S1 s1 => ?_
  · (with_reducible conv => whnf)
    refine ifT rfl ?_
    (with_reducible conv => whnf)
    rw [natD_map steps]
    refine Lc_lf (xs := steps) (e := fun (t : Nat) => D.int (t : Int)) (fun x => decide (x ≤ st)) (fun x => .int ((st - x : Nat) : Int)) (by unfold szL; omega) (by intros; trivial) (fun x S2 R2 m h hR2 => ?_) fun S2 s2 => ?_
    · ((with_reducible conv => whnf); repeat (first | (rw [natD_len]; with_reducible conv => whnf) | (rw [intD_len]; with_reducible conv => whnf) | (refine Exists.intro _ (And.intro (rfl : _ = some _) ?_); with_reducible conv => whnf) | (refine And.intro (okII _ _) ?_; rw [eqD_ii]; with_reducible conv => whnf) | (refine And.intro (by first | assumption | exact Exists.intro _ (by assumption) | exact ⟨rfl, rfl, by decide, by decide⟩ | exact Nat.le_of_ble_eq_true rfl | exact rfl) ?_; with_reducible conv => whnf) | (rw [isLst_at (by assumption)]; with_reducible conv => whnf) | (refine ifT rfl ?_; with_reducible conv => whnf) | (refine ifF rfl ?_; with_reducible conv => whnf) | (refine it_at (by assumption) ?_; with_reducible conv => whnf)))
      have := hR2 S2 (Sub.refl _)
      refine ite_d (fun hc => ?_) fun hc => ?_
      · rw [if_pos (decide_eq_true (by omega))] at this
        ((with_reducible conv => whnf); repeat (first | (rw [natD_len]; with_reducible conv => whnf) | (rw [intD_len]; with_reducible conv => whnf) | (refine Exists.intro _ (And.intro (rfl : _ = some _) ?_); with_reducible conv => whnf) | (refine And.intro (okII _ _) ?_; rw [eqD_ii]; with_reducible conv => whnf) | (refine And.intro (by first | assumption | exact Exists.intro _ (by assumption) | exact ⟨rfl, rfl, by decide, by decide⟩ | exact Nat.le_of_ble_eq_true rfl | exact rfl) ?_; with_reducible conv => whnf) | (rw [isLst_at (by assumption)]; with_reducible conv => whnf) | (refine ifT rfl ?_; with_reducible conv => whnf) | (refine ifF rfl ?_; with_reducible conv => whnf) | (refine it_at (by assumption) ?_; with_reducible conv => whnf)))
        rw [show (st : Int) - x = ((st - x : Nat) : Int) by omega]
        exact this
      · rw [if_neg (by rw [decide_eq_true_eq]; omega)] at this
        exact this
    have em2 : (steps.filter fun x => decide (x ≤ st)).map (fun x => D.int ((st - x : Nat) : Int)) = natD ((steps.filter fun x => decide (x ≤ st)).map fun x => st - x) := natD_mapL _ _
    rw [em2]
    have e2 := at_push S2 (.lst (natD ((steps.filter fun x => decide (x ≤ st)).map fun x => st - x)))
    have s3 := s2.app [.lst (natD ((steps.filter fun x => decide (x ≤ st)).map fun x => st - x))]
    ((with_reducible conv => whnf); repeat (first | (rw [natD_len]; with_reducible conv => whnf) | (rw [intD_len]; with_reducible conv => whnf) | (refine Exists.intro _ (And.intro (rfl : _ = some _) ?_); with_reducible conv => whnf) | (refine And.intro (okII _ _) ?_; rw [eqD_ii]; with_reducible conv => whnf) | (refine And.intro (by first | assumption | exact Exists.intro _ (by assumption) | exact ⟨rfl, rfl, by decide, by decide⟩ | exact Nat.le_of_ble_eq_true rfl | exact rfl) ?_; with_reducible conv => whnf) | (rw [isLst_at (by assumption)]; with_reducible conv => whnf) | (refine ifT rfl ?_; with_reducible conv => whnf) | (refine ifF rfl ?_; with_reducible conv => whnf) | (refine it_at (by assumption) ?_; with_reducible conv => whnf)))
    refine ⟨sortOk_int _, fun ys hp hw => ?_⟩
    rw [sort_goTo hst hp hw]
    have e3 := at_push (S2 ++ [.lst (natD ((steps.filter fun x => decide (x ≤ st)).map fun x => st - x))]) (.lst (natD (goTo st steps)))
    have s4 := s3.app [.lst (natD (goTo st steps))]
    ((with_reducible conv => whnf); repeat (first | (rw [natD_len]; with_reducible conv => whnf) | (rw [intD_len]; with_reducible conv => whnf) | (refine Exists.intro _ (And.intro (rfl : _ = some _) ?_); with_reducible conv => whnf) | (refine And.intro (okII _ _) ?_; rw [eqD_ii]; with_reducible conv => whnf) | (refine And.intro (by first | assumption | exact Exists.intro _ (by assumption) | exact ⟨rfl, rfl, by decide, by decide⟩ | exact Nat.le_of_ble_eq_true rfl | exact rfl) ?_; with_reducible conv => whnf) | (rw [isLst_at (by assumption)]; with_reducible conv => whnf) | (refine ifT rfl ?_; with_reducible conv => whnf) | (refine ifF rfl ?_; with_reducible conv => whnf) | (refine it_at (by assumption) ?_; with_reducible conv => whnf)))
    exact hR _ s4
  have em : (List.range (m + 1)).map (fun st => ordD (goTo st steps)) = (gameN (m + 1) steps).map ordD := by unfold gameN; rw [List.map_map]; rfl
  rw [em]
  have e1 := at_push S1 (.lst ((gameN (m + 1) steps).map ordD))
  have s2 := s1.app [.lst ((gameN (m + 1) steps).map ordD)]
  ((with_reducible conv => whnf); repeat (first | (rw [natD_len]; with_reducible conv => whnf) | (rw [intD_len]; with_reducible conv => whnf) | (refine Exists.intro _ (And.intro (rfl : _ = some _) ?_); with_reducible conv => whnf) | (refine And.intro (okII _ _) ?_; rw [eqD_ii]; with_reducible conv => whnf) | (refine And.intro (by first | assumption | exact Exists.intro _ (by assumption) | exact ⟨rfl, rfl, by decide, by decide⟩ | exact Nat.le_of_ble_eq_true rfl | exact rfl) ?_; with_reducible conv => whnf) | (rw [isLst_at (by assumption)]; with_reducible conv => whnf) | (refine ifT rfl ?_; with_reducible conv => whnf) | (refine ifF rfl ?_; with_reducible conv => whnf) | (refine it_at (by assumption) ?_; with_reducible conv => whnf)))
  exact k _ s2
/-! coming again -/
def rep (row : List Nat) (b l : Nat) : Bool := (List.range (row.length - l - b)).all fun t => decide (row.getD (b + t) 0 = row.getD (b + t + l) 0)
@[reducible] def sp_rep : Spc := fun ds S Q => ∃ (row : List Nat) (b l : Nat), ds = [ordD row, .int b, .int l] ∧ row.length ≤ 1000 ∧ b + l ≤ row.length ∧ ∀ S', Sub S S' → Q (.bl (rep row b l)) S'
theorem body_repeats : Body 4 3 w_repeats sp_rep := by
  rintro ds S Q _ ⟨row, b, l, rfl, hl, hb, k⟩
  unfold w_repeats
  (simp only [start, List.map_cons, List.map_nil, List.length_cons, List.length_nil, Nat.reduceAdd, Nat.reduceSub, List.replicate_succ, List.replicate_zero, List.cons_append, List.nil_append, Nat.sub_self, Nat.zero_add])
  ((with_reducible conv => whnf); repeat (first | (rw [natD_len]; with_reducible conv => whnf) | (rw [intD_len]; with_reducible conv => whnf) | (refine Exists.intro _ (And.intro (rfl : _ = some _) ?_); with_reducible conv => whnf) | (refine And.intro (okII _ _) ?_; rw [eqD_ii]; with_reducible conv => whnf) | (refine And.intro (by first | assumption | exact Exists.intro _ (by assumption) | exact ⟨rfl, rfl, by decide, by decide⟩ | exact Nat.le_of_ble_eq_true rfl | exact rfl) ?_; with_reducible conv => whnf) | (rw [isLst_at (by assumption)]; with_reducible conv => whnf) | (refine ifT rfl ?_; with_reducible conv => whnf) | (refine ifF rfl ?_; with_reducible conv => whnf) | (refine it_at (by assumption) ?_; with_reducible conv => whnf)))
  refine ⟨⟨by omega, by omega⟩, ⟨by omega, by omega⟩, ?_⟩
  unfold rangeD
  rw [show ((row.length : Int) - l - b).toNat = row.length - l - b by omega]
  refine Lc_lm (xs := List.range (row.length - l - b)) (e := fun t : Nat => D.int (b + (t : Int))) (fun t => .bl (decide (row.getD (b + t) 0 = row.getD (b + t + l) 0))) (by rw [List.length_range]; unfold szL; omega) (by intros; trivial) (fun t S1 R ht h1 hR => ?_) fun S1 s1 => ?_
  · have ht := List.mem_range.mp ht
    rw [show (b : Int) + (t : Int) = ((b + t : Nat) : Int) by omega]
    ((with_reducible conv => whnf); repeat (first | (rw [natD_len]; with_reducible conv => whnf) | (rw [intD_len]; with_reducible conv => whnf) | (refine Exists.intro _ (And.intro (rfl : _ = some _) ?_); with_reducible conv => whnf) | (refine And.intro (okII _ _) ?_; rw [eqD_ii]; with_reducible conv => whnf) | (refine And.intro (by first | assumption | exact Exists.intro _ (by assumption) | exact ⟨rfl, rfl, by decide, by decide⟩ | exact Nat.le_of_ble_eq_true rfl | exact rfl) ?_; with_reducible conv => whnf) | (rw [isLst_at (by assumption)]; with_reducible conv => whnf) | (refine ifT rfl ?_; with_reducible conv => whnf) | (refine ifF rfl ?_; with_reducible conv => whnf) | (refine it_at (by assumption) ?_; with_reducible conv => whnf)))
    refine ⟨_, atZ_natD (by omega), ?_⟩
    ((with_reducible conv => whnf); repeat (first | (rw [natD_len]; with_reducible conv => whnf) | (rw [intD_len]; with_reducible conv => whnf) | (refine Exists.intro _ (And.intro (rfl : _ = some _) ?_); with_reducible conv => whnf) | (refine And.intro (okII _ _) ?_; rw [eqD_ii]; with_reducible conv => whnf) | (refine And.intro (by first | assumption | exact Exists.intro _ (by assumption) | exact ⟨rfl, rfl, by decide, by decide⟩ | exact Nat.le_of_ble_eq_true rfl | exact rfl) ?_; with_reducible conv => whnf) | (rw [isLst_at (by assumption)]; with_reducible conv => whnf) | (refine ifT rfl ?_; with_reducible conv => whnf) | (refine ifF rfl ?_; with_reducible conv => whnf) | (refine it_at (by assumption) ?_; with_reducible conv => whnf)))
    rw [show ((b + t : Nat) : Int) + l = ((b + t + l : Nat) : Int) by omega]
    refine ⟨_, atZ_natD (by omega), ?_⟩
    ((with_reducible conv => whnf); repeat (first | (rw [natD_len]; with_reducible conv => whnf) | (rw [intD_len]; with_reducible conv => whnf) | (refine Exists.intro _ (And.intro (rfl : _ = some _) ?_); with_reducible conv => whnf) | (refine And.intro (okII _ _) ?_; rw [eqD_ii]; with_reducible conv => whnf) | (refine And.intro (by first | assumption | exact Exists.intro _ (by assumption) | exact ⟨rfl, rfl, by decide, by decide⟩ | exact Nat.le_of_ble_eq_true rfl | exact rfl) ?_; with_reducible conv => whnf) | (rw [isLst_at (by assumption)]; with_reducible conv => whnf) | (refine ifT rfl ?_; with_reducible conv => whnf) | (refine ifF rfl ?_; with_reducible conv => whnf) | (refine it_at (by assumption) ?_; with_reducible conv => whnf)))
    have := hR S1 (Sub.refl _)
    rw [show decide (row.getD (b + t) 0 = row.getD (b + t + l) 0) = decide (((row.getD (b + t) 0 : Nat) : Int) = (row.getD (b + t + l) 0 : Nat)) by rw [decide_eq_decide]; omega] at this
    exact this
  · have e1 : (S1 ++ [O.lst ((List.range (row.length - l - b)).map fun t => D.bl (decide (row.getD (b + t) 0 = row.getD (b + t + l) 0)))])[S1.length]? = some (.lst (((List.range (row.length - l - b)).map fun t => decide (row.getD (b + t) 0 = row.getD (b + t + l) 0)).map D.bl)) := by rw [at_push, List.map_map]; rfl
    have s2 := s1.app [O.lst ((List.range (row.length - l - b)).map fun t => D.bl (decide (row.getD (b + t) 0 = row.getD (b + t + l) 0)))]
    (with_reducible conv => whnf)
    refine ⟨_, e1, ?_⟩
    have eo : (((List.range (row.length - l - b)).map fun t => decide (row.getD (b + t) 0 = row.getD (b + t + l) 0)).all id) = rep row b l := by unfold rep; rw [List.all_map]; rfl
    rw [eo]
    exact k _ s2
def fi (P : Nat → Nat → Bool) (b : Nat) : Nat → Nat → Option Nat
  | 0, _ => none
  | s + 1, l => if P b l = true then some l else fi P b s (l + 1)
def fo (P : Nat → Nat → Bool) (most : Nat) : Nat → Nat → Option (Nat × Nat)
  | 0, _ => none
  | s + 1, b => match fi P b (most - b) 1 with
    | some l => some (b, l)
    | none => fo P most s (b + 1)
def first (P : Nat → Nat → Bool) (most : Nat) : Option (Nat × Nat) := fo P most most 0
def rowN (steps : List Nat) : Nat → List Nat
  | 0 => []
  | i + 1 => rowN steps i ++ [mex ((steps.filter fun x => decide (x ≤ i)).map fun x => (rowN steps i).getD (i - x) 0)]
theorem rowN_len (steps : List Nat) : ∀ i, (rowN steps i).length = i
  | 0 => rfl
  | i + 1 => by show (_ ++ [_]).length = _; rw [List.length_append, rowN_len steps i]; rfl
theorem rowN_nums (steps : List Nat) (m : Nat) : ∀ i, i ≤ m → numsN (gameN m steps) i = rowN steps i
  | 0, _ => rfl
  | i + 1, h => by
    show numsN (gameN m steps) i ++ [_] = rowN steps i ++ [_]
    rw [rowN_nums steps m i (by omega), gameN_get steps (by omega)]
    congr 2
    apply mex_congr
    intro x
    unfold goTo
    rw [List.map_reverse, List.mem_reverse, List.map_map]
    rfl
theorem game_ok {m : Nat} {steps : List Nat} (h : Stp steps) : ∀ i, i < (gameN m steps).length → ((gameN m steps).getD i []).length ≤ 100 ∧ ∀ t ∈ (gameN m steps).getD i [], t < i := by
  intro i hi
  rw [gameN_len] at hi
  rw [gameN_get steps hi]
  refine ⟨Nat.le_trans (goTo_len i steps) (Nat.le_trans h.len (by decide)), fun t ht => ?_⟩
  obtain ⟨x, h1, h2, rfl⟩ := goTo_mem.mp ht
  have := h.pos x h1
  omega
@[reducible] def sp_again : Spc := fun ds S Q => ∃ (steps : List Nat) (most : Nat), ds = [.tup (natD steps), .int most] ∧ most ≤ 100 ∧ Stp steps ∧ ∀ S', Sub S S' → Q (optP (first (rep (rowN steps (4 * most + 1))) most)) S'
theorem body_comes_again : Body 5 2 (w_comes_again sp_some sp_nums sp_rep) sp_again := by
  rintro ds S Q _ ⟨steps, most, rfl, hm, hst, k⟩
  unfold w_comes_again
  (simp only [start, List.map_cons, List.map_nil, List.length_cons, List.length_nil, Nat.reduceAdd, Nat.reduceSub, List.replicate_succ, List.replicate_zero, List.cons_append, List.nil_append, Nat.sub_self, Nat.zero_add])
  ((with_reducible conv => whnf); repeat (first | (rw [natD_len]; with_reducible conv => whnf) | (rw [intD_len]; with_reducible conv => whnf) | (refine Exists.intro _ (And.intro (rfl : _ = some _) ?_); with_reducible conv => whnf) | (refine And.intro (okII _ _) ?_; rw [eqD_ii]; with_reducible conv => whnf) | (refine And.intro (by first | assumption | exact Exists.intro _ (by assumption) | exact ⟨rfl, rfl, by decide, by decide⟩ | exact Nat.le_of_ble_eq_true rfl | exact rfl) ?_; with_reducible conv => whnf) | (rw [isLst_at (by assumption)]; with_reducible conv => whnf) | (refine ifT rfl ?_; with_reducible conv => whnf) | (refine ifF rfl ?_; with_reducible conv => whnf) | (refine it_at (by assumption) ?_; with_reducible conv => whnf)))
  refine ⟨smallMul' (by decide), ?_⟩
  ((with_reducible conv => whnf); repeat (first | (rw [natD_len]; with_reducible conv => whnf) | (rw [intD_len]; with_reducible conv => whnf) | (refine Exists.intro _ (And.intro (rfl : _ = some _) ?_); with_reducible conv => whnf) | (refine And.intro (okII _ _) ?_; rw [eqD_ii]; with_reducible conv => whnf) | (refine And.intro (by first | assumption | exact Exists.intro _ (by assumption) | exact ⟨rfl, rfl, by decide, by decide⟩ | exact Nat.le_of_ble_eq_true rfl | exact rfl) ?_; with_reducible conv => whnf) | (rw [isLst_at (by assumption)]; with_reducible conv => whnf) | (refine ifT rfl ?_; with_reducible conv => whnf) | (refine ifF rfl ?_; with_reducible conv => whnf) | (refine it_at (by assumption) ?_; with_reducible conv => whnf)))
  refine ⟨4 * most, steps, by rw [show (4 : Int) * most = ((4 * most : Nat) : Int) by omega], by omega, hst, fun S1 s1 => ?_⟩
  ((with_reducible conv => whnf); repeat (first | (rw [natD_len]; with_reducible conv => whnf) | (rw [intD_len]; with_reducible conv => whnf) | (refine Exists.intro _ (And.intro (rfl : _ = some _) ?_); with_reducible conv => whnf) | (refine And.intro (okII _ _) ?_; rw [eqD_ii]; with_reducible conv => whnf) | (refine And.intro (by first | assumption | exact Exists.intro _ (by assumption) | exact ⟨rfl, rfl, by decide, by decide⟩ | exact Nat.le_of_ble_eq_true rfl | exact rfl) ?_; with_reducible conv => whnf) | (rw [isLst_at (by assumption)]; with_reducible conv => whnf) | (refine ifT rfl ?_; with_reducible conv => whnf) | (refine ifF rfl ?_; with_reducible conv => whnf) | (refine it_at (by assumption) ?_; with_reducible conv => whnf)))
  refine ⟨_, rfl, by rw [gameN_len]; omega, game_ok hst, fun S2 s2 => ?_⟩
  have ss := s1.trans s2
  rw [gameN_len, rowN_nums steps _ _ (Nat.le_refl _)]
  have hrl := rowN_len steps (4 * most + 1)
  generalize rowN steps (4 * most + 1) = row at *
  ((with_reducible conv => whnf); repeat (first | (rw [natD_len]; with_reducible conv => whnf) | (rw [intD_len]; with_reducible conv => whnf) | (refine Exists.intro _ (And.intro (rfl : _ = some _) ?_); with_reducible conv => whnf) | (refine And.intro (okII _ _) ?_; rw [eqD_ii]; with_reducible conv => whnf) | (refine And.intro (by first | assumption | exact Exists.intro _ (by assumption) | exact ⟨rfl, rfl, by decide, by decide⟩ | exact Nat.le_of_ble_eq_true rfl | exact rfl) ?_; with_reducible conv => whnf) | (rw [isLst_at (by assumption)]; with_reducible conv => whnf) | (refine ifT rfl ?_; with_reducible conv => whnf) | (refine ifF rfl ?_; with_reducible conv => whnf) | (refine it_at (by assumption) ?_; with_reducible conv => whnf)))
  refine ⟨⟨by omega, by omega⟩, ?_⟩
  refine Loop_mk (fun i ρ S' => ∃ o3 o4, ρ = [some (.tup (natD steps)), some (.int most), some (ordD row), o3, o4] ∧ fo (rep row) most (most - i) i = first (rep row) most ∧ Sub S S') ⟨none, none, rfl, rfl, ss⟩ (by intros; trivial) ?_ ?_
  · rintro i d ρ' S' hi ⟨o3, o4, rfl, hf, hs⟩
    obtain ⟨hi1, rfl⟩ := rangeD_get hi
    have him : i < most := by omega
    rw [show (0 : Int) + i = i by omega]
    ((with_reducible conv => whnf); repeat (first | (rw [natD_len]; with_reducible conv => whnf) | (rw [intD_len]; with_reducible conv => whnf) | (refine Exists.intro _ (And.intro (rfl : _ = some _) ?_); with_reducible conv => whnf) | (refine And.intro (okII _ _) ?_; rw [eqD_ii]; with_reducible conv => whnf) | (refine And.intro (by first | assumption | exact Exists.intro _ (by assumption) | exact ⟨rfl, rfl, by decide, by decide⟩ | exact Nat.le_of_ble_eq_true rfl | exact rfl) ?_; with_reducible conv => whnf) | (rw [isLst_at (by assumption)]; with_reducible conv => whnf) | (refine ifT rfl ?_; with_reducible conv => whnf) | (refine ifF rfl ?_; with_reducible conv => whnf) | (refine it_at (by assumption) ?_; with_reducible conv => whnf)))
    refine ⟨⟨by decide, by decide⟩, ⟨by omega, by omega⟩, ?_⟩
    refine Loop_mk (fun j ρ S' => ∃ o4, ρ = [some (.tup (natD steps)), some (.int most), some (ordD row), some (.int i), o4] ∧ fi (rep row) i (most - i - j) (1 + j) = fi (rep row) i (most - i) 1 ∧ Sub S S') ⟨o4, rfl, rfl, hs⟩ (by intros; trivial) ?_ ?_
    · rintro j d ρ' S3 hj ⟨o4, rfl, hfi, hs⟩
      obtain ⟨hj1, rfl⟩ := rangeD_get hj
      have hjm : j < most - i := by omega
      rw [show (1 : Int) + j = ((1 + j : Nat) : Int) by omega]
      ((with_reducible conv => whnf); repeat (first | (rw [natD_len]; with_reducible conv => whnf) | (rw [intD_len]; with_reducible conv => whnf) | (refine Exists.intro _ (And.intro (rfl : _ = some _) ?_); with_reducible conv => whnf) | (refine And.intro (okII _ _) ?_; rw [eqD_ii]; with_reducible conv => whnf) | (refine And.intro (by first | assumption | exact Exists.intro _ (by assumption) | exact ⟨rfl, rfl, by decide, by decide⟩ | exact Nat.le_of_ble_eq_true rfl | exact rfl) ?_; with_reducible conv => whnf) | (rw [isLst_at (by assumption)]; with_reducible conv => whnf) | (refine ifT rfl ?_; with_reducible conv => whnf) | (refine ifF rfl ?_; with_reducible conv => whnf) | (refine it_at (by assumption) ?_; with_reducible conv => whnf)))
      refine ⟨row, i, 1 + j, rfl, by omega, by omega, fun S4 s4 => ?_⟩
      have hs4 := hs.trans s4
      obtain ⟨q, hq⟩ : ∃ q, most - i - j = q + 1 := ⟨most - i - j - 1, by omega⟩
      rw [hq] at hfi
      cases e : rep row i (1 + j) with
      | true =>
        have h1 : fi (rep row) i (most - i) 1 = some (1 + j) := by
          rw [← hfi]
          unfold fi
          rw [if_pos e]
        have h2 : first (rep row) most = some (i, 1 + j) := by
          rw [← hf]
          obtain ⟨p, hp⟩ : ∃ p, most - i = p + 1 := ⟨most - i - 1, by omega⟩
          rw [hp]
          unfold fo
          rw [h1]
        ((with_reducible conv => whnf); repeat (first | (rw [natD_len]; with_reducible conv => whnf) | (rw [intD_len]; with_reducible conv => whnf) | (refine Exists.intro _ (And.intro (rfl : _ = some _) ?_); with_reducible conv => whnf) | (refine And.intro (okII _ _) ?_; rw [eqD_ii]; with_reducible conv => whnf) | (refine And.intro (by first | assumption | exact Exists.intro _ (by assumption) | exact ⟨rfl, rfl, by decide, by decide⟩ | exact Nat.le_of_ble_eq_true rfl | exact rfl) ?_; with_reducible conv => whnf) | (rw [isLst_at (by assumption)]; with_reducible conv => whnf) | (refine ifT rfl ?_; with_reducible conv => whnf) | (refine ifF rfl ?_; with_reducible conv => whnf) | (refine it_at (by assumption) ?_; with_reducible conv => whnf)))
        have := k _ hs4
        rw [h2] at this
        exact this
      | false =>
        ((with_reducible conv => whnf); repeat (first | (rw [natD_len]; with_reducible conv => whnf) | (rw [intD_len]; with_reducible conv => whnf) | (refine Exists.intro _ (And.intro (rfl : _ = some _) ?_); with_reducible conv => whnf) | (refine And.intro (okII _ _) ?_; rw [eqD_ii]; with_reducible conv => whnf) | (refine And.intro (by first | assumption | exact Exists.intro _ (by assumption) | exact ⟨rfl, rfl, by decide, by decide⟩ | exact Nat.le_of_ble_eq_true rfl | exact rfl) ?_; with_reducible conv => whnf) | (rw [isLst_at (by assumption)]; with_reducible conv => whnf) | (refine ifT rfl ?_; with_reducible conv => whnf) | (refine ifF rfl ?_; with_reducible conv => whnf) | (refine it_at (by assumption) ?_; with_reducible conv => whnf)))
        refine ⟨_, rfl, ?_, hs4⟩
        rw [← hfi, show most - i - (j + 1) = q by omega]
        conv => rhs; unfold fi
        rw [if_neg (by rw [e]; decide)]
        rfl
    · rintro ρ' S3 ⟨o4, rfl, hfi, hs⟩
      rw [rangeD_len, show ((most : Int) - i + 1 - 1).toNat = most - i by omega, Nat.sub_self] at hfi
      refine ⟨_, _, rfl, ?_, hs⟩
      rw [← hf]
      obtain ⟨p, hp⟩ : ∃ p, most - i = p + 1 := ⟨most - i - 1, by omega⟩
      rw [hp, show most - (i + 1) = p by omega]
      conv => rhs; unfold fo
      rw [← hfi]
      rfl
  · rintro ρ' S' ⟨o3, o4, rfl, hf, hs⟩
    rw [rangeD_len, show ((most : Int) - 0).toNat = most by omega, Nat.sub_self] at hf
    have := k _ hs
    rw [← hf] at this
    exact this
end K79
set_option linter.all false
set_option maxRecDepth 100000
set_option maxHeartbeats 4000000
namespace K79
open DL
@[reducible] def sp_row : Spc := fun ds S Q => ∃ (steps : List Nat) (m : Nat), ds = [.tup (natD steps), .int m] ∧ m ≤ 1000 ∧ Stp steps ∧ ∀ p S', S.length ≤ p → S'[p]? = some (.lst (natD (rowN steps m))) → Sub S S' → Q (.ref p) S'
theorem mex_head (l : List Nat) : atZ (((List.range (l.length + 1)).filter fun k => !decide (k ∈ l)).map fun (k : Nat) => D.int (k : Int)) 0 = some (.int (mex l : Nat)) := by
  obtain ⟨h1, h2⟩ := mex_spec l
  have hf : (List.range (l.length + 1)).find? (fun k => !decide (k ∈ l)) = some (mex l) := by
    rw [List.find?_range_eq_some]
    refine ⟨by simp [h1], List.mem_range.mpr (by have := mex_le l; omega), fun j hj => by simp [h2 j hj]⟩
  rw [← List.head?_filter] at hf
  have e : (((List.range (l.length + 1)).filter fun k => !decide (k ∈ l)).map fun (k : Nat) => D.int (k : Int))[0]? = some (.int (mex l : Nat)) := by
    rw [List.getElem?_map, ← List.head?_eq_getElem?, hf]
    rfl
  exact atZ_nat e
theorem body_law_row : Body 7 2 w_law_row sp_row := by
  rintro ds S Q _ ⟨steps, m, rfl, hm, hst, k⟩
  unfold w_law_row
  (simp only [start, List.map_cons, List.map_nil, List.length_cons, List.length_nil, Nat.reduceAdd, Nat.reduceSub, List.replicate_succ, List.replicate_zero, List.cons_append, List.nil_append, Nat.sub_self, Nat.zero_add])
  ((with_reducible conv => whnf); repeat (first | (rw [natD_len]; with_reducible conv => whnf) | (rw [intD_len]; with_reducible conv => whnf) | (refine Exists.intro _ (And.intro (rfl : _ = some _) ?_); with_reducible conv => whnf) | (refine And.intro (okII _ _) ?_; rw [eqD_ii]; with_reducible conv => whnf) | (refine And.intro (by first | assumption | exact Exists.intro _ (by assumption) | exact ⟨rfl, rfl, by decide, by decide⟩ | exact Nat.le_of_ble_eq_true rfl | exact rfl) ?_; with_reducible conv => whnf) | (rw [isLst_at (by assumption)]; with_reducible conv => whnf) | (refine ifT rfl ?_; with_reducible conv => whnf) | (refine ifF rfl ?_; with_reducible conv => whnf) | (refine it_at (by assumption) ?_; with_reducible conv => whnf)))
  have e0 := at_push S (.lst [])
  have s0 := (Sub.refl S).app [.lst []]
  generalize S ++ [.lst []] = S1 at *
  have h50 := hst.len
  refine ⟨⟨by omega, by omega⟩, ?_⟩
  refine Loop_mk (fun i ρ S' => ∃ o3 o4, ρ = [some (.tup (natD steps)), some (.int m), some (.ref S.length), o3, o4, none, none] ∧ S'[S.length]? = some (.lst (natD (rowN steps i))) ∧ Sub S S') ⟨none, none, rfl, e0, s0⟩ (by intros; trivial) ?_ ?_
  · rintro i d ρ' S' hi ⟨o3, o4, rfl, f1, f2⟩
    obtain ⟨hi1, rfl⟩ := rangeD_get hi
    rw [show (0 : Int) + i = i by omega]
    have hrl := rowN_len steps i
    (with_reducible conv => whnf)
    rw [natD_map steps]
    refine Lc_lf (xs := steps) (e := fun (t : Nat) => D.int (t : Int)) (fun x => decide (x ≤ i)) (fun x => .int ((rowN steps i).getD (i - x) 0 : Nat)) (by unfold szL; omega) (by intros; trivial) (fun x S2 R2 hx h hR2 => ?_) fun S2 s2 => ?_
    · have f := h _ _ f1
      have := hst.pos x hx
      ((with_reducible conv => whnf); repeat (first | (rw [natD_len]; with_reducible conv => whnf) | (rw [intD_len]; with_reducible conv => whnf) | (refine Exists.intro _ (And.intro (rfl : _ = some _) ?_); with_reducible conv => whnf) | (refine And.intro (okII _ _) ?_; rw [eqD_ii]; with_reducible conv => whnf) | (refine And.intro (by first | assumption | exact Exists.intro _ (by assumption) | exact ⟨rfl, rfl, by decide, by decide⟩ | exact Nat.le_of_ble_eq_true rfl | exact rfl) ?_; with_reducible conv => whnf) | (rw [isLst_at (by assumption)]; with_reducible conv => whnf) | (refine ifT rfl ?_; with_reducible conv => whnf) | (refine ifF rfl ?_; with_reducible conv => whnf) | (refine it_at (by assumption) ?_; with_reducible conv => whnf)))
      have hz := hR2 S2 (Sub.refl _)
      refine ite_d (fun hc => ?_) fun hc => ?_
      · rw [if_pos (decide_eq_true (by omega))] at hz
        ((with_reducible conv => whnf); repeat (first | (rw [natD_len]; with_reducible conv => whnf) | (rw [intD_len]; with_reducible conv => whnf) | (refine Exists.intro _ (And.intro (rfl : _ = some _) ?_); with_reducible conv => whnf) | (refine And.intro (okII _ _) ?_; rw [eqD_ii]; with_reducible conv => whnf) | (refine And.intro (by first | assumption | exact Exists.intro _ (by assumption) | exact ⟨rfl, rfl, by decide, by decide⟩ | exact Nat.le_of_ble_eq_true rfl | exact rfl) ?_; with_reducible conv => whnf) | (rw [isLst_at (by assumption)]; with_reducible conv => whnf) | (refine ifT rfl ?_; with_reducible conv => whnf) | (refine ifF rfl ?_; with_reducible conv => whnf) | (refine it_at (by assumption) ?_; with_reducible conv => whnf)))
        rw [show (i : Int) - x = ((i - x : Nat) : Int) by omega]
        exact ⟨_, atZ_natD (by omega), hz⟩
      · rw [if_neg (by rw [decide_eq_true_eq]; omega)] at hz
        exact hz
    have em2 : (steps.filter fun x => decide (x ≤ i)).map (fun x => D.int ((rowN steps i).getD (i - x) 0 : Nat)) = natD ((steps.filter fun x => decide (x ≤ i)).map fun x => (rowN steps i).getD (i - x) 0) := natD_mapL _ _
    rw [em2]
    have hfl : ((steps.filter fun x => decide (x ≤ i)).map fun x => (rowN steps i).getD (i - x) 0).length ≤ 50 := by
      rw [List.length_map]
      exact Nat.le_trans (List.length_filter_le _ _) h50
    have hrs : rowN steps (i + 1) = rowN steps i ++ [mex ((steps.filter fun x => decide (x ≤ i)).map fun x => (rowN steps i).getD (i - x) 0)] := rfl
    generalize (steps.filter fun x => decide (x ≤ i)).map (fun x => (rowN steps i).getD (i - x) 0) = l at *
    have e2 := at_push S2 (.lst (natD l))
    have f1 := push_at (s2 _ _ f1) [.lst (natD l)]
    have f2 := (f2.trans s2).app [.lst (natD l)]
    generalize S2 ++ [.lst (natD l)] = S3 at *
    (with_reducible conv => whnf)
    refine ⟨⟨_, f1⟩, ?_⟩
    ((with_reducible conv => whnf); repeat (first | (rw [natD_len]; with_reducible conv => whnf) | (rw [intD_len]; with_reducible conv => whnf) | (refine Exists.intro _ (And.intro (rfl : _ = some _) ?_); with_reducible conv => whnf) | (refine And.intro (okII _ _) ?_; rw [eqD_ii]; with_reducible conv => whnf) | (refine And.intro (by first | assumption | exact Exists.intro _ (by assumption) | exact ⟨rfl, rfl, by decide, by decide⟩ | exact Nat.le_of_ble_eq_true rfl | exact rfl) ?_; with_reducible conv => whnf) | (rw [isLst_at (by assumption)]; with_reducible conv => whnf) | (refine ifT rfl ?_; with_reducible conv => whnf) | (refine ifF rfl ?_; with_reducible conv => whnf) | (refine it_at (by assumption) ?_; with_reducible conv => whnf)))
    refine ⟨⟨by omega, by omega⟩, ?_⟩
    rw [show (l.length : Int) + 1 = ((l.length + 1 : Nat) : Int) by omega]
    refine Lc_rf (fun j => !decide (j ∈ l)) (fun j => .int (j : Nat)) (by unfold szL; omega) (by intros; trivial) (fun j S4 R4 hj h4 hR4 => ?_) fun S4 s4 => ?_
    · have f := h4 _ _ e2
      ((with_reducible conv => whnf); repeat (first | (refine And.intro (okII _ _) ?_; rw [eqD_ii]; with_reducible conv => whnf) | (refine And.intro (by first | assumption | exact Exists.intro _ (by assumption) | exact ⟨rfl, rfl, by decide, by decide⟩ | exact Nat.le_of_ble_eq_true rfl | exact rfl) ?_; with_reducible conv => whnf) | (rw [isLst_at (by assumption)]; with_reducible conv => whnf) | (refine ifT rfl ?_; with_reducible conv => whnf) | (refine ifF rfl ?_; with_reducible conv => whnf) | (refine it_at (by assumption) ?_; with_reducible conv => whnf)))
      refine ⟨⟨rfl, flats_int _, Nat.zero_le _, by rw [deeps_int]; omega⟩, ?_⟩
      rw [any_nat]
      have hz := hR4 S4 (Sub.refl _)
      by_cases c : j ∈ l
      · refine ifF (by simp [c]) ?_
        rw [if_neg (by simp [c])] at hz
        exact hz
      · refine ifT (by simp [c]) ?_
        rw [if_pos (by simp [c])] at hz
        ((with_reducible conv => whnf); repeat (first | (rw [natD_len]; with_reducible conv => whnf) | (rw [intD_len]; with_reducible conv => whnf) | (refine Exists.intro _ (And.intro (rfl : _ = some _) ?_); with_reducible conv => whnf) | (refine And.intro (okII _ _) ?_; rw [eqD_ii]; with_reducible conv => whnf) | (refine And.intro (by first | assumption | exact Exists.intro _ (by assumption) | exact ⟨rfl, rfl, by decide, by decide⟩ | exact Nat.le_of_ble_eq_true rfl | exact rfl) ?_; with_reducible conv => whnf) | (rw [isLst_at (by assumption)]; with_reducible conv => whnf) | (refine ifT rfl ?_; with_reducible conv => whnf) | (refine ifF rfl ?_; with_reducible conv => whnf) | (refine it_at (by assumption) ?_; with_reducible conv => whnf)))
        exact hz
    have e4 := at_push S4 (.lst (((List.range (l.length + 1)).filter fun j => !decide (j ∈ l)).map fun (j : Nat) => D.int (j : Int)))
    have f1 := push_at (s4 _ _ f1) [.lst (((List.range (l.length + 1)).filter fun j => !decide (j ∈ l)).map fun (j : Nat) => D.int (j : Int))]
    have f2 := (f2.trans s4).app [.lst (((List.range (l.length + 1)).filter fun j => !decide (j ∈ l)).map fun (j : Nat) => D.int (j : Int))]
    ((with_reducible conv => whnf); repeat (first | (rw [natD_len]; with_reducible conv => whnf) | (rw [intD_len]; with_reducible conv => whnf) | (refine Exists.intro _ (And.intro (rfl : _ = some _) ?_); with_reducible conv => whnf) | (refine And.intro (okII _ _) ?_; rw [eqD_ii]; with_reducible conv => whnf) | (refine And.intro (by first | assumption | exact Exists.intro _ (by assumption) | exact ⟨rfl, rfl, by decide, by decide⟩ | exact Nat.le_of_ble_eq_true rfl | exact rfl) ?_; with_reducible conv => whnf) | (rw [isLst_at (by assumption)]; with_reducible conv => whnf) | (refine ifT rfl ?_; with_reducible conv => whnf) | (refine ifF rfl ?_; with_reducible conv => whnf) | (refine it_at (by assumption) ?_; with_reducible conv => whnf)))
    refine ⟨_, mex_head l, ?_⟩
    ((with_reducible conv => whnf); repeat (first | (rw [natD_len]; with_reducible conv => whnf) | (rw [intD_len]; with_reducible conv => whnf) | (refine Exists.intro _ (And.intro (rfl : _ = some _) ?_); with_reducible conv => whnf) | (refine And.intro (okII _ _) ?_; rw [eqD_ii]; with_reducible conv => whnf) | (refine And.intro (by first | assumption | exact Exists.intro _ (by assumption) | exact ⟨rfl, rfl, by decide, by decide⟩ | exact Nat.le_of_ble_eq_true rfl | exact rfl) ?_; with_reducible conv => whnf) | (rw [isLst_at (by assumption)]; with_reducible conv => whnf) | (refine ifT rfl ?_; with_reducible conv => whnf) | (refine ifF rfl ?_; with_reducible conv => whnf) | (refine it_at (by assumption) ?_; with_reducible conv => whnf)))
    refine ⟨by rw [hrl]; unfold szL; omega, ?_⟩
    refine ⟨_, _, rfl, ?_, f2.put (Nat.le_refl _)⟩
    rw [at_set f1, hrs, ← natD_app]
    rfl
  · rintro ρ' S' ⟨o3, o4, rfl, f1, f2⟩
    rw [rangeD_len, show ((m : Int) - 0).toNat = m by omega] at f1
    ((with_reducible conv => whnf); repeat (first | (rw [natD_len]; with_reducible conv => whnf) | (rw [intD_len]; with_reducible conv => whnf) | (refine Exists.intro _ (And.intro (rfl : _ = some _) ?_); with_reducible conv => whnf) | (refine And.intro (okII _ _) ?_; rw [eqD_ii]; with_reducible conv => whnf) | (refine And.intro (by first | assumption | exact Exists.intro _ (by assumption) | exact ⟨rfl, rfl, by decide, by decide⟩ | exact Nat.le_of_ble_eq_true rfl | exact rfl) ?_; with_reducible conv => whnf) | (rw [isLst_at (by assumption)]; with_reducible conv => whnf) | (refine ifT rfl ?_; with_reducible conv => whnf) | (refine ifF rfl ?_; with_reducible conv => whnf) | (refine it_at (by assumption) ?_; with_reducible conv => whnf)))
    exact k _ _ (Nat.le_refl _) f1 f2
theorem eqDs_nat : ∀ a b : List Nat, eqDs (natD a) (natD b) = decide (a = b)
  | [], [] => rfl
  | [], _ :: _ => rfl
  | _ :: _, [] => rfl
  | x :: a, y :: b => by
    show (decide ((x : Int) = y) && eqDs (natD a) (natD b)) = _
    rw [eqDs_nat a b, ← Bool.decide_and, decide_eq_decide, List.cons.injEq]
    constructor
    · rintro ⟨h1, h2⟩; exact ⟨by omega, h2⟩
    · rintro ⟨h1, h2⟩; exact ⟨by omega, h2⟩
theorem rep_eq {row : List Nat} {b l : Nat} (h : b + l ≤ row.length) : decide ((row.drop b).take (row.length - l - b) = row.drop (b + l)) = rep row b l := by
  have e : ∀ t, t < row.length - l - b → (((row.drop b).take (row.length - l - b))[t]? = some (row.getD (b + t) 0)) ∧ (row.drop (b + l))[t]? = some (row.getD (b + t + l) 0) := by
    intro t ht
    constructor
    · rw [List.getElem?_take, if_pos ht, List.getElem?_drop, List.getD_eq_getElem?_getD, List.getElem?_eq_getElem (by omega)]
      rfl
    · rw [List.getElem?_drop, show b + l + t = b + t + l by omega, List.getD_eq_getElem?_getD, List.getElem?_eq_getElem (by omega)]
      rfl
  unfold rep
  rw [Bool.eq_iff_iff, decide_eq_true_eq, List.all_eq_true]
  constructor
  · intro h1 t ht
    have ht := List.mem_range.mp ht
    obtain ⟨a1, a2⟩ := e t ht
    rw [h1, a2] at a1
    exact decide_eq_true (Option.some.inj a1).symm
  · intro h1
    apply List.ext_getElem?
    intro t
    by_cases ht : t < row.length - l - b
    · obtain ⟨a1, a2⟩ := e t ht
      rw [a1, a2, of_decide_eq_true (h1 t (List.mem_range.mpr ht))]
    · rw [List.getElem?_eq_none (by simp; omega), List.getElem?_eq_none (by simp; omega)]
theorem cut_mid {α : Type} (xs : List α) {b e : Nat} (hb : b ≤ xs.length) (he : e ≤ xs.length) : cut xs (some (b : Int)) (some (e : Int)) = (xs.drop b).take (e - b) := by
  unfold cut
  rw [sIx_nn _ _ (by omega), sIx_nn _ _ (by omega), Int.toNat_natCast, Int.toNat_natCast, Nat.min_eq_left hb, Nat.min_eq_left he]
theorem natD_take (a : List Nat) (i : Nat) : (natD a).take i = natD (a.take i) := by simp [natD, intD]
theorem natD_drop (a : List Nat) (i : Nat) : (natD a).drop i = natD (a.drop i) := by simp [natD, intD]
theorem body_law_again : Body 5 2 (w_law_again sp_row) sp_again := by
  rintro ds S Q _ ⟨steps, most, rfl, hm, hst, k⟩
  unfold w_law_again
  (simp only [start, List.map_cons, List.map_nil, List.length_cons, List.length_nil, Nat.reduceAdd, Nat.reduceSub, List.replicate_succ, List.replicate_zero, List.cons_append, List.nil_append, Nat.sub_self, Nat.zero_add])
  ((with_reducible conv => whnf); repeat (first | (rw [natD_len]; with_reducible conv => whnf) | (rw [intD_len]; with_reducible conv => whnf) | (refine Exists.intro _ (And.intro (rfl : _ = some _) ?_); with_reducible conv => whnf) | (refine And.intro (okII _ _) ?_; rw [eqD_ii]; with_reducible conv => whnf) | (refine And.intro (by first | assumption | exact Exists.intro _ (by assumption) | exact ⟨rfl, rfl, by decide, by decide⟩ | exact Nat.le_of_ble_eq_true rfl | exact rfl) ?_; with_reducible conv => whnf) | (rw [isLst_at (by assumption)]; with_reducible conv => whnf) | (refine ifT rfl ?_; with_reducible conv => whnf) | (refine ifF rfl ?_; with_reducible conv => whnf) | (refine it_at (by assumption) ?_; with_reducible conv => whnf)))
  refine ⟨smallMul' (by decide), ?_⟩
  ((with_reducible conv => whnf); repeat (first | (rw [natD_len]; with_reducible conv => whnf) | (rw [intD_len]; with_reducible conv => whnf) | (refine Exists.intro _ (And.intro (rfl : _ = some _) ?_); with_reducible conv => whnf) | (refine And.intro (okII _ _) ?_; rw [eqD_ii]; with_reducible conv => whnf) | (refine And.intro (by first | assumption | exact Exists.intro _ (by assumption) | exact ⟨rfl, rfl, by decide, by decide⟩ | exact Nat.le_of_ble_eq_true rfl | exact rfl) ?_; with_reducible conv => whnf) | (rw [isLst_at (by assumption)]; with_reducible conv => whnf) | (refine ifT rfl ?_; with_reducible conv => whnf) | (refine ifF rfl ?_; with_reducible conv => whnf) | (refine it_at (by assumption) ?_; with_reducible conv => whnf)))
  refine ⟨steps, 4 * most + 1, by rw [show (4 : Int) * most + 1 = ((4 * most + 1 : Nat) : Int) by omega], by omega, hst, fun p S1 hp f1 ss => ?_⟩
  have hrl := rowN_len steps (4 * most + 1)
  generalize rowN steps (4 * most + 1) = row at *
  ((with_reducible conv => whnf); repeat (first | (rw [natD_len]; with_reducible conv => whnf) | (rw [intD_len]; with_reducible conv => whnf) | (refine Exists.intro _ (And.intro (rfl : _ = some _) ?_); with_reducible conv => whnf) | (refine And.intro (okII _ _) ?_; rw [eqD_ii]; with_reducible conv => whnf) | (refine And.intro (by first | assumption | exact Exists.intro _ (by assumption) | exact ⟨rfl, rfl, by decide, by decide⟩ | exact Nat.le_of_ble_eq_true rfl | exact rfl) ?_; with_reducible conv => whnf) | (rw [isLst_at (by assumption)]; with_reducible conv => whnf) | (refine ifT rfl ?_; with_reducible conv => whnf) | (refine ifF rfl ?_; with_reducible conv => whnf) | (refine it_at (by assumption) ?_; with_reducible conv => whnf)))
  refine ⟨⟨by omega, by omega⟩, ?_⟩
  refine Loop_mk (fun i ρ S' => ∃ o3 o4, ρ = [some (.tup (natD steps)), some (.int most), some (.ref p), o3, o4] ∧ fo (rep row) most (most - i) i = first (rep row) most ∧ S'[p]? = some (.lst (natD row)) ∧ Sub S S') ⟨none, none, rfl, rfl, f1, ss⟩ (by intros; trivial) ?_ ?_
  · rintro i d ρ' S' hi ⟨o3, o4, rfl, hf, f1, hs⟩
    obtain ⟨hi1, rfl⟩ := rangeD_get hi
    have him : i < most := by omega
    rw [show (0 : Int) + i = i by omega]
    ((with_reducible conv => whnf); repeat (first | (rw [natD_len]; with_reducible conv => whnf) | (rw [intD_len]; with_reducible conv => whnf) | (refine Exists.intro _ (And.intro (rfl : _ = some _) ?_); with_reducible conv => whnf) | (refine And.intro (okII _ _) ?_; rw [eqD_ii]; with_reducible conv => whnf) | (refine And.intro (by first | assumption | exact Exists.intro _ (by assumption) | exact ⟨rfl, rfl, by decide, by decide⟩ | exact Nat.le_of_ble_eq_true rfl | exact rfl) ?_; with_reducible conv => whnf) | (rw [isLst_at (by assumption)]; with_reducible conv => whnf) | (refine ifT rfl ?_; with_reducible conv => whnf) | (refine ifF rfl ?_; with_reducible conv => whnf) | (refine it_at (by assumption) ?_; with_reducible conv => whnf)))
    refine ⟨⟨by decide, by decide⟩, ⟨by omega, by omega⟩, ?_⟩
    refine Loop_mk (fun j ρ S' => ∃ o4, ρ = [some (.tup (natD steps)), some (.int most), some (.ref p), some (.int i), o4] ∧ fi (rep row) i (most - i - j) (1 + j) = fi (rep row) i (most - i) 1 ∧ S'[p]? = some (.lst (natD row)) ∧ Sub S S') ⟨o4, rfl, rfl, f1, hs⟩ (by intros; trivial) ?_ ?_
    · rintro j d ρ' S3 hj ⟨o4, rfl, hfi, f1, hs⟩
      obtain ⟨hj1, rfl⟩ := rangeD_get hj
      have hjm : j < most - i := by omega
      rw [show (1 : Int) + j = ((1 + j : Nat) : Int) by omega]
      ((with_reducible conv => whnf); repeat (first | (rw [natD_len]; with_reducible conv => whnf) | (rw [intD_len]; with_reducible conv => whnf) | (refine Exists.intro _ (And.intro (rfl : _ = some _) ?_); with_reducible conv => whnf) | (refine And.intro (okII _ _) ?_; rw [eqD_ii]; with_reducible conv => whnf) | (refine And.intro (by first | assumption | exact Exists.intro _ (by assumption) | exact ⟨rfl, rfl, by decide, by decide⟩ | exact Nat.le_of_ble_eq_true rfl | exact rfl) ?_; with_reducible conv => whnf) | (rw [isLst_at (by assumption)]; with_reducible conv => whnf) | (refine ifT rfl ?_; with_reducible conv => whnf) | (refine ifF rfl ?_; with_reducible conv => whnf) | (refine it_at (by assumption) ?_; with_reducible conv => whnf)))
      rw [show (row.length : Int) - ((1 + j : Nat) : Int) = ((row.length - (1 + j) : Nat) : Int) by omega, show (i : Int) + ((1 + j : Nat) : Int) = ((i + (1 + j) : Nat) : Int) by omega, cut_mid _ (by rw [natD_len]; omega) (by rw [natD_len]; omega), natD_drop, natD_take]
      have e3 := at_push S3 (.lst (natD ((row.drop i).take (row.length - (1 + j) - i))))
      have f1 := push_at f1 [.lst (natD ((row.drop i).take (row.length - (1 + j) - i)))]
      have hs := hs.app [.lst (natD ((row.drop i).take (row.length - (1 + j) - i)))]
      generalize S3 ++ [.lst (natD ((row.drop i).take (row.length - (1 + j) - i)))] = S4 at *
      ((with_reducible conv => whnf); repeat (first | (rw [natD_len]; with_reducible conv => whnf) | (rw [intD_len]; with_reducible conv => whnf) | (refine Exists.intro _ (And.intro (rfl : _ = some _) ?_); with_reducible conv => whnf) | (refine And.intro (okII _ _) ?_; rw [eqD_ii]; with_reducible conv => whnf) | (refine And.intro (by first | assumption | exact Exists.intro _ (by assumption) | exact ⟨rfl, rfl, by decide, by decide⟩ | exact Nat.le_of_ble_eq_true rfl | exact rfl) ?_; with_reducible conv => whnf) | (rw [isLst_at (by assumption)]; with_reducible conv => whnf) | (refine ifT rfl ?_; with_reducible conv => whnf) | (refine ifF rfl ?_; with_reducible conv => whnf) | (refine it_at (by assumption) ?_; with_reducible conv => whnf)))
      rw [cut_drop _ (by omega), Int.toNat_natCast, natD_drop]
      have e4 := at_push S4 (.lst (natD (row.drop (i + (1 + j)))))
      have e3 := push_at e3 [.lst (natD (row.drop (i + (1 + j))))]
      have f1 := push_at f1 [.lst (natD (row.drop (i + (1 + j))))]
      have hs := hs.app [.lst (natD (row.drop (i + (1 + j))))]
      generalize S4 ++ [.lst (natD (row.drop (i + (1 + j))))] = S5 at *
      ((with_reducible conv => whnf); repeat (first | (refine And.intro (okII _ _) ?_; rw [eqD_ii]; with_reducible conv => whnf) | (refine And.intro (by first | assumption | exact Exists.intro _ (by assumption) | exact ⟨rfl, rfl, by decide, by decide⟩ | exact Nat.le_of_ble_eq_true rfl | exact rfl) ?_; with_reducible conv => whnf) | (rw [isLst_at (by assumption)]; with_reducible conv => whnf) | (refine ifT rfl ?_; with_reducible conv => whnf) | (refine ifF rfl ?_; with_reducible conv => whnf) | (refine it_at (by assumption) ?_; with_reducible conv => whnf)))
      refine ⟨⟨flats_int _, flats_int _, by rw [deeps_int]; omega, by rw [deeps_int]; omega⟩, ?_⟩
      rw [eqDs_nat, rep_eq (by omega)]
      obtain ⟨q, hq⟩ : ∃ q, most - i - j = q + 1 := ⟨most - i - j - 1, by omega⟩
      rw [hq] at hfi
      cases e : rep row i (1 + j) with
      | true =>
        have h1 : fi (rep row) i (most - i) 1 = some (1 + j) := by
          rw [← hfi]
          unfold fi
          rw [if_pos e]
        have h2 : first (rep row) most = some (i, 1 + j) := by
          rw [← hf]
          obtain ⟨p, hp⟩ : ∃ p, most - i = p + 1 := ⟨most - i - 1, by omega⟩
          rw [hp]
          unfold fo
          rw [h1]
        ((with_reducible conv => whnf); repeat (first | (rw [natD_len]; with_reducible conv => whnf) | (rw [intD_len]; with_reducible conv => whnf) | (refine Exists.intro _ (And.intro (rfl : _ = some _) ?_); with_reducible conv => whnf) | (refine And.intro (okII _ _) ?_; rw [eqD_ii]; with_reducible conv => whnf) | (refine And.intro (by first | assumption | exact Exists.intro _ (by assumption) | exact ⟨rfl, rfl, by decide, by decide⟩ | exact Nat.le_of_ble_eq_true rfl | exact rfl) ?_; with_reducible conv => whnf) | (rw [isLst_at (by assumption)]; with_reducible conv => whnf) | (refine ifT rfl ?_; with_reducible conv => whnf) | (refine ifF rfl ?_; with_reducible conv => whnf) | (refine it_at (by assumption) ?_; with_reducible conv => whnf)))
        have := k _ hs
        rw [h2] at this
        exact this
      | false =>
        ((with_reducible conv => whnf); repeat (first | (rw [natD_len]; with_reducible conv => whnf) | (rw [intD_len]; with_reducible conv => whnf) | (refine Exists.intro _ (And.intro (rfl : _ = some _) ?_); with_reducible conv => whnf) | (refine And.intro (okII _ _) ?_; rw [eqD_ii]; with_reducible conv => whnf) | (refine And.intro (by first | assumption | exact Exists.intro _ (by assumption) | exact ⟨rfl, rfl, by decide, by decide⟩ | exact Nat.le_of_ble_eq_true rfl | exact rfl) ?_; with_reducible conv => whnf) | (rw [isLst_at (by assumption)]; with_reducible conv => whnf) | (refine ifT rfl ?_; with_reducible conv => whnf) | (refine ifF rfl ?_; with_reducible conv => whnf) | (refine it_at (by assumption) ?_; with_reducible conv => whnf)))
        refine ⟨_, rfl, ?_, f1, hs⟩
        rw [← hfi, show most - i - (j + 1) = q by omega]
        conv => rhs; unfold fi
        rw [if_neg (by rw [e]; decide)]
        rfl
    · rintro ρ' S3 ⟨o4, rfl, hfi, f1, hs⟩
      rw [rangeD_len, show ((most : Int) - i + 1 - 1).toNat = most - i by omega, Nat.sub_self] at hfi
      refine ⟨_, _, rfl, ?_, f1, hs⟩
      rw [← hf]
      obtain ⟨p, hp⟩ : ∃ p, most - i = p + 1 := ⟨most - i - 1, by omega⟩
      rw [hp, show most - (i + 1) = p by omega]
      conv => rhs; unfold fo
      rw [← hfi]
      rfl
  · rintro ρ' S' ⟨o3, o4, rfl, hf, f1, hs⟩
    rw [rangeD_len, show ((most : Int) - 0).toNat = most by omega, Nat.sub_self] at hf
    have := k _ hs
    rw [← hf] at this
    exact this
end K79
set_option linter.all false
set_option maxRecDepth 100000
set_option maxHeartbeats 4000000
namespace K79
open DL
@[reducible] def sp_small : Spc := fun ds S Q => ∃ n, ds = [.ref n] ∧ Dr n S ∧ ∀ S', Dr n S' → Ch n S S' → Q (.bl true) S'
theorem pick3 {a b c : Int} {r : Int} (h0 : 0 ≤ r) (h1 : r < 3) : ∃ x, atZ [D.int a, .int b, .int c] r = some (.int x) ∧ (x = a ∨ x = b ∨ x = c) := by
  have : r = 0 ∨ r = 1 ∨ r = 2 := by omega
  rcases this with rfl | rfl | rfl
  · exact ⟨a, rfl, by simp⟩
  · exact ⟨b, rfl, by simp⟩
  · exact ⟨c, rfl, by simp⟩
theorem same_opt (x : Option (Nat × Nat)) : flat (optP x) = true ∧ slim (optP x) = true ∧ deep (optP x) ≤ 3 := by
  cases x with
  | none => exact ⟨rfl, rfl, Nat.zero_le _⟩
  | some p => exact ⟨rfl, rfl, by show max 0 (max 0 0) + 1 ≤ 3; decide⟩
/-- what is due behind k heaps and j turns of the next one -/
def dueN (s : Nat) (h : List Nat) (k j : Nat) : Option (Nat × Nat) := match hmP s h k with
  | some p => some p
  | none => if (s ^^^ h.getD k 0) < j then some (k, s ^^^ h.getD k 0) else none
theorem dueN_0 (s : Nat) (h : List Nat) (k : Nat) : dueN s h k 0 = hmP s h k := by
  unfold dueN
  cases hmP s h k with
  | none => rw [if_neg (by omega)]
  | some p => rfl
theorem dueN_all (s : Nat) (h : List Nat) (k : Nat) : dueN s h k (h.getD k 0) = hmP s h (k + 1) := rfl
theorem won_mv {h : List Nat} {k j : Nat} (hk : k < h.length) : F true (mv h k j) = false ↔ xr h ^^^ h.getD k 0 = j := by
  unfold F
  rw [if_pos rfl, decide_eq_false_iff_not, xr_mv hk, Nat.xor_comm (xr h)]
  constructor
  · intro q
    false_or_by_contra
    rename_i hc
    exact q fun z => hc (xor_eq_zero z).symm
  · rintro rfl z
    exact z (Nat.xor_self _)
theorem optP_non (x : Option (Nat × Nat)) : isNon (optP x) = !x.isSome := by cases x <;> rfl
theorem body_law_small : Body 6 1 (w_law_small sp_take (sp_won 24) sp_move (sp_same 3) sp_loses) sp_small := by
  rintro ds S Q _ ⟨n, rfl, hd, k⟩
  unfold w_law_small
  (simp only [start, List.map_cons, List.map_nil, List.length_cons, List.length_nil, Nat.reduceAdd, Nat.reduceSub, List.replicate_succ, List.replicate_zero, List.cons_append, List.nil_append, Nat.sub_self, Nat.zero_add])
  ((with_reducible conv => whnf); repeat (first | (rw [natD_len]; with_reducible conv => whnf) | (rw [intD_len]; with_reducible conv => whnf) | (refine Exists.intro _ (And.intro (rfl : _ = some _) ?_); with_reducible conv => whnf) | (refine And.intro (okII _ _) ?_; rw [eqD_ii]; with_reducible conv => whnf) | (refine And.intro (by first | assumption | exact Exists.intro _ (by assumption) | exact ⟨rfl, rfl, by decide, by decide⟩ | exact Nat.le_of_ble_eq_true rfl | exact rfl) ?_; with_reducible conv => whnf) | (rw [isLst_at (by assumption)]; with_reducible conv => whnf) | (refine ifT rfl ?_; with_reducible conv => whnf) | (refine ifF rfl ?_; with_reducible conv => whnf) | (refine it_at (by assumption) ?_; with_reducible conv => whnf)))
  refine ⟨n, 5, rfl, by decide, hd, fun z S1 z0 z1 d1 c1 => ?_⟩
  obtain ⟨L, rfl⟩ : ∃ m : Nat, z = m := ⟨z.toNat, by omega⟩
  ((with_reducible conv => whnf); repeat (first | (rw [natD_len]; with_reducible conv => whnf) | (rw [intD_len]; with_reducible conv => whnf) | (refine Exists.intro _ (And.intro (rfl : _ = some _) ?_); with_reducible conv => whnf) | (refine And.intro (okII _ _) ?_; rw [eqD_ii]; with_reducible conv => whnf) | (refine And.intro (by first | assumption | exact Exists.intro _ (by assumption) | exact ⟨rfl, rfl, by decide, by decide⟩ | exact Nat.le_of_ble_eq_true rfl | exact rfl) ?_; with_reducible conv => whnf) | (rw [isLst_at (by assumption)]; with_reducible conv => whnf) | (refine ifT rfl ?_; with_reducible conv => whnf) | (refine ifF rfl ?_; with_reducible conv => whnf) | (refine it_at (by assumption) ?_; with_reducible conv => whnf)))
  refine ⟨⟨by omega, by omega⟩, ?_⟩
  refine ⟨by rw [rangeD_len]; unfold szL; omega, fun i acc S' => ∃ hs : List Nat, acc = natD hs ∧ hs.length = i ∧ (∀ x ∈ hs, x < 7) ∧ Dr n S' ∧ Ch n S S', ⟨[], rfl, rfl, by simp, d1, c1⟩, by intros; trivial, ?_, ?_⟩
  · rintro i d acc S' hi ⟨hs, rfl, h1, h2, h3, h4⟩
    obtain ⟨hi1, rfl⟩ := rangeD_get hi
    ((with_reducible conv => whnf); repeat (first | (rw [natD_len]; with_reducible conv => whnf) | (rw [intD_len]; with_reducible conv => whnf) | (refine Exists.intro _ (And.intro (rfl : _ = some _) ?_); with_reducible conv => whnf) | (refine And.intro (okII _ _) ?_; rw [eqD_ii]; with_reducible conv => whnf) | (refine And.intro (by first | assumption | exact Exists.intro _ (by assumption) | exact ⟨rfl, rfl, by decide, by decide⟩ | exact Nat.le_of_ble_eq_true rfl | exact rfl) ?_; with_reducible conv => whnf) | (rw [isLst_at (by assumption)]; with_reducible conv => whnf) | (refine ifT rfl ?_; with_reducible conv => whnf) | (refine ifF rfl ?_; with_reducible conv => whnf) | (refine it_at (by assumption) ?_; with_reducible conv => whnf)))
    have e1 := at_push S' (.lst [.int 7, .int 4, .int 2])
    have d2 := h3.app [.lst [.int 7, .int 4, .int 2]]
    have c2 := h4.app [.lst [.int 7, .int 4, .int 2]]
    have hne : S'.length ≠ n := by have := h3.lt; omega
    generalize S' ++ [.lst [.int 7, .int 4, .int 2]] = S2 at *
    refine ⟨n, 3, rfl, by decide, d2, fun r S3 r0 r1 d3 c3 => ?_⟩
    have e1 := c3 _ _ hne e1
    ((with_reducible conv => whnf); repeat (first | (rw [natD_len]; with_reducible conv => whnf) | (rw [intD_len]; with_reducible conv => whnf) | (refine Exists.intro _ (And.intro (rfl : _ = some _) ?_); with_reducible conv => whnf) | (refine And.intro (okII _ _) ?_; rw [eqD_ii]; with_reducible conv => whnf) | (refine And.intro (by first | assumption | exact Exists.intro _ (by assumption) | exact ⟨rfl, rfl, by decide, by decide⟩ | exact Nat.le_of_ble_eq_true rfl | exact rfl) ?_; with_reducible conv => whnf) | (rw [isLst_at (by assumption)]; with_reducible conv => whnf) | (refine ifT rfl ?_; with_reducible conv => whnf) | (refine ifF rfl ?_; with_reducible conv => whnf) | (refine it_at (by assumption) ?_; with_reducible conv => whnf)))
    obtain ⟨x, hx, hx2⟩ := pick3 (a := 7) (b := 4) (c := 2) r0 r1
    refine ⟨_, hx, ?_⟩
    ((with_reducible conv => whnf); repeat (first | (rw [natD_len]; with_reducible conv => whnf) | (rw [intD_len]; with_reducible conv => whnf) | (refine Exists.intro _ (And.intro (rfl : _ = some _) ?_); with_reducible conv => whnf) | (refine And.intro (okII _ _) ?_; rw [eqD_ii]; with_reducible conv => whnf) | (refine And.intro (by first | assumption | exact Exists.intro _ (by assumption) | exact ⟨rfl, rfl, by decide, by decide⟩ | exact Nat.le_of_ble_eq_true rfl | exact rfl) ?_; with_reducible conv => whnf) | (rw [isLst_at (by assumption)]; with_reducible conv => whnf) | (refine ifT rfl ?_; with_reducible conv => whnf) | (refine ifF rfl ?_; with_reducible conv => whnf) | (refine it_at (by assumption) ?_; with_reducible conv => whnf)))
    refine ⟨n, x, rfl, by omega, d3, fun y S4 y0 y1 d4 c4 => ?_⟩
    obtain ⟨y, rfl⟩ : ∃ m : Nat, y = m := ⟨y.toNat, by omega⟩
    refine ⟨hs ++ [y], ?_, by rw [List.length_append, h1]; rfl, fun x m => ?_, d4, (c2.trans c3).trans c4⟩
    · rw [← natD_app]
      rfl
    · rcases List.mem_append.mp m with m | m
      · exact h2 x m
      · rw [List.mem_singleton.mp m]; omega
  rintro acc S2 ⟨h, rfl, hl, hx, d2, c2⟩
  rw [rangeD_len, show ((L : Int) - 0).toNat = L by omega] at hl
  have hl4 : h.length ≤ 4 := by omega
  have hget : ∀ {i}, i < h.length → h.getD i 0 < 7 := fun {i} hi => hx _ (by rw [List.getD_eq_getElem?_getD, List.getElem?_eq_getElem hi]; exact List.getElem_mem _)
  have hsum : ∀ l : List Nat, (∀ x ∈ l, x < 7) → l.sum ≤ 6 * l.length := by
    intro l
    induction l with
    | nil => intro _; exact Nat.le_refl _
    | cons a l ih =>
      intro hq
      have := hq a List.mem_cons_self
      have := ih fun x m => hq x (List.mem_cons_of_mem _ m)
      rw [List.sum_cons, List.length_cons]
      omega
  have e2 := at_push S2 (.lst (natD h))
  have d3 := d2.app [.lst (natD h)]
  have c3 := c2.app [.lst (natD h)]
  ((with_reducible conv => whnf); repeat (first | (rw [natD_len]; with_reducible conv => whnf) | (rw [intD_len]; with_reducible conv => whnf) | (refine Exists.intro _ (And.intro (rfl : _ = some _) ?_); with_reducible conv => whnf) | (refine And.intro (okII _ _) ?_; rw [eqD_ii]; with_reducible conv => whnf) | (refine And.intro (by first | assumption | exact Exists.intro _ (by assumption) | exact ⟨rfl, rfl, by decide, by decide⟩ | exact Nat.le_of_ble_eq_true rfl | exact rfl) ?_; with_reducible conv => whnf) | (rw [isLst_at (by assumption)]; with_reducible conv => whnf) | (refine ifT rfl ?_; with_reducible conv => whnf) | (refine ifF rfl ?_; with_reducible conv => whnf) | (refine it_at (by assumption) ?_; with_reducible conv => whnf)))
  generalize S2 ++ [.lst (natD h)] = S3 at *
  have e4 := at_push S3 (.dT [])
  have d4 := d3.app [.dT []]
  have c4 := c3.app [.dT []]
  have hmn : S3.length ≠ n := by have := d3.lt; omega
  have hcl := c3.len d3.lt
  ((with_reducible conv => whnf); repeat (first | (rw [natD_len]; with_reducible conv => whnf) | (rw [intD_len]; with_reducible conv => whnf) | (refine Exists.intro _ (And.intro (rfl : _ = some _) ?_); with_reducible conv => whnf) | (refine And.intro (okII _ _) ?_; rw [eqD_ii]; with_reducible conv => whnf) | (refine And.intro (by first | assumption | exact Exists.intro _ (by assumption) | exact ⟨rfl, rfl, by decide, by decide⟩ | exact Nat.le_of_ble_eq_true rfl | exact rfl) ?_; with_reducible conv => whnf) | (rw [isLst_at (by assumption)]; with_reducible conv => whnf) | (refine ifT rfl ?_; with_reducible conv => whnf) | (refine ifF rfl ?_; with_reducible conv => whnf) | (refine it_at (by assumption) ?_; with_reducible conv => whnf)))
  generalize S3 ++ [.dT []] = S4 at *
  generalize S3.length = m at *
  clear d1 c1 d2 c2 d3 c3 e2
  refine ⟨⟨by omega, by omega⟩, ?_⟩
  refine Loop_mk (fun i ρ S' => ∃ o2 o5 kvs, ρ = [some (.ref n), some (.tup (natD h)), o2, some (.ref m), some (optP (hmP (xr h) h i)), o5] ∧ S'[m]? = some (.dT kvs) ∧ Kn h.length true kvs ∧ Dr n S' ∧ Ch n S S') ⟨none, none, [], rfl, e4, Kn.nil _ _, d4, c4⟩ (by intros; trivial) ?_ ?_
  · rintro i d ρ' S' hi ⟨o2, o5, kvs, rfl, f1, f2, f3, f4⟩
    obtain ⟨hi1, rfl⟩ := rangeD_get hi
    have hih : i < h.length := by omega
    rw [show (0 : Int) + i = i by omega]
    have h7 := hget hih
    ((with_reducible conv => whnf); repeat (first | (rw [natD_len]; with_reducible conv => whnf) | (rw [intD_len]; with_reducible conv => whnf) | (refine Exists.intro _ (And.intro (rfl : _ = some _) ?_); with_reducible conv => whnf) | (refine And.intro (okII _ _) ?_; rw [eqD_ii]; with_reducible conv => whnf) | (refine And.intro (by first | assumption | exact Exists.intro _ (by assumption) | exact ⟨rfl, rfl, by decide, by decide⟩ | exact Nat.le_of_ble_eq_true rfl | exact rfl) ?_; with_reducible conv => whnf) | (rw [isLst_at (by assumption)]; with_reducible conv => whnf) | (refine ifT rfl ?_; with_reducible conv => whnf) | (refine ifF rfl ?_; with_reducible conv => whnf) | (refine it_at (by assumption) ?_; with_reducible conv => whnf)))
    refine ⟨_, atZ_natD hih, ?_⟩
    ((with_reducible conv => whnf); repeat (first | (rw [natD_len]; with_reducible conv => whnf) | (rw [intD_len]; with_reducible conv => whnf) | (refine Exists.intro _ (And.intro (rfl : _ = some _) ?_); with_reducible conv => whnf) | (refine And.intro (okII _ _) ?_; rw [eqD_ii]; with_reducible conv => whnf) | (refine And.intro (by first | assumption | exact Exists.intro _ (by assumption) | exact ⟨rfl, rfl, by decide, by decide⟩ | exact Nat.le_of_ble_eq_true rfl | exact rfl) ?_; with_reducible conv => whnf) | (rw [isLst_at (by assumption)]; with_reducible conv => whnf) | (refine ifT rfl ?_; with_reducible conv => whnf) | (refine ifF rfl ?_; with_reducible conv => whnf) | (refine it_at (by assumption) ?_; with_reducible conv => whnf)))
    refine ⟨⟨by omega, by omega⟩, ?_⟩
    refine Loop_mk (fun j ρ S' => ∃ o5 kvs, ρ = [some (.ref n), some (.tup (natD h)), some (.int i), some (.ref m), some (optP (dueN (xr h) h i j)), o5] ∧ S'[m]? = some (.dT kvs) ∧ Kn h.length true kvs ∧ Dr n S' ∧ Ch n S S') ⟨o5, kvs, by rw [dueN_0], f1, f2, f3, f4⟩ (by intros; trivial) ?_ ?_
    · rintro j d ρ' S2 hj ⟨o5, kvs, rfl, f1, f2, f3, f4⟩
      obtain ⟨hj1, rfl⟩ := rangeD_get hj
      have hjh : j < h.getD i 0 := by omega
      rw [show (0 : Int) + j = j by omega]
      cases ed : dueN (xr h) h i j with
      | some p =>
        have e1 : dueN (xr h) h i (j + 1) = some p := by
          unfold dueN at ed ⊢
          cases eh : hmP (xr h) h i with
          | some q => rw [eh] at ed; exact ed
          | none =>
            rw [eh] at ed
            simp only at ed ⊢
            by_cases c : (xr h ^^^ h.getD i 0) < j
            · rw [if_pos c] at ed
              rw [if_pos (by omega)]
              exact ed
            · rw [if_neg c] at ed; cases ed
        ((with_reducible conv => whnf); repeat (first | (rw [natD_len]; with_reducible conv => whnf) | (rw [intD_len]; with_reducible conv => whnf) | (refine Exists.intro _ (And.intro (rfl : _ = some _) ?_); with_reducible conv => whnf) | (refine And.intro (okII _ _) ?_; rw [eqD_ii]; with_reducible conv => whnf) | (refine And.intro (by first | assumption | exact Exists.intro _ (by assumption) | exact ⟨rfl, rfl, by decide, by decide⟩ | exact Nat.le_of_ble_eq_true rfl | exact rfl) ?_; with_reducible conv => whnf) | (rw [isLst_at (by assumption)]; with_reducible conv => whnf) | (refine ifT rfl ?_; with_reducible conv => whnf) | (refine ifF rfl ?_; with_reducible conv => whnf) | (refine it_at (by assumption) ?_; with_reducible conv => whnf)))
        exact ⟨_, kvs, by rw [e1], f1, f2, f3, f4⟩
      | none =>
        have eh : hmP (xr h) h i = none := by
          unfold dueN at ed
          cases eh : hmP (xr h) h i with
          | some q => rw [eh] at ed; cases ed
          | none => rfl
        have ec : ¬ (xr h ^^^ h.getD i 0) < j := by
          unfold dueN at ed
          rw [eh] at ed
          simp only at ed
          intro c
          rw [if_pos c] at ed
          cases ed
        have e1 : dueN (xr h) h i (j + 1) = if (xr h ^^^ h.getD i 0) < j + 1 then some (i, xr h ^^^ h.getD i 0) else none := by
          unfold dueN
          rw [eh]
        have hsm := sum_mv hih j
        have hml := mv_len hih j
        have hss := hsum h hx
        ((with_reducible conv => whnf); repeat (first | (rw [natD_len]; with_reducible conv => whnf) | (rw [intD_len]; with_reducible conv => whnf) | (refine Exists.intro _ (And.intro (rfl : _ = some _) ?_); with_reducible conv => whnf) | (refine And.intro (okII _ _) ?_; rw [eqD_ii]; with_reducible conv => whnf) | (refine And.intro (by first | assumption | exact Exists.intro _ (by assumption) | exact ⟨rfl, rfl, by decide, by decide⟩ | exact Nat.le_of_ble_eq_true rfl | exact rfl) ?_; with_reducible conv => whnf) | (rw [isLst_at (by assumption)]; with_reducible conv => whnf) | (refine ifT rfl ?_; with_reducible conv => whnf) | (refine ifF rfl ?_; with_reducible conv => whnf) | (refine it_at (by assumption) ?_; with_reducible conv => whnf)))
        rw [cut_take _ (by omega), Int.toNat_natCast]
        refine ⟨by simp only [List.length_take, List.length_singleton]; unfold szL; omega, ?_⟩
        (with_reducible conv => whnf)
        rw [cut_drop _ (by omega), show ((i : Int) + 1).toNat = i + 1 by omega]
        refine ⟨by simp only [List.length_take, List.length_singleton, List.length_append, List.length_drop, natD_len]; unfold szL; omega, ?_⟩
        (with_reducible conv => whnf)
        rw [mv_natD]
        ((with_reducible conv => whnf); repeat (first | (rw [natD_len]; with_reducible conv => whnf) | (rw [intD_len]; with_reducible conv => whnf) | (refine Exists.intro _ (And.intro (rfl : _ = some _) ?_); with_reducible conv => whnf) | (refine And.intro (okII _ _) ?_; rw [eqD_ii]; with_reducible conv => whnf) | (refine And.intro (by first | assumption | exact Exists.intro _ (by assumption) | exact ⟨rfl, rfl, by decide, by decide⟩ | exact Nat.le_of_ble_eq_true rfl | exact rfl) ?_; with_reducible conv => whnf) | (rw [isLst_at (by assumption)]; with_reducible conv => whnf) | (refine ifT rfl ?_; with_reducible conv => whnf) | (refine ifF rfl ?_; with_reducible conv => whnf) | (refine it_at (by assumption) ?_; with_reducible conv => whnf)))
        refine ⟨mv h i j, m, true, kvs, rfl, by omega, by omega, fun x q => ?_, f1, by rw [hml]; exact f2, fun S3 kvs3 g1 g2 g3 => ?_⟩
        · unfold mv at q
          rcases List.mem_append.mp q with q | q
          · rcases List.mem_append.mp q with q | q
            · exact hx x (List.mem_of_mem_take q)
            · rw [List.mem_singleton.mp q]; omega
          · exact hx x (List.mem_of_mem_drop q)
        rw [hml] at g2
        have d5 : Dr n S3 := by
          obtain ⟨ns, e⟩ := f3
          exact ⟨ns, g3 _ _ (Ne.symm hmn) e⟩
        have c5 : Ch n S S3 := fun q o hq e => by
          by_cases cm : q = m
          · subst cm
            have := at_lt e
            omega
          · exact g3 q o cm (f4 q o hq e)
        cases eF : F true (mv h i j) with
        | true =>
          have hne : xr h ^^^ h.getD i 0 ≠ j := fun z => by rw [(won_mv hih).mpr z] at eF; cases eF
          ((with_reducible conv => whnf); repeat (first | (rw [natD_len]; with_reducible conv => whnf) | (rw [intD_len]; with_reducible conv => whnf) | (refine Exists.intro _ (And.intro (rfl : _ = some _) ?_); with_reducible conv => whnf) | (refine And.intro (okII _ _) ?_; rw [eqD_ii]; with_reducible conv => whnf) | (refine And.intro (by first | assumption | exact Exists.intro _ (by assumption) | exact ⟨rfl, rfl, by decide, by decide⟩ | exact Nat.le_of_ble_eq_true rfl | exact rfl) ?_; with_reducible conv => whnf) | (rw [isLst_at (by assumption)]; with_reducible conv => whnf) | (refine ifT rfl ?_; with_reducible conv => whnf) | (refine ifF rfl ?_; with_reducible conv => whnf) | (refine it_at (by assumption) ?_; with_reducible conv => whnf)))
          rw [if_neg (by omega)] at e1
          exact ⟨_, kvs3, by rw [e1], g1, g2, d5, c5⟩
        | false =>
          have hj : xr h ^^^ h.getD i 0 = j := (won_mv hih).mp eF
          ((with_reducible conv => whnf); repeat (first | (rw [natD_len]; with_reducible conv => whnf) | (rw [intD_len]; with_reducible conv => whnf) | (refine Exists.intro _ (And.intro (rfl : _ = some _) ?_); with_reducible conv => whnf) | (refine And.intro (okII _ _) ?_; rw [eqD_ii]; with_reducible conv => whnf) | (refine And.intro (by first | assumption | exact Exists.intro _ (by assumption) | exact ⟨rfl, rfl, by decide, by decide⟩ | exact Nat.le_of_ble_eq_true rfl | exact rfl) ?_; with_reducible conv => whnf) | (rw [isLst_at (by assumption)]; with_reducible conv => whnf) | (refine ifT rfl ?_; with_reducible conv => whnf) | (refine ifF rfl ?_; with_reducible conv => whnf) | (refine it_at (by assumption) ?_; with_reducible conv => whnf)))
          rw [if_pos (by omega), hj] at e1
          exact ⟨_, kvs3, by rw [e1], g1, g2, d5, c5⟩
    · rintro ρ' S2 ⟨o5, kvs, rfl, f1, f2, f3, f4⟩
      rw [rangeD_len, show ((h.getD i 0 : Int) - 0).toNat = h.getD i 0 by omega, dueN_all]
      exact ⟨_, _, kvs, rfl, f1, f2, f3, f4⟩
  rintro ρ' S5 ⟨o2, o5, kvs, rfl, f1, f2, f3, f4⟩
  rw [rangeD_len, show ((h.length : Int) - 0).toNat = h.length by omega]
  show (_ : Prop)
  have ehm : hmP (xr h) h h.length = hm h := rfl
  rw [ehm]
  have hss := hsum h hx
  have hiff := hm_iff h
  ((with_reducible conv => whnf); repeat (first | (rw [natD_len]; with_reducible conv => whnf) | (rw [intD_len]; with_reducible conv => whnf) | (refine Exists.intro _ (And.intro (rfl : _ = some _) ?_); with_reducible conv => whnf) | (refine And.intro (okII _ _) ?_; rw [eqD_ii]; with_reducible conv => whnf) | (refine And.intro (by first | assumption | exact Exists.intro _ (by assumption) | exact ⟨rfl, rfl, by decide, by decide⟩ | exact Nat.le_of_ble_eq_true rfl | exact rfl) ?_; with_reducible conv => whnf) | (rw [isLst_at (by assumption)]; with_reducible conv => whnf) | (refine ifT rfl ?_; with_reducible conv => whnf) | (refine ifF rfl ?_; with_reducible conv => whnf) | (refine it_at (by assumption) ?_; with_reducible conv => whnf)))
  refine ⟨h, rfl, by omega, fun S6 s6 => ?_⟩
  ((with_reducible conv => whnf); repeat (first | (rw [natD_len]; with_reducible conv => whnf) | (rw [intD_len]; with_reducible conv => whnf) | (refine Exists.intro _ (And.intro (rfl : _ = some _) ?_); with_reducible conv => whnf) | (refine And.intro (okII _ _) ?_; rw [eqD_ii]; with_reducible conv => whnf) | (refine And.intro (by first | assumption | exact Exists.intro _ (by assumption) | exact ⟨rfl, rfl, by decide, by decide⟩ | exact Nat.le_of_ble_eq_true rfl | exact rfl) ?_; with_reducible conv => whnf) | (rw [isLst_at (by assumption)]; with_reducible conv => whnf) | (refine ifT rfl ?_; with_reducible conv => whnf) | (refine ifF rfl ?_; with_reducible conv => whnf) | (refine it_at (by assumption) ?_; with_reducible conv => whnf)))
  obtain ⟨w1, w2, w3⟩ := same_opt (hm h)
  refine ⟨_, rfl, w1, w2, w3, fun S7 s7 => ?_⟩
  have f1 := s7 _ _ (s6 _ _ f1)
  have f3 := f3.sub (s6.trans s7)
  have f4 := f4.trans (s6.trans s7).ch
  have last : ∀ b : Bool, b = F true h → (wCall 3 (sp_won 24) (wCons (wVar 1) (wCons (wVar 3) (wCons (wC (.bl true)) wNil)))) [some (.ref n), some (.tup (natD h)), o2, some (.ref m), some (optP (hm h)), o5] S7 (fun y S2 => rNe (.bl b) y S2 fun x S1 => match x with
      | .bl c => if c = true then sRet (wC (.bl false)) { nx := fun x S' => Q D.non S', rt := Q, bk := fun x x_1 => False, ct := fun x x_1 => False } [some (.ref n), some (.tup (natD h)), o2, some (.ref m), some (optP (hm h)), o5] S1 else
        sRet (wOr (wOp rEq (wB rSum (wCons (wVar 1) wNil)) (wC (.int 0))) (wCall 2 (sp_same 3) (wCons (wCall 1 sp_loses (wCons (wVar 1) wNil)) (wCons (wCall 3 (sp_won 24) (wCons (wVar 1) (wCons wDNewT (wCons (wC (.bl false)) wNil)))) wNil)))) { nx := fun x S' => Q D.non S', rt := Q, bk := fun x x_1 => False, ct := fun x x_1 => False } [some (.ref n), some (.tup (natD h)), o2, some (.ref m), some (optP (hm h)), o5] S1
      | _ => False) := by
    rintro b rfl
    ((with_reducible conv => whnf); repeat (first | (rw [natD_len]; with_reducible conv => whnf) | (rw [intD_len]; with_reducible conv => whnf) | (refine Exists.intro _ (And.intro (rfl : _ = some _) ?_); with_reducible conv => whnf) | (refine And.intro (okII _ _) ?_; rw [eqD_ii]; with_reducible conv => whnf) | (refine And.intro (by first | assumption | exact Exists.intro _ (by assumption) | exact ⟨rfl, rfl, by decide, by decide⟩ | exact Nat.le_of_ble_eq_true rfl | exact rfl) ?_; with_reducible conv => whnf) | (rw [isLst_at (by assumption)]; with_reducible conv => whnf) | (refine ifT rfl ?_; with_reducible conv => whnf) | (refine ifF rfl ?_; with_reducible conv => whnf) | (refine it_at (by assumption) ?_; with_reducible conv => whnf)))
    refine ⟨h, m, true, kvs, rfl, by omega, hl4, hx, f1, f2, fun S8 kvs8 g1 g2 g3 => ?_⟩
    have d8 : Dr n S8 := by
      obtain ⟨ns, e⟩ := f3
      exact ⟨ns, g3 _ _ (Ne.symm hmn) e⟩
    have c8 : Ch n S S8 := fun q o hq e => by
      by_cases cm : q = m
      · subst cm
        have := at_lt e
        omega
      · exact g3 q o cm (f4 q o hq e)
    (with_reducible conv => whnf)
    refine ⟨⟨rfl, rfl, Nat.zero_le _, Nat.zero_le _⟩, ?_⟩
    refine ifF (by cases F true h <;> rfl) ?_
    ((with_reducible conv => whnf); repeat (first | (rw [natD_len]; with_reducible conv => whnf) | (rw [intD_len]; with_reducible conv => whnf) | (refine Exists.intro _ (And.intro (rfl : _ = some _) ?_); with_reducible conv => whnf) | (refine And.intro (okII _ _) ?_; rw [eqD_ii]; with_reducible conv => whnf) | (refine And.intro (by first | assumption | exact Exists.intro _ (by assumption) | exact ⟨rfl, rfl, by decide, by decide⟩ | exact Nat.le_of_ble_eq_true rfl | exact rfl) ?_; with_reducible conv => whnf) | (rw [isLst_at (by assumption)]; with_reducible conv => whnf) | (refine ifT rfl ?_; with_reducible conv => whnf) | (refine ifF rfl ?_; with_reducible conv => whnf) | (refine it_at (by assumption) ?_; with_reducible conv => whnf)))
    refine ite_d (fun hc => ?_) fun hc => ?_
    · exact k _ d8 c8
    · ((with_reducible conv => whnf); repeat (first | (rw [natD_len]; with_reducible conv => whnf) | (rw [intD_len]; with_reducible conv => whnf) | (refine Exists.intro _ (And.intro (rfl : _ = some _) ?_); with_reducible conv => whnf) | (refine And.intro (okII _ _) ?_; rw [eqD_ii]; with_reducible conv => whnf) | (refine And.intro (by first | assumption | exact Exists.intro _ (by assumption) | exact ⟨rfl, rfl, by decide, by decide⟩ | exact Nat.le_of_ble_eq_true rfl | exact rfl) ?_; with_reducible conv => whnf) | (rw [isLst_at (by assumption)]; with_reducible conv => whnf) | (refine ifT rfl ?_; with_reducible conv => whnf) | (refine ifF rfl ?_; with_reducible conv => whnf) | (refine it_at (by assumption) ?_; with_reducible conv => whnf)))
      refine ⟨h, rfl, by omega, fun S9 s9 => ?_⟩
      ((with_reducible conv => whnf); repeat (first | (rw [natD_len]; with_reducible conv => whnf) | (rw [intD_len]; with_reducible conv => whnf) | (refine Exists.intro _ (And.intro (rfl : _ = some _) ?_); with_reducible conv => whnf) | (refine And.intro (okII _ _) ?_; rw [eqD_ii]; with_reducible conv => whnf) | (refine And.intro (by first | assumption | exact Exists.intro _ (by assumption) | exact ⟨rfl, rfl, by decide, by decide⟩ | exact Nat.le_of_ble_eq_true rfl | exact rfl) ?_; with_reducible conv => whnf) | (rw [isLst_at (by assumption)]; with_reducible conv => whnf) | (refine ifT rfl ?_; with_reducible conv => whnf) | (refine ifF rfl ?_; with_reducible conv => whnf) | (refine it_at (by assumption) ?_; with_reducible conv => whnf)))
      have e9 := at_push S9 (.dT [])
      have d9 := (d8.sub s9).app [.dT []]
      have c9 := (c8.trans s9.ch).app [.dT []]
      have hc9 := c9.len d9.lt
      have hle9 := (c8.trans s9.ch).len (d8.sub s9).lt
      have hn9 : S9.length ≠ n := by have := (d8.sub s9).lt; omega
      generalize S9 ++ [.dT []] = S10 at *
      refine ⟨h, S9.length, false, [], rfl, by omega, hl4, hx, e9, Kn.nil _ _, fun S11 kvs11 p1 p2 p3 => ?_⟩
      have d11 : Dr n S11 := by
        obtain ⟨ns, e⟩ := d9
        exact ⟨ns, p3 _ _ (Ne.symm hn9) e⟩
      have c11 : Ch n S S11 := fun q o hq e => by
        by_cases cm : q = S9.length
        · have := at_lt e
          omega
        · exact p3 q o cm (c9 q o hq e)
      ((with_reducible conv => whnf); repeat (first | (rw [natD_len]; with_reducible conv => whnf) | (rw [intD_len]; with_reducible conv => whnf) | (refine Exists.intro _ (And.intro (rfl : _ = some _) ?_); with_reducible conv => whnf) | (refine And.intro (okII _ _) ?_; rw [eqD_ii]; with_reducible conv => whnf) | (refine And.intro (by first | assumption | exact Exists.intro _ (by assumption) | exact ⟨rfl, rfl, by decide, by decide⟩ | exact Nat.le_of_ble_eq_true rfl | exact rfl) ?_; with_reducible conv => whnf) | (rw [isLst_at (by assumption)]; with_reducible conv => whnf) | (refine ifT rfl ?_; with_reducible conv => whnf) | (refine ifF rfl ?_; with_reducible conv => whnf) | (refine it_at (by assumption) ?_; with_reducible conv => whnf)))
      exact ⟨_, rfl, rfl, rfl, Nat.zero_le _, fun S12 s12 => k _ (d11.sub s12) (c11.trans s12.ch)⟩
  cases em : hm h with
  | none =>
    rw [em] at hiff last
    exact last _ hiff
  | some p =>
    rw [em] at hiff last
    exact last _ hiff
end K79
set_option linter.all false
set_option maxRecDepth 100000
set_option maxHeartbeats 4000000
set_option exponentiation.threshold 10000
namespace K79
open DL
theorem pick5 {a b c d e : Int} {r : Int} (h0 : 0 ≤ r) (h1 : r < 5) : ∃ x, atZ [D.int a, .int b, .int c, .int d, .int e] r = some (.int x) ∧ (x = a ∨ x = b ∨ x = c ∨ x = d ∨ x = e) := by
  have : r = 0 ∨ r = 1 ∨ r = 2 ∨ r = 3 ∨ r = 4 := by omega
  rcases this with rfl | rfl | rfl | rfl | rfl
  · exact ⟨a, rfl, by simp⟩
  · exact ⟨b, rfl, by simp⟩
  · exact ⟨c, rfl, by simp⟩
  · exact ⟨d, rfl, by simp⟩
  · exact ⟨e, rfl, by simp⟩
theorem ones_max {h : List Nat} {mx : Int} (m1 : mx ∈ ([0] ++ h).map fun (k : Nat) => (k : Int)) (m2 : ∀ y ∈ ([0] ++ h).map fun (k : Nat) => (k : Int), y ≤ mx) : decide (mx < 2) = ones h := by
  unfold ones
  rw [Bool.eq_iff_iff, decide_eq_true_eq, List.all_eq_true]
  constructor
  · intro q x hx
    have := m2 (x : Int) (List.mem_map.mpr ⟨x, List.mem_append.mpr (.inr hx), rfl⟩)
    exact decide_eq_true (by omega)
  · intro q
    obtain ⟨x, hx, rfl⟩ := List.mem_map.mp m1
    rcases List.mem_append.mp hx with e | e
    · rw [List.mem_singleton.mp e]; decide
    · have := of_decide_eq_true (q x e)
      omega
@[reducible] def sp_great : Spc := fun ds S Q => ∃ (n c : Nat), ds = [.ref n, .int c] ∧ c < 2 ^ 250 ∧ Dr n S ∧ ∀ S', Dr n S' → Ch n S S' → Q (.bl true) S'
theorem body_law_great : Body 8 2 (w_law_great sp_take sp_wc sp_move (sp_same 3) sp_loses) sp_great := by
  rintro ds S Q _ ⟨n, c, rfl, hc, hd, k⟩
  unfold w_law_great
  (simp only [start, List.map_cons, List.map_nil, List.length_cons, List.length_nil, Nat.reduceAdd, Nat.reduceSub, List.replicate_succ, List.replicate_zero, List.cons_append, List.nil_append, Nat.sub_self, Nat.zero_add])
  ((with_reducible conv => whnf); repeat (first | (rw [natD_len]; with_reducible conv => whnf) | (rw [intD_len]; with_reducible conv => whnf) | (refine Exists.intro _ (And.intro (rfl : _ = some _) ?_); with_reducible conv => whnf) | (refine And.intro (okII _ _) ?_; rw [eqD_ii]; with_reducible conv => whnf) | (refine And.intro (by first | assumption | exact Exists.intro _ (by assumption) | exact ⟨rfl, rfl, by decide, by decide⟩ | exact Nat.le_of_ble_eq_true rfl | exact rfl) ?_; with_reducible conv => whnf) | (rw [isLst_at (by assumption)]; with_reducible conv => whnf) | (refine ifT rfl ?_; with_reducible conv => whnf) | (refine ifF rfl ?_; with_reducible conv => whnf) | (refine it_at (by assumption) ?_; with_reducible conv => whnf)))
  have e0 := at_push S (.lst [])
  have d0 := hd.app [.lst []]
  have c0 := (Ch.refl n S).app [.lst []]
  have hpn : S.length ≠ n := by have := hd.lt; omega
  generalize S ++ [.lst []] = S1 at *
  generalize hp : S.length = p at *
  refine ⟨n, 7, rfl, by decide, d0, fun z S2 z0 z1 d2 c2 => ?_⟩
  have e2 := c2 _ _ hpn e0
  have c2 := c0.trans c2
  ((with_reducible conv => whnf); repeat (first | (rw [natD_len]; with_reducible conv => whnf) | (rw [intD_len]; with_reducible conv => whnf) | (refine Exists.intro _ (And.intro (rfl : _ = some _) ?_); with_reducible conv => whnf) | (refine And.intro (okII _ _) ?_; rw [eqD_ii]; with_reducible conv => whnf) | (refine And.intro (by first | assumption | exact Exists.intro _ (by assumption) | exact ⟨rfl, rfl, by decide, by decide⟩ | exact Nat.le_of_ble_eq_true rfl | exact rfl) ?_; with_reducible conv => whnf) | (rw [isLst_at (by assumption)]; with_reducible conv => whnf) | (refine ifT rfl ?_; with_reducible conv => whnf) | (refine ifF rfl ?_; with_reducible conv => whnf) | (refine it_at (by assumption) ?_; with_reducible conv => whnf)))
  refine ⟨⟨by omega, by omega⟩, ?_⟩
  refine Loop_mk (fun i ρ S' => ∃ o3 hs, ρ = [some (.ref n), some (.int c), some (.ref p), o3, none, none, none, none] ∧ S'[p]? = some (.lst (natD hs)) ∧ hs.length = i ∧ (∀ x ∈ hs, x < 2 ^ 300) ∧ Dr n S' ∧ Ch n S S') ⟨none, [], rfl, e2, rfl, by simp, d2, c2⟩ (by intros; trivial) ?_ ?_
  · rintro i d ρ' S' hi ⟨o3, hs, rfl, f1, f2, f3, f4, f5⟩
    obtain ⟨hi1, rfl⟩ := rangeD_get hi
    (with_reducible conv => whnf)
    refine ⟨⟨_, f1⟩, ?_⟩
    ((with_reducible conv => whnf); repeat (first | (rw [natD_len]; with_reducible conv => whnf) | (rw [intD_len]; with_reducible conv => whnf) | (refine Exists.intro _ (And.intro (rfl : _ = some _) ?_); with_reducible conv => whnf) | (refine And.intro (okII _ _) ?_; rw [eqD_ii]; with_reducible conv => whnf) | (refine And.intro (by first | assumption | exact Exists.intro _ (by assumption) | exact ⟨rfl, rfl, by decide, by decide⟩ | exact Nat.le_of_ble_eq_true rfl | exact rfl) ?_; with_reducible conv => whnf) | (rw [isLst_at (by assumption)]; with_reducible conv => whnf) | (refine ifT rfl ?_; with_reducible conv => whnf) | (refine ifF rfl ?_; with_reducible conv => whnf) | (refine it_at (by assumption) ?_; with_reducible conv => whnf)))
    refine ⟨n, 3, rfl, by decide, f4, fun a Sa a0 a1 da ca => ?_⟩
    ((with_reducible conv => whnf); repeat (first | (rw [natD_len]; with_reducible conv => whnf) | (rw [intD_len]; with_reducible conv => whnf) | (refine Exists.intro _ (And.intro (rfl : _ = some _) ?_); with_reducible conv => whnf) | (refine And.intro (okII _ _) ?_; rw [eqD_ii]; with_reducible conv => whnf) | (refine And.intro (by first | assumption | exact Exists.intro _ (by assumption) | exact ⟨rfl, rfl, by decide, by decide⟩ | exact Nat.le_of_ble_eq_true rfl | exact rfl) ?_; with_reducible conv => whnf) | (rw [isLst_at (by assumption)]; with_reducible conv => whnf) | (refine ifT rfl ?_; with_reducible conv => whnf) | (refine ifF rfl ?_; with_reducible conv => whnf) | (refine it_at (by assumption) ?_; with_reducible conv => whnf)))
    refine ⟨n, 100, rfl, by decide, da, fun b Sb b0 b1 db cb => ?_⟩
    ((with_reducible conv => whnf); repeat (first | (rw [natD_len]; with_reducible conv => whnf) | (rw [intD_len]; with_reducible conv => whnf) | (refine Exists.intro _ (And.intro (rfl : _ = some _) ?_); with_reducible conv => whnf) | (refine And.intro (okII _ _) ?_; rw [eqD_ii]; with_reducible conv => whnf) | (refine And.intro (by first | assumption | exact Exists.intro _ (by assumption) | exact ⟨rfl, rfl, by decide, by decide⟩ | exact Nat.le_of_ble_eq_true rfl | exact rfl) ?_; with_reducible conv => whnf) | (rw [isLst_at (by assumption)]; with_reducible conv => whnf) | (refine ifT rfl ?_; with_reducible conv => whnf) | (refine ifF rfl ?_; with_reducible conv => whnf) | (refine it_at (by assumption) ?_; with_reducible conv => whnf)))
    refine ⟨⟨by decide, by decide⟩, ?_⟩
    ((with_reducible conv => whnf); repeat (first | (rw [natD_len]; with_reducible conv => whnf) | (rw [intD_len]; with_reducible conv => whnf) | (refine Exists.intro _ (And.intro (rfl : _ = some _) ?_); with_reducible conv => whnf) | (refine And.intro (okII _ _) ?_; rw [eqD_ii]; with_reducible conv => whnf) | (refine And.intro (by first | assumption | exact Exists.intro _ (by assumption) | exact ⟨rfl, rfl, by decide, by decide⟩ | exact Nat.le_of_ble_eq_true rfl | exact rfl) ?_; with_reducible conv => whnf) | (rw [isLst_at (by assumption)]; with_reducible conv => whnf) | (refine ifT rfl ?_; with_reducible conv => whnf) | (refine ifF rfl ?_; with_reducible conv => whnf) | (refine it_at (by assumption) ?_; with_reducible conv => whnf)))
    refine ⟨n, 50, rfl, by decide, db, fun g Sg g0 g1 dg cg => ?_⟩
    ((with_reducible conv => whnf); repeat (first | (rw [natD_len]; with_reducible conv => whnf) | (rw [intD_len]; with_reducible conv => whnf) | (refine Exists.intro _ (And.intro (rfl : _ = some _) ?_); with_reducible conv => whnf) | (refine And.intro (okII _ _) ?_; rw [eqD_ii]; with_reducible conv => whnf) | (refine And.intro (by first | assumption | exact Exists.intro _ (by assumption) | exact ⟨rfl, rfl, by decide, by decide⟩ | exact Nat.le_of_ble_eq_true rfl | exact rfl) ?_; with_reducible conv => whnf) | (rw [isLst_at (by assumption)]; with_reducible conv => whnf) | (refine ifT rfl ?_; with_reducible conv => whnf) | (refine ifF rfl ?_; with_reducible conv => whnf) | (refine it_at (by assumption) ?_; with_reducible conv => whnf)))
    refine ⟨n, 2, rfl, by decide, dg, fun t St t0 t1 dt ct => ?_⟩
    ((with_reducible conv => whnf); repeat (first | (rw [natD_len]; with_reducible conv => whnf) | (rw [intD_len]; with_reducible conv => whnf) | (refine Exists.intro _ (And.intro (rfl : _ = some _) ?_); with_reducible conv => whnf) | (refine And.intro (okII _ _) ?_; rw [eqD_ii]; with_reducible conv => whnf) | (refine And.intro (by first | assumption | exact Exists.intro _ (by assumption) | exact ⟨rfl, rfl, by decide, by decide⟩ | exact Nat.le_of_ble_eq_true rfl | exact rfl) ?_; with_reducible conv => whnf) | (rw [isLst_at (by assumption)]; with_reducible conv => whnf) | (refine ifT rfl ?_; with_reducible conv => whnf) | (refine ifF rfl ?_; with_reducible conv => whnf) | (refine it_at (by assumption) ?_; with_reducible conv => whnf)))
    have h7 : (c : Int).fdiv 7 = ((c / 7 : Nat) : Int) := by rw [Int.fdiv_eq_ediv_of_nonneg _ (by decide)]; omega
    rw [h7]
    have e5 := at_push St (.lst [.int a, .int b, .int c, .int (((c / 7 : Nat) : Int) + g), .int t])
    have d5 := dt.app [.lst [.int a, .int b, .int c, .int (((c / 7 : Nat) : Int) + g), .int t]]
    have c5 := (((ca.trans cb).trans cg).trans ct).app [.lst [.int a, .int b, .int c, .int (((c / 7 : Nat) : Int) + g), .int t]]
    have hne : St.length ≠ n := by have := dt.lt; omega
    generalize St ++ [.lst [.int a, .int b, .int c, .int (((c / 7 : Nat) : Int) + g), .int t]] = S5 at *
    refine ⟨n, 5, rfl, by decide, d5, fun r S6 r0 r1 d6 c6 => ?_⟩
    have e5 := c6 _ _ hne e5
    have c7 := c5.trans c6
    have f1 := c7 _ _ hpn f1
    ((with_reducible conv => whnf); repeat (first | (rw [natD_len]; with_reducible conv => whnf) | (rw [intD_len]; with_reducible conv => whnf) | (refine Exists.intro _ (And.intro (rfl : _ = some _) ?_); with_reducible conv => whnf) | (refine And.intro (okII _ _) ?_; rw [eqD_ii]; with_reducible conv => whnf) | (refine And.intro (by first | assumption | exact Exists.intro _ (by assumption) | exact ⟨rfl, rfl, by decide, by decide⟩ | exact Nat.le_of_ble_eq_true rfl | exact rfl) ?_; with_reducible conv => whnf) | (rw [isLst_at (by assumption)]; with_reducible conv => whnf) | (refine ifT rfl ?_; with_reducible conv => whnf) | (refine ifF rfl ?_; with_reducible conv => whnf) | (refine it_at (by assumption) ?_; with_reducible conv => whnf)))
    obtain ⟨x, hx, hx2⟩ := pick5 (a := a) (b := b) (c := c) (d := ((c / 7 : Nat) : Int) + g) (e := t) r0 r1
    refine ⟨_, hx, ?_⟩
    have hb : (2 : Nat) ^ 250 + 100 < 2 ^ 300 := by decide +kernel
    have hxx : 0 ≤ x ∧ x < ((2 ^ 300 : Nat) : Int) := by omega
    obtain ⟨y, rfl⟩ : ∃ y : Nat, x = y := ⟨x.toNat, by omega⟩
    ((with_reducible conv => whnf); repeat (first | (rw [natD_len]; with_reducible conv => whnf) | (rw [intD_len]; with_reducible conv => whnf) | (refine Exists.intro _ (And.intro (rfl : _ = some _) ?_); with_reducible conv => whnf) | (refine And.intro (okII _ _) ?_; rw [eqD_ii]; with_reducible conv => whnf) | (refine And.intro (by first | assumption | exact Exists.intro _ (by assumption) | exact ⟨rfl, rfl, by decide, by decide⟩ | exact Nat.le_of_ble_eq_true rfl | exact rfl) ?_; with_reducible conv => whnf) | (rw [isLst_at (by assumption)]; with_reducible conv => whnf) | (refine ifT rfl ?_; with_reducible conv => whnf) | (refine ifF rfl ?_; with_reducible conv => whnf) | (refine it_at (by assumption) ?_; with_reducible conv => whnf)))
    refine ⟨by unfold szL; omega, ?_⟩
    refine ⟨_, hs ++ [y], rfl, ?_, by rw [List.length_append, f2]; rfl, fun x m => ?_, d6.put (Ne.symm hpn), (f5.trans c7).put (by omega)⟩
    · rw [at_set f1, ← natD_app]
      rfl
    · rcases List.mem_append.mp m with m | m
      · exact f3 x m
      · rw [List.mem_singleton.mp m]; omega
  rintro ρ' S3 ⟨o3, hs, rfl, f1, f2, f3, f4, f5⟩
  rw [rangeD_len] at f2
  -- with or without one heap more
  have main : ∀ (h : List Nat) (T : Sto), h.length ≤ 20 → (∀ x ∈ h, x < 2 ^ 300) → T[p]? = some (.lst (natD h)) → Dr n T → Ch n S T → sSeq (sAsg (wCall 1 sp_wc (wCons (wVar 2) wNil)) (gN 4))
    (sSeq (sAsg (wC .non) (gN 5))
    (sSeq (sFor (wR1 (wB rLen (wCons (wVar 2) wNil))) (gN 3) (sSeq (sAsg (wCall 1 sp_wc (wCons (wLst (wCons (wVar 4) (wCons (wOp rIx (wVar 2) (wVar 3)) wNil))) wNil)) (gN 6))
    (sIf (wtAnd (wtVal (wOp rIs (wVar 5) (wC .non))) (wtVal (wOp rLt (wVar 6) (wOp rIx (wVar 2) (wVar 3))))) (sAsg (wTup (wCons (wVar 3) (wCons (wVar 6) wNil))) (gN 5)) sNext)))
    (sSeq (sAsg (wOp rNe (wVar 4) (wC (.int 0))) (gN 7))
    (sSeq (sIf (wtVal (wOp rLt (wB rMax (wCons (wOp rAdd (wLst (wCons (wC (.int 0)) wNil)) (wVar 2)) wNil)) (wC (.int 2)))) (sAsg (wOp rEq (wOp rMod (wB rSum (wCons (wVar 2) wNil)) (wC (.int 2))) (wC (.int 0))) (gN 7)) sNext)
    (sSeq (sIf (wtOr (wtNot (wtVal (wCall 2 (sp_same 3) (wCons (wCall 1 sp_move (wCons (wB rTuple (wCons (wVar 2) wNil)) wNil)) (wCons (wVar 5) wNil))))) (wtVal (wOp rNe (wOp rIsNot (wVar 5) (wC .non)) (wOp rNe (wVar 4) (wC (.int 0)))))) (sRet (wC (.bl false))) sNext)
    (sRet (wOr (wOp rEq (wB rSum (wCons (wVar 2) wNil)) (wC (.int 0))) (wCall 2 (sp_same 3) (wCons (wCall 1 sp_loses (wCons (wB rTuple (wCons (wVar 2) wNil)) wNil)) (wCons (wVar 7) wNil)))))))))) { nx := fun x S' => Q D.non S', rt := Q, bk := fun x x_1 => False, ct := fun x x_1 => False } [some (.ref n), some (.int c), some (.ref p), o3, none, none, none, none] T := by
    intro h T hl hx t1 t2 t3
    ((with_reducible conv => whnf); repeat (first | (rw [natD_len]; with_reducible conv => whnf) | (rw [intD_len]; with_reducible conv => whnf) | (refine Exists.intro _ (And.intro (rfl : _ = some _) ?_); with_reducible conv => whnf) | (refine And.intro (okII _ _) ?_; rw [eqD_ii]; with_reducible conv => whnf) | (refine And.intro (by first | assumption | exact Exists.intro _ (by assumption) | exact ⟨rfl, rfl, by decide, by decide⟩ | exact Nat.le_of_ble_eq_true rfl | exact rfl) ?_; with_reducible conv => whnf) | (rw [isLst_at (by assumption)]; with_reducible conv => whnf) | (refine ifT rfl ?_; with_reducible conv => whnf) | (refine ifF rfl ?_; with_reducible conv => whnf) | (refine it_at (by assumption) ?_; with_reducible conv => whnf)))
    refine ⟨p, h, rfl, t1, by omega, hx, fun S4 s4 => ?_⟩
    have t1 := s4 _ _ t1
    have t2 := t2.sub s4
    have t3 := t3.trans s4.ch
    ((with_reducible conv => whnf); repeat (first | (rw [natD_len]; with_reducible conv => whnf) | (rw [intD_len]; with_reducible conv => whnf) | (refine Exists.intro _ (And.intro (rfl : _ = some _) ?_); with_reducible conv => whnf) | (refine And.intro (okII _ _) ?_; rw [eqD_ii]; with_reducible conv => whnf) | (refine And.intro (by first | assumption | exact Exists.intro _ (by assumption) | exact ⟨rfl, rfl, by decide, by decide⟩ | exact Nat.le_of_ble_eq_true rfl | exact rfl) ?_; with_reducible conv => whnf) | (rw [isLst_at (by assumption)]; with_reducible conv => whnf) | (refine ifT rfl ?_; with_reducible conv => whnf) | (refine ifF rfl ?_; with_reducible conv => whnf) | (refine it_at (by assumption) ?_; with_reducible conv => whnf)))
    refine ⟨⟨by omega, by omega⟩, ?_⟩
    have hxs : xr h < 2 ^ 300 := xr_lt hx
    refine Loop_mk (fun i ρ S' => ∃ o3 o6, ρ = [some (.ref n), some (.int c), some (.ref p), o3, some (.int (xr h : Nat)), some (optP (hmP (xr h) h i)), o6, none] ∧ S'[p]? = some (.lst (natD h)) ∧ Dr n S' ∧ Ch n S S') ⟨o3, none, rfl, t1, t2, t3⟩ (by intros; trivial) ?_ ?_
    · rintro i d ρ' S' hi ⟨o3, o6, rfl, g1, g2, g3⟩
      obtain ⟨hi1, rfl⟩ := rangeD_get hi
      have hih : i < h.length := by omega
      rw [show (0 : Int) + i = i by omega]
      have hgi : h.getD i 0 < 2 ^ 300 := hx _ (by rw [List.getD_eq_getElem?_getD, List.getElem?_eq_getElem hih]; exact List.getElem_mem _)
      ((with_reducible conv => whnf); repeat (first | (rw [natD_len]; with_reducible conv => whnf) | (rw [intD_len]; with_reducible conv => whnf) | (refine Exists.intro _ (And.intro (rfl : _ = some _) ?_); with_reducible conv => whnf) | (refine And.intro (okII _ _) ?_; rw [eqD_ii]; with_reducible conv => whnf) | (refine And.intro (by first | assumption | exact Exists.intro _ (by assumption) | exact ⟨rfl, rfl, by decide, by decide⟩ | exact Nat.le_of_ble_eq_true rfl | exact rfl) ?_; with_reducible conv => whnf) | (rw [isLst_at (by assumption)]; with_reducible conv => whnf) | (refine ifT rfl ?_; with_reducible conv => whnf) | (refine ifF rfl ?_; with_reducible conv => whnf) | (refine it_at (by assumption) ?_; with_reducible conv => whnf)))
      refine ⟨_, atZ_natD hih, ?_⟩
      have e1 := at_push S' (.lst (natD [xr h, h.getD i 0]))
      have g1 := push_at g1 [.lst (natD [xr h, h.getD i 0])]
      have g2 := g2.app [.lst (natD [xr h, h.getD i 0])]
      have g3 := g3.app [.lst (natD [xr h, h.getD i 0])]
      ((with_reducible conv => whnf); repeat (first | (rw [natD_len]; with_reducible conv => whnf) | (rw [intD_len]; with_reducible conv => whnf) | (refine Exists.intro _ (And.intro (rfl : _ = some _) ?_); with_reducible conv => whnf) | (refine And.intro (okII _ _) ?_; rw [eqD_ii]; with_reducible conv => whnf) | (refine And.intro (by first | assumption | exact Exists.intro _ (by assumption) | exact ⟨rfl, rfl, by decide, by decide⟩ | exact Nat.le_of_ble_eq_true rfl | exact rfl) ?_; with_reducible conv => whnf) | (rw [isLst_at (by assumption)]; with_reducible conv => whnf) | (refine ifT rfl ?_; with_reducible conv => whnf) | (refine ifF rfl ?_; with_reducible conv => whnf) | (refine it_at (by assumption) ?_; with_reducible conv => whnf)))
      refine ⟨S'.length, [xr h, h.getD i 0], rfl, e1, by show 2 ≤ 100; decide, fun x m => ?_, fun S5 s5 => ?_⟩
      · rcases List.mem_cons.mp m with m | m
        · rw [m]; exact hxs
        · rw [List.mem_singleton.mp m]; exact hgi
      have g1 := s5 _ _ g1
      have g2 := g2.sub s5
      have g3 := g3.trans s5.ch
      rw [show xr [xr h, h.getD i 0] = xr h ^^^ h.getD i 0 by show xr h ^^^ (h.getD i 0 ^^^ 0) = _; rw [Nat.xor_zero]]
      have hm1 : hmP (xr h) h (i + 1) = match hmP (xr h) h i with
        | some p => some p
        | none => if (xr h ^^^ h.getD i 0) < h.getD i 0 then some (i, xr h ^^^ h.getD i 0) else none := rfl
      cases eh : hmP (xr h) h i with
      | some q =>
        rw [eh] at hm1
        ((with_reducible conv => whnf); repeat (first | (rw [natD_len]; with_reducible conv => whnf) | (rw [intD_len]; with_reducible conv => whnf) | (refine Exists.intro _ (And.intro (rfl : _ = some _) ?_); with_reducible conv => whnf) | (refine And.intro (okII _ _) ?_; rw [eqD_ii]; with_reducible conv => whnf) | (refine And.intro (by first | assumption | exact Exists.intro _ (by assumption) | exact ⟨rfl, rfl, by decide, by decide⟩ | exact Nat.le_of_ble_eq_true rfl | exact rfl) ?_; with_reducible conv => whnf) | (rw [isLst_at (by assumption)]; with_reducible conv => whnf) | (refine ifT rfl ?_; with_reducible conv => whnf) | (refine ifF rfl ?_; with_reducible conv => whnf) | (refine it_at (by assumption) ?_; with_reducible conv => whnf)))
        exact ⟨_, _, by rw [hm1], g1, g2, g3⟩
      | none =>
        rw [eh] at hm1
        simp only at hm1
        ((with_reducible conv => whnf); repeat (first | (rw [natD_len]; with_reducible conv => whnf) | (rw [intD_len]; with_reducible conv => whnf) | (refine Exists.intro _ (And.intro (rfl : _ = some _) ?_); with_reducible conv => whnf) | (refine And.intro (okII _ _) ?_; rw [eqD_ii]; with_reducible conv => whnf) | (refine And.intro (by first | assumption | exact Exists.intro _ (by assumption) | exact ⟨rfl, rfl, by decide, by decide⟩ | exact Nat.le_of_ble_eq_true rfl | exact rfl) ?_; with_reducible conv => whnf) | (rw [isLst_at (by assumption)]; with_reducible conv => whnf) | (refine ifT rfl ?_; with_reducible conv => whnf) | (refine ifF rfl ?_; with_reducible conv => whnf) | (refine it_at (by assumption) ?_; with_reducible conv => whnf)))
        refine ⟨_, atZ_natD hih, ?_⟩
        ((with_reducible conv => whnf); repeat (first | (rw [natD_len]; with_reducible conv => whnf) | (rw [intD_len]; with_reducible conv => whnf) | (refine Exists.intro _ (And.intro (rfl : _ = some _) ?_); with_reducible conv => whnf) | (refine And.intro (okII _ _) ?_; rw [eqD_ii]; with_reducible conv => whnf) | (refine And.intro (by first | assumption | exact Exists.intro _ (by assumption) | exact ⟨rfl, rfl, by decide, by decide⟩ | exact Nat.le_of_ble_eq_true rfl | exact rfl) ?_; with_reducible conv => whnf) | (rw [isLst_at (by assumption)]; with_reducible conv => whnf) | (refine ifT rfl ?_; with_reducible conv => whnf) | (refine ifF rfl ?_; with_reducible conv => whnf) | (refine it_at (by assumption) ?_; with_reducible conv => whnf)))
        refine ite_d (fun hc => ?_) fun hc => ?_
        · rw [if_pos (by omega)] at hm1
          ((with_reducible conv => whnf); repeat (first | (rw [natD_len]; with_reducible conv => whnf) | (rw [intD_len]; with_reducible conv => whnf) | (refine Exists.intro _ (And.intro (rfl : _ = some _) ?_); with_reducible conv => whnf) | (refine And.intro (okII _ _) ?_; rw [eqD_ii]; with_reducible conv => whnf) | (refine And.intro (by first | assumption | exact Exists.intro _ (by assumption) | exact ⟨rfl, rfl, by decide, by decide⟩ | exact Nat.le_of_ble_eq_true rfl | exact rfl) ?_; with_reducible conv => whnf) | (rw [isLst_at (by assumption)]; with_reducible conv => whnf) | (refine ifT rfl ?_; with_reducible conv => whnf) | (refine ifF rfl ?_; with_reducible conv => whnf) | (refine it_at (by assumption) ?_; with_reducible conv => whnf)))
          exact ⟨_, _, by rw [hm1], g1, g2, g3⟩
        · rw [if_neg (by omega)] at hm1
          exact ⟨_, _, by rw [hm1], g1, g2, g3⟩
    rintro ρ' S5 ⟨o3, o6, rfl, g1, g2, g3⟩
    rw [rangeD_len, show ((h.length : Int) - 0).toNat = h.length by omega]
    have ehm : hmP (xr h) h h.length = hm h := rfl
    rw [ehm]
    have hiff := hm_iff h
    have esum := sum_nat h
    have fin : ∀ (b : Bool) (T : Sto), b = F false h → T[p]? = some (.lst (natD h)) → Dr n T → Ch n S T → (sSeq (sIf (wtOr (wtNot (wtVal (wCall 2 (sp_same 3) (wCons (wCall 1 sp_move (wCons (wB rTuple (wCons (wVar 2) wNil)) wNil)) (wCons (wVar 5) wNil))))) (wtVal (wOp rNe (wOp rIsNot (wVar 5) (wC .non)) (wOp rNe (wVar 4) (wC (.int 0)))))) (sRet (wC (.bl false))) sNext)
        (sRet (wOr (wOp rEq (wB rSum (wCons (wVar 2) wNil)) (wC (.int 0))) (wCall 2 (sp_same 3) (wCons (wCall 1 sp_loses (wCons (wB rTuple (wCons (wVar 2) wNil)) wNil)) (wCons (wVar 7) wNil)))))) { nx := fun x S' => Q D.non S', rt := Q, bk := fun x x_1 => False, ct := fun x x_1 => False } [some (.ref n), some (.int c), some (.ref p), o3, some (.int (xr h : Nat)), some (optP (hm h)), o6, some (.bl b)] T := by
      rintro b T rfl g1 g2 g3
      ((with_reducible conv => whnf); repeat (first | (rw [natD_len]; with_reducible conv => whnf) | (rw [intD_len]; with_reducible conv => whnf) | (refine Exists.intro _ (And.intro (rfl : _ = some _) ?_); with_reducible conv => whnf) | (refine And.intro (okII _ _) ?_; rw [eqD_ii]; with_reducible conv => whnf) | (refine And.intro (by first | assumption | exact Exists.intro _ (by assumption) | exact ⟨rfl, rfl, by decide, by decide⟩ | exact Nat.le_of_ble_eq_true rfl | exact rfl) ?_; with_reducible conv => whnf) | (rw [isLst_at (by assumption)]; with_reducible conv => whnf) | (refine ifT rfl ?_; with_reducible conv => whnf) | (refine ifF rfl ?_; with_reducible conv => whnf) | (refine it_at (by assumption) ?_; with_reducible conv => whnf)))
      refine ⟨h, rfl, by omega, fun S6 s6 => ?_⟩
      ((with_reducible conv => whnf); repeat (first | (rw [natD_len]; with_reducible conv => whnf) | (rw [intD_len]; with_reducible conv => whnf) | (refine Exists.intro _ (And.intro (rfl : _ = some _) ?_); with_reducible conv => whnf) | (refine And.intro (okII _ _) ?_; rw [eqD_ii]; with_reducible conv => whnf) | (refine And.intro (by first | assumption | exact Exists.intro _ (by assumption) | exact ⟨rfl, rfl, by decide, by decide⟩ | exact Nat.le_of_ble_eq_true rfl | exact rfl) ?_; with_reducible conv => whnf) | (rw [isLst_at (by assumption)]; with_reducible conv => whnf) | (refine ifT rfl ?_; with_reducible conv => whnf) | (refine ifF rfl ?_; with_reducible conv => whnf) | (refine it_at (by assumption) ?_; with_reducible conv => whnf)))
      obtain ⟨w1, w2, w3⟩ := same_opt (hm h)
      refine ⟨_, rfl, w1, w2, w3, fun S7 s7 => ?_⟩
      have ss := s6.trans s7
      have g1 := ss _ _ g1
      have g2 := g2.sub ss
      have g3 := g3.trans ss.ch
      have eF : F true h = !decide (((xr h : Nat) : Int) = 0) := by
        unfold F
        rw [if_pos rfl, ← decide_not, decide_eq_decide]
        omega
      have fin2 : ∀ S8, Sub S7 S8 → (sRet (wOr (wOp rEq (wB rSum (wCons (wVar 2) wNil)) (wC (.int 0))) (wCall 2 (sp_same 3) (wCons (wCall 1 sp_loses (wCons (wB rTuple (wCons (wVar 2) wNil)) wNil)) (wCons (wVar 7) wNil))))) { nx := fun x S' => Q D.non S', rt := Q, bk := fun x x_1 => False, ct := fun x x_1 => False } [some (.ref n), some (.int c), some (.ref p), o3, some (.int (xr h : Nat)), some (optP (hm h)), o6, some (.bl (F false h))] S8 := by
        intro S8 s8
        have g1 := s8 _ _ g1
        have g2 := g2.sub s8
        have g3 := g3.trans s8.ch
        ((with_reducible conv => whnf); repeat (first | (rw [natD_len]; with_reducible conv => whnf) | (rw [intD_len]; with_reducible conv => whnf) | (refine Exists.intro _ (And.intro (rfl : _ = some _) ?_); with_reducible conv => whnf) | (refine And.intro (okII _ _) ?_; rw [eqD_ii]; with_reducible conv => whnf) | (refine And.intro (by first | assumption | exact Exists.intro _ (by assumption) | exact ⟨rfl, rfl, by decide, by decide⟩ | exact Nat.le_of_ble_eq_true rfl | exact rfl) ?_; with_reducible conv => whnf) | (rw [isLst_at (by assumption)]; with_reducible conv => whnf) | (refine ifT rfl ?_; with_reducible conv => whnf) | (refine ifF rfl ?_; with_reducible conv => whnf) | (refine it_at (by assumption) ?_; with_reducible conv => whnf)))
        refine ⟨_, by show (match S8[p]? with | some (.lst xs) => some xs | _ => none) = _; rw [g1], ?_⟩
        ((with_reducible conv => whnf); repeat (first | (rw [natD_len]; with_reducible conv => whnf) | (rw [intD_len]; with_reducible conv => whnf) | (refine Exists.intro _ (And.intro (rfl : _ = some _) ?_); with_reducible conv => whnf) | (refine And.intro (okII _ _) ?_; rw [eqD_ii]; with_reducible conv => whnf) | (refine And.intro (by first | assumption | exact Exists.intro _ (by assumption) | exact ⟨rfl, rfl, by decide, by decide⟩ | exact Nat.le_of_ble_eq_true rfl | exact rfl) ?_; with_reducible conv => whnf) | (rw [isLst_at (by assumption)]; with_reducible conv => whnf) | (refine ifT rfl ?_; with_reducible conv => whnf) | (refine ifF rfl ?_; with_reducible conv => whnf) | (refine it_at (by assumption) ?_; with_reducible conv => whnf)))
        refine ite_d (fun hc => ?_) fun hc => ?_
        · exact k _ g2 g3
        · ((with_reducible conv => whnf); repeat (first | (rw [natD_len]; with_reducible conv => whnf) | (rw [intD_len]; with_reducible conv => whnf) | (refine Exists.intro _ (And.intro (rfl : _ = some _) ?_); with_reducible conv => whnf) | (refine And.intro (okII _ _) ?_; rw [eqD_ii]; with_reducible conv => whnf) | (refine And.intro (by first | assumption | exact Exists.intro _ (by assumption) | exact ⟨rfl, rfl, by decide, by decide⟩ | exact Nat.le_of_ble_eq_true rfl | exact rfl) ?_; with_reducible conv => whnf) | (rw [isLst_at (by assumption)]; with_reducible conv => whnf) | (refine ifT rfl ?_; with_reducible conv => whnf) | (refine ifF rfl ?_; with_reducible conv => whnf) | (refine it_at (by assumption) ?_; with_reducible conv => whnf)))
          refine ⟨h, rfl, by omega, fun S9 s9 => ?_⟩
          ((with_reducible conv => whnf); repeat (first | (rw [natD_len]; with_reducible conv => whnf) | (rw [intD_len]; with_reducible conv => whnf) | (refine Exists.intro _ (And.intro (rfl : _ = some _) ?_); with_reducible conv => whnf) | (refine And.intro (okII _ _) ?_; rw [eqD_ii]; with_reducible conv => whnf) | (refine And.intro (by first | assumption | exact Exists.intro _ (by assumption) | exact ⟨rfl, rfl, by decide, by decide⟩ | exact Nat.le_of_ble_eq_true rfl | exact rfl) ?_; with_reducible conv => whnf) | (rw [isLst_at (by assumption)]; with_reducible conv => whnf) | (refine ifT rfl ?_; with_reducible conv => whnf) | (refine ifF rfl ?_; with_reducible conv => whnf) | (refine it_at (by assumption) ?_; with_reducible conv => whnf)))
          exact ⟨_, rfl, rfl, rfl, Nat.zero_le _, fun S10 s10 => k _ (g2.sub (s9.trans s10)) (g3.trans (s9.trans s10).ch)⟩
      cases em : hm h with
      | none =>
        rw [em] at hiff fin2
        rw [← hiff] at eF
        ((with_reducible conv => whnf); repeat (first | (rw [natD_len]; with_reducible conv => whnf) | (rw [intD_len]; with_reducible conv => whnf) | (refine Exists.intro _ (And.intro (rfl : _ = some _) ?_); with_reducible conv => whnf) | (refine And.intro (okII _ _) ?_; rw [eqD_ii]; with_reducible conv => whnf) | (refine And.intro (by first | assumption | exact Exists.intro _ (by assumption) | exact ⟨rfl, rfl, by decide, by decide⟩ | exact Nat.le_of_ble_eq_true rfl | exact rfl) ?_; with_reducible conv => whnf) | (rw [isLst_at (by assumption)]; with_reducible conv => whnf) | (refine ifT rfl ?_; with_reducible conv => whnf) | (refine ifF rfl ?_; with_reducible conv => whnf) | (refine it_at (by assumption) ?_; with_reducible conv => whnf)))
        rw [← eF]
        refine ⟨⟨rfl, rfl, Nat.zero_le _, Nat.zero_le _⟩, ?_⟩
        refine ifF rfl ?_
        exact fin2 _ (Sub.refl _)
      | some q =>
        rw [em] at hiff fin2
        rw [← hiff] at eF
        ((with_reducible conv => whnf); repeat (first | (rw [natD_len]; with_reducible conv => whnf) | (rw [intD_len]; with_reducible conv => whnf) | (refine Exists.intro _ (And.intro (rfl : _ = some _) ?_); with_reducible conv => whnf) | (refine And.intro (okII _ _) ?_; rw [eqD_ii]; with_reducible conv => whnf) | (refine And.intro (by first | assumption | exact Exists.intro _ (by assumption) | exact ⟨rfl, rfl, by decide, by decide⟩ | exact Nat.le_of_ble_eq_true rfl | exact rfl) ?_; with_reducible conv => whnf) | (rw [isLst_at (by assumption)]; with_reducible conv => whnf) | (refine ifT rfl ?_; with_reducible conv => whnf) | (refine ifF rfl ?_; with_reducible conv => whnf) | (refine it_at (by assumption) ?_; with_reducible conv => whnf)))
        rw [← eF]
        refine ⟨⟨rfl, rfl, Nat.zero_le _, Nat.zero_le _⟩, ?_⟩
        refine ifF rfl ?_
        exact fin2 _ (Sub.refl _)
    ((with_reducible conv => whnf); repeat (first | (rw [natD_len]; with_reducible conv => whnf) | (rw [intD_len]; with_reducible conv => whnf) | (refine Exists.intro _ (And.intro (rfl : _ = some _) ?_); with_reducible conv => whnf) | (refine And.intro (okII _ _) ?_; rw [eqD_ii]; with_reducible conv => whnf) | (refine And.intro (by first | assumption | exact Exists.intro _ (by assumption) | exact ⟨rfl, rfl, by decide, by decide⟩ | exact Nat.le_of_ble_eq_true rfl | exact rfl) ?_; with_reducible conv => whnf) | (rw [isLst_at (by assumption)]; with_reducible conv => whnf) | (refine ifT rfl ?_; with_reducible conv => whnf) | (refine ifF rfl ?_; with_reducible conv => whnf) | (refine it_at (by assumption) ?_; with_reducible conv => whnf)))
    have e6 := at_push S5 (.lst [.int 0])
    have g1 := push_at g1 [.lst [.int 0]]
    have g2 := g2.app [.lst [.int 0]]
    have g3 := g3.app [.lst [.int 0]]
    ((with_reducible conv => whnf); repeat (first | (rw [natD_len]; with_reducible conv => whnf) | (rw [intD_len]; with_reducible conv => whnf) | (refine Exists.intro _ (And.intro (rfl : _ = some _) ?_); with_reducible conv => whnf) | (refine And.intro (okII _ _) ?_; rw [eqD_ii]; with_reducible conv => whnf) | (refine And.intro (by first | assumption | exact Exists.intro _ (by assumption) | exact ⟨rfl, rfl, by decide, by decide⟩ | exact Nat.le_of_ble_eq_true rfl | exact rfl) ?_; with_reducible conv => whnf) | (rw [isLst_at (by assumption)]; with_reducible conv => whnf) | (refine ifT rfl ?_; with_reducible conv => whnf) | (refine ifF rfl ?_; with_reducible conv => whnf) | (refine it_at (by assumption) ?_; with_reducible conv => whnf)))
    generalize S5 ++ [.lst [.int 0]] = S6 at *
    refine ⟨by rw [List.length_singleton]; unfold szL; omega, ?_⟩
    rw [show [D.int 0] = natD [0] from rfl, natD_app]
    have e7 := at_push S6 (.lst (natD ([0] ++ h)))
    have g1 := push_at g1 [.lst (natD ([0] ++ h))]
    have g2 := g2.app [.lst (natD ([0] ++ h))]
    have g3 := g3.app [.lst (natD ([0] ++ h))]
    ((with_reducible conv => whnf); repeat (first | (rw [natD_len]; with_reducible conv => whnf) | (rw [intD_len]; with_reducible conv => whnf) | (refine Exists.intro _ (And.intro (rfl : _ = some _) ?_); with_reducible conv => whnf) | (refine And.intro (okII _ _) ?_; rw [eqD_ii]; with_reducible conv => whnf) | (refine And.intro (by first | assumption | exact Exists.intro _ (by assumption) | exact ⟨rfl, rfl, by decide, by decide⟩ | exact Nat.le_of_ble_eq_true rfl | exact rfl) ?_; with_reducible conv => whnf) | (rw [isLst_at (by assumption)]; with_reducible conv => whnf) | (refine ifT rfl ?_; with_reducible conv => whnf) | (refine ifF rfl ?_; with_reducible conv => whnf) | (refine it_at (by assumption) ?_; with_reducible conv => whnf)))
    generalize S6 ++ [.lst (natD ([0] ++ h))] = S7 at *
    refine ⟨([0] ++ h).map fun (k : Nat) => (k : Int), by show (match S7[S6.length]? with | some (.lst xs) => some xs | _ => none) = _; rw [e7], by simp, fun mx m1 m2 => ?_⟩
    have eo := ones_max m1 m2
    have eF : F false h = if ones h = true then decide (h.sum % 2 = 0) else !decide (((xr h : Nat) : Int) = 0) := by
      unfold F
      rw [if_neg (by decide)]
      split
      · rfl
      · rw [← decide_not, decide_eq_decide]
        omega
    ((with_reducible conv => whnf); repeat (first | (rw [natD_len]; with_reducible conv => whnf) | (rw [intD_len]; with_reducible conv => whnf) | (refine Exists.intro _ (And.intro (rfl : _ = some _) ?_); with_reducible conv => whnf) | (refine And.intro (okII _ _) ?_; rw [eqD_ii]; with_reducible conv => whnf) | (refine And.intro (by first | assumption | exact Exists.intro _ (by assumption) | exact ⟨rfl, rfl, by decide, by decide⟩ | exact Nat.le_of_ble_eq_true rfl | exact rfl) ?_; with_reducible conv => whnf) | (rw [isLst_at (by assumption)]; with_reducible conv => whnf) | (refine ifT rfl ?_; with_reducible conv => whnf) | (refine ifF rfl ?_; with_reducible conv => whnf) | (refine it_at (by assumption) ?_; with_reducible conv => whnf)))
    refine ite_d (fun hc => ?_) fun hc => ?_
    · have ec : ones h = true := by rw [← eo]; exact decide_eq_true hc
      rw [ec, if_pos rfl] at eF
      ((with_reducible conv => whnf); repeat (first | (rw [natD_len]; with_reducible conv => whnf) | (rw [intD_len]; with_reducible conv => whnf) | (refine Exists.intro _ (And.intro (rfl : _ = some _) ?_); with_reducible conv => whnf) | (refine And.intro (okII _ _) ?_; rw [eqD_ii]; with_reducible conv => whnf) | (refine And.intro (by first | assumption | exact Exists.intro _ (by assumption) | exact ⟨rfl, rfl, by decide, by decide⟩ | exact Nat.le_of_ble_eq_true rfl | exact rfl) ?_; with_reducible conv => whnf) | (rw [isLst_at (by assumption)]; with_reducible conv => whnf) | (refine ifT rfl ?_; with_reducible conv => whnf) | (refine ifF rfl ?_; with_reducible conv => whnf) | (refine it_at (by assumption) ?_; with_reducible conv => whnf)))
      refine ⟨_, by show (match S7[p]? with | some (.lst xs) => some xs | _ => none) = _; rw [g1], ?_⟩
      ((with_reducible conv => whnf); repeat (first | (rw [natD_len]; with_reducible conv => whnf) | (rw [intD_len]; with_reducible conv => whnf) | (refine Exists.intro _ (And.intro (rfl : _ = some _) ?_); with_reducible conv => whnf) | (refine And.intro (okII _ _) ?_; rw [eqD_ii]; with_reducible conv => whnf) | (refine And.intro (by first | assumption | exact Exists.intro _ (by assumption) | exact ⟨rfl, rfl, by decide, by decide⟩ | exact Nat.le_of_ble_eq_true rfl | exact rfl) ?_; with_reducible conv => whnf) | (rw [isLst_at (by assumption)]; with_reducible conv => whnf) | (refine ifT rfl ?_; with_reducible conv => whnf) | (refine ifF rfl ?_; with_reducible conv => whnf) | (refine it_at (by assumption) ?_; with_reducible conv => whnf)))
      refine ⟨by decide, ?_⟩
      rw [esum, fmod2]
      (with_reducible conv => whnf)
      refine ⟨okII _ _, ?_⟩
      rw [eqD_ii]
      exact fin (decide (((h.sum % 2 : Nat) : Int) = 0)) S7 (by rw [eF, decide_eq_decide]; constructor <;> intro q <;> omega) g1 g2 g3
    · have ec : ones h = false := by rw [← eo]; exact decide_eq_false hc
      rw [ec, if_neg (by decide)] at eF
      exact fin _ S7 eF.symm g1 g2 g3
  ((with_reducible conv => whnf); repeat (first | (rw [natD_len]; with_reducible conv => whnf) | (rw [intD_len]; with_reducible conv => whnf) | (refine Exists.intro _ (And.intro (rfl : _ = some _) ?_); with_reducible conv => whnf) | (refine And.intro (okII _ _) ?_; rw [eqD_ii]; with_reducible conv => whnf) | (refine And.intro (by first | assumption | exact Exists.intro _ (by assumption) | exact ⟨rfl, rfl, by decide, by decide⟩ | exact Nat.le_of_ble_eq_true rfl | exact rfl) ?_; with_reducible conv => whnf) | (rw [isLst_at (by assumption)]; with_reducible conv => whnf) | (refine ifT rfl ?_; with_reducible conv => whnf) | (refine ifF rfl ?_; with_reducible conv => whnf) | (refine it_at (by assumption) ?_; with_reducible conv => whnf)))
  refine ⟨n, 2, rfl, by decide, f4, fun r S4 r0 r1 d4 c4 => ?_⟩
  have f1 := c4 _ _ hpn f1
  have f5 := f5.trans c4
  ((with_reducible conv => whnf); repeat (first | (rw [natD_len]; with_reducible conv => whnf) | (rw [intD_len]; with_reducible conv => whnf) | (refine Exists.intro _ (And.intro (rfl : _ = some _) ?_); with_reducible conv => whnf) | (refine And.intro (okII _ _) ?_; rw [eqD_ii]; with_reducible conv => whnf) | (refine And.intro (by first | assumption | exact Exists.intro _ (by assumption) | exact ⟨rfl, rfl, by decide, by decide⟩ | exact Nat.le_of_ble_eq_true rfl | exact rfl) ?_; with_reducible conv => whnf) | (rw [isLst_at (by assumption)]; with_reducible conv => whnf) | (refine ifT rfl ?_; with_reducible conv => whnf) | (refine ifF rfl ?_; with_reducible conv => whnf) | (refine it_at (by assumption) ?_; with_reducible conv => whnf)))
  refine ite_d (fun hc => ?_) fun hc => ?_
  · ((with_reducible conv => whnf); repeat (first | (rw [natD_len]; with_reducible conv => whnf) | (rw [intD_len]; with_reducible conv => whnf) | (refine Exists.intro _ (And.intro (rfl : _ = some _) ?_); with_reducible conv => whnf) | (refine And.intro (okII _ _) ?_; rw [eqD_ii]; with_reducible conv => whnf) | (refine And.intro (by first | assumption | exact Exists.intro _ (by assumption) | exact ⟨rfl, rfl, by decide, by decide⟩ | exact Nat.le_of_ble_eq_true rfl | exact rfl) ?_; with_reducible conv => whnf) | (rw [isLst_at (by assumption)]; with_reducible conv => whnf) | (refine ifT rfl ?_; with_reducible conv => whnf) | (refine ifF rfl ?_; with_reducible conv => whnf) | (refine it_at (by assumption) ?_; with_reducible conv => whnf)))
    refine ⟨p, hs, rfl, f1, by omega, f3, fun S5 s5 => ?_⟩
    have f1 := s5 _ _ f1
    ((with_reducible conv => whnf); repeat (first | (rw [natD_len]; with_reducible conv => whnf) | (rw [intD_len]; with_reducible conv => whnf) | (refine Exists.intro _ (And.intro (rfl : _ = some _) ?_); with_reducible conv => whnf) | (refine And.intro (okII _ _) ?_; rw [eqD_ii]; with_reducible conv => whnf) | (refine And.intro (by first | assumption | exact Exists.intro _ (by assumption) | exact ⟨rfl, rfl, by decide, by decide⟩ | exact Nat.le_of_ble_eq_true rfl | exact rfl) ?_; with_reducible conv => whnf) | (rw [isLst_at (by assumption)]; with_reducible conv => whnf) | (refine ifT rfl ?_; with_reducible conv => whnf) | (refine ifF rfl ?_; with_reducible conv => whnf) | (refine it_at (by assumption) ?_; with_reducible conv => whnf)))
    refine ⟨by unfold szL; omega, ?_⟩
    refine main (hs ++ [xr hs]) _ (by rw [List.length_append]; show _ + 1 ≤ _; omega) (fun x m => ?_) ?_ ((d4.sub s5).put (Ne.symm hpn)) ((f5.trans s5.ch).put (by omega))
    · rcases List.mem_append.mp m with m | m
      · exact f3 x m
      · rw [List.mem_singleton.mp m]; exact xr_lt f3
    · rw [at_set f1, ← natD_app]
      rfl
  · exact main hs S4 (by omega) f3 f1 d4 f5
end K79
set_option linter.all false
set_option maxRecDepth 100000
set_option maxHeartbeats 4000000
set_option exponentiation.threshold 10000
namespace K79
open DL
@[reducible] def sp_law : Spc := fun ds S Q => ∃ ns, ds = [.rol (intD ns)] ∧ ns.length ≤ 63 ∧ ∀ S', Q (.bl true) S'
theorem same_ord (o : List Nat) (h : o.length ≤ 1000) : flat (ordD o) = true ∧ slim (ordD o) = true ∧ deep (ordD o) ≤ 3 := by
  refine ⟨flats_int _, ?_, ?_⟩
  · show (decide ((natD o).length ≤ szL) && slims (natD o)) = true
    rw [natD_len, decide_eq_true (by unfold szL; omega), slims_int]
    rfl
  · show deeps (natD o) + 1 ≤ 3
    rw [deeps_int]
    omega
theorem same_game (g : List (List Nat)) (h : g.length ≤ 1000) (h2 : ∀ o ∈ g, o.length ≤ 1000) : flat (.tup (g.map ordD)) = true ∧ slim (.tup (g.map ordD)) = true ∧ deep (.tup (g.map ordD)) ≤ 3 := by
  refine ⟨flats_map fun c _ => flats_int _, ?_, ?_⟩
  · show (decide ((g.map ordD).length ≤ szL) && slims (g.map ordD)) = true
    rw [List.length_map, decide_eq_true (by unfold szL; omega), slims_map fun c m => ?_]
    · rfl
    · show (decide ((natD c).length ≤ szL) && slims (natD c)) = true
      have := h2 c m
      rw [natD_len, decide_eq_true (by unfold szL; omega), slims_int]
      rfl
  · show deeps (g.map ordD) + 1 ≤ 3
    have := deeps_map (f := ordD) (N := 1) (l := g) fun c _ => by
      show deeps (natD c) + 1 ≤ 1
      rw [deeps_int]
      omega
    omega
theorem cut_last {α : Type} (xs : List α) : cut xs (some (-1)) none = xs.drop (xs.length - 1) := by
  have h : sIx xs.length 0 (some (-1)) = xs.length - 1 := by
    show (if (-1 : Int) < 0 then ((-1 : Int) + xs.length).toNat else min ((-1 : Int)).toNat xs.length) = _
    rw [if_pos (by decide)]
    omega
  unfold cut
  rw [h, sIx_no, List.take_of_length_le (by rw [List.length_drop]; omega)]
theorem law_B {Q : VK} {n : Nat} {steps : List Nat} {x0 x2 x4 x5 x6 x7 x8 x9 : Option D} {S : Sto} (hst : Stp steps) (h9 : ∀ x ∈ steps, x < 10) (kk : ∀ S', Q (.bl true) S') (d0 : Dr n S) : w_law_t7 sp_draws sp_cell sp_small sp_great sp_take sp_some (sp_same 3) sp_row sp_nums sp_again sp_again sp_move sp_loses { nx := fun _ S' => Q .non S', rt := Q, bk := fun _ _ => False, ct := fun _ _ => False } [x0, some (.ref n), x2, some (.tup (natD steps)), x4, x5, x6, x7, x8, x9] S := by
  ((with_reducible conv => whnf); repeat (first | (rw [natD_len]; with_reducible conv => whnf) | (rw [intD_len]; with_reducible conv => whnf) | (refine Exists.intro _ (And.intro (rfl : _ = some _) ?_); with_reducible conv => whnf) | (refine And.intro (okII _ _) ?_; rw [eqD_ii]; with_reducible conv => whnf) | (refine And.intro (by first | assumption | exact Exists.intro _ (by assumption) | exact ⟨rfl, rfl, by decide, by decide⟩ | exact Nat.le_of_ble_eq_true rfl | exact rfl) ?_; with_reducible conv => whnf) | (rw [isLst_at (by assumption)]; with_reducible conv => whnf) | (refine ifT rfl ?_; with_reducible conv => whnf) | (refine ifF rfl ?_; with_reducible conv => whnf) | (refine it_at (by assumption) ?_; with_reducible conv => whnf)))
  refine ⟨n, 25, rfl, by decide, d0, fun z S1 z0 z1 d1 c1 => ?_⟩
  obtain ⟨z, rfl⟩ : ∃ m : Nat, z = m := ⟨z.toNat, by omega⟩
  ((with_reducible conv => whnf); repeat (first | (rw [natD_len]; with_reducible conv => whnf) | (rw [intD_len]; with_reducible conv => whnf) | (refine Exists.intro _ (And.intro (rfl : _ = some _) ?_); with_reducible conv => whnf) | (refine And.intro (okII _ _) ?_; rw [eqD_ii]; with_reducible conv => whnf) | (refine And.intro (by first | assumption | exact Exists.intro _ (by assumption) | exact ⟨rfl, rfl, by decide, by decide⟩ | exact Nat.le_of_ble_eq_true rfl | exact rfl) ?_; with_reducible conv => whnf) | (rw [isLst_at (by assumption)]; with_reducible conv => whnf) | (refine ifT rfl ?_; with_reducible conv => whnf) | (refine ifF rfl ?_; with_reducible conv => whnf) | (refine it_at (by assumption) ?_; with_reducible conv => whnf)))
  rw [cut_take _ (by decide), show (1 : Int).toNat = 1 from rfl, natD_take]
  have hcd : cut (natD steps) (some (-1)) none = natD (steps.drop (steps.length - 1)) := by rw [cut_last, natD_len, natD_drop]
  rw [hcd]
  have hlen := hst.len
  refine ⟨by rw [natD_len, natD_len, List.length_take, List.length_drop]; unfold szL; omega, ?_⟩
  (with_reducible conv => whnf)
  rw [natD_app]
  refine ⟨(steps.take 1 ++ steps.drop (steps.length - 1)).map fun (k : Nat) => (k : Int), rfl, ?_⟩
  (with_reducible conv => whnf)
  rw [sum_nat]
  have hw : (steps.take 1 ++ steps.drop (steps.length - 1)).sum ≤ 20 := by
    have h1 : (steps.take 1).sum ≤ 9 := by
      cases steps with
      | nil => decide
      | cons a l => have := h9 a List.mem_cons_self; show a + 0 ≤ 9; omega
    have h2 : (steps.drop (steps.length - 1)).sum ≤ 9 := by
      have hl : (steps.drop (steps.length - 1)).length ≤ 1 := by rw [List.length_drop]; omega
      have hm : ∀ x ∈ steps.drop (steps.length - 1), x < 10 := fun x m => h9 x (List.mem_of_mem_drop m)
      generalize steps.drop (steps.length - 1) = l at *
      match l, hl, hm with
      | [], _, _ => decide
      | [a], _, hm => have := hm a List.mem_cons_self; show a + 0 ≤ 9; omega
    rw [List.sum_append]
    omega
  generalize (steps.take 1 ++ steps.drop (steps.length - 1)).sum = w at *
  refine ⟨rfl, ?_⟩
  (with_reducible conv => whnf)
  refine ⟨n, 3, rfl, by decide, d1, fun t S2 t0 t1 d2 c2 => ?_⟩
  obtain ⟨t, rfl⟩ : ∃ m : Nat, t = m := ⟨t.toNat, by omega⟩
  ((with_reducible conv => whnf); repeat (first | (rw [natD_len]; with_reducible conv => whnf) | (rw [intD_len]; with_reducible conv => whnf) | (refine Exists.intro _ (And.intro (rfl : _ = some _) ?_); with_reducible conv => whnf) | (refine And.intro (okII _ _) ?_; rw [eqD_ii]; with_reducible conv => whnf) | (refine And.intro (by first | assumption | exact Exists.intro _ (by assumption) | exact ⟨rfl, rfl, by decide, by decide⟩ | exact Nat.le_of_ble_eq_true rfl | exact rfl) ?_; with_reducible conv => whnf) | (rw [isLst_at (by assumption)]; with_reducible conv => whnf) | (refine ifT rfl ?_; with_reducible conv => whnf) | (refine ifF rfl ?_; with_reducible conv => whnf) | (refine it_at (by assumption) ?_; with_reducible conv => whnf)))
  have hL : [D.int z, .int ((w : Int) + t)] = natD [z, w + t] := by
    rw [natD_map]
    rfl
  rw [hL]
  have hLm : ∀ k ∈ [z, w + t], k ≤ 100 := by
    simp only [List.mem_cons, List.not_mem_nil, or_false]
    omega
  clear hL
  generalize [z, w + t] = L at *
  have ep := at_push S2 (.lst (natD L))
  ((with_reducible conv => whnf); repeat (first | (rw [natD_len]; with_reducible conv => whnf) | (rw [intD_len]; with_reducible conv => whnf) | (refine Exists.intro _ (And.intro (rfl : _ = some _) ?_); with_reducible conv => whnf) | (refine And.intro (okII _ _) ?_; rw [eqD_ii]; with_reducible conv => whnf) | (refine And.intro (by first | assumption | exact Exists.intro _ (by assumption) | exact ⟨rfl, rfl, by decide, by decide⟩ | exact Nat.le_of_ble_eq_true rfl | exact rfl) ?_; with_reducible conv => whnf) | (rw [isLst_at (by assumption)]; with_reducible conv => whnf) | (refine ifT rfl ?_; with_reducible conv => whnf) | (refine ifF rfl ?_; with_reducible conv => whnf) | (refine it_at (by assumption) ?_; with_reducible conv => whnf)))
  generalize S2 ++ [.lst (natD L)] = S3 at *
  generalize S2.length = pl at *
  refine Loop_mk (fun i ρ S' => ∃ o9, ρ = [x0, some (.ref n), x2, some (.tup (natD steps)), x4, x5, x6, x7, x8, o9] ∧ S'[pl]? = some (.lst (natD L))) ⟨_, rfl, ep⟩ (by rintro i ρ S' ⟨_, rfl, h⟩; exact h) ?_ ?_
  · rintro i d ρ' S' hi ⟨o9, rfl, f1⟩
    obtain ⟨k, hk, rfl⟩ := natD_get hi
    have hk1 := hLm k (List.mem_of_getElem? hk)
    ((with_reducible conv => whnf); repeat (first | (rw [natD_len]; with_reducible conv => whnf) | (rw [intD_len]; with_reducible conv => whnf) | (refine Exists.intro _ (And.intro (rfl : _ = some _) ?_); with_reducible conv => whnf) | (refine And.intro (okII _ _) ?_; rw [eqD_ii]; with_reducible conv => whnf) | (refine And.intro (by first | assumption | exact Exists.intro _ (by assumption) | exact ⟨rfl, rfl, by decide, by decide⟩ | exact Nat.le_of_ble_eq_true rfl | exact rfl) ?_; with_reducible conv => whnf) | (rw [isLst_at (by assumption)]; with_reducible conv => whnf) | (refine ifT rfl ?_; with_reducible conv => whnf) | (refine ifF rfl ?_; with_reducible conv => whnf) | (refine it_at (by assumption) ?_; with_reducible conv => whnf)))
    refine ⟨steps, k, rfl, hk1, hst, fun S4 s4 => ?_⟩
    ((with_reducible conv => whnf); repeat (first | (rw [natD_len]; with_reducible conv => whnf) | (rw [intD_len]; with_reducible conv => whnf) | (refine Exists.intro _ (And.intro (rfl : _ = some _) ?_); with_reducible conv => whnf) | (refine And.intro (okII _ _) ?_; rw [eqD_ii]; with_reducible conv => whnf) | (refine And.intro (by first | assumption | exact Exists.intro _ (by assumption) | exact ⟨rfl, rfl, by decide, by decide⟩ | exact Nat.le_of_ble_eq_true rfl | exact rfl) ?_; with_reducible conv => whnf) | (rw [isLst_at (by assumption)]; with_reducible conv => whnf) | (refine ifT rfl ?_; with_reducible conv => whnf) | (refine ifF rfl ?_; with_reducible conv => whnf) | (refine it_at (by assumption) ?_; with_reducible conv => whnf)))
    refine ⟨steps, k, rfl, hk1, hst, fun S5 s5 => ?_⟩
    ((with_reducible conv => whnf); repeat (first | (rw [natD_len]; with_reducible conv => whnf) | (rw [intD_len]; with_reducible conv => whnf) | (refine Exists.intro _ (And.intro (rfl : _ = some _) ?_); with_reducible conv => whnf) | (refine And.intro (okII _ _) ?_; rw [eqD_ii]; with_reducible conv => whnf) | (refine And.intro (by first | assumption | exact Exists.intro _ (by assumption) | exact ⟨rfl, rfl, by decide, by decide⟩ | exact Nat.le_of_ble_eq_true rfl | exact rfl) ?_; with_reducible conv => whnf) | (rw [isLst_at (by assumption)]; with_reducible conv => whnf) | (refine ifT rfl ?_; with_reducible conv => whnf) | (refine ifF rfl ?_; with_reducible conv => whnf) | (refine it_at (by assumption) ?_; with_reducible conv => whnf)))
    obtain ⟨w1, w2, w3⟩ := same_opt (first (rep (rowN steps (4 * k + 1))) k)
    refine ⟨_, rfl, w1, w2, w3, fun S6 s6 => ?_⟩
    ((with_reducible conv => whnf); repeat (first | (rw [natD_len]; with_reducible conv => whnf) | (rw [intD_len]; with_reducible conv => whnf) | (refine Exists.intro _ (And.intro (rfl : _ = some _) ?_); with_reducible conv => whnf) | (refine And.intro (okII _ _) ?_; rw [eqD_ii]; with_reducible conv => whnf) | (refine And.intro (by first | assumption | exact Exists.intro _ (by assumption) | exact ⟨rfl, rfl, by decide, by decide⟩ | exact Nat.le_of_ble_eq_true rfl | exact rfl) ?_; with_reducible conv => whnf) | (rw [isLst_at (by assumption)]; with_reducible conv => whnf) | (refine ifT rfl ?_; with_reducible conv => whnf) | (refine ifF rfl ?_; with_reducible conv => whnf) | (refine it_at (by assumption) ?_; with_reducible conv => whnf)))
    exact ⟨_, rfl, s6 _ _ (s5 _ _ (s4 _ _ f1))⟩
  rintro ρ' S4 ⟨o9, rfl, -⟩
  ((with_reducible conv => whnf); repeat (first | (rw [natD_len]; with_reducible conv => whnf) | (rw [intD_len]; with_reducible conv => whnf) | (refine Exists.intro _ (And.intro (rfl : _ = some _) ?_); with_reducible conv => whnf) | (refine And.intro (okII _ _) ?_; rw [eqD_ii]; with_reducible conv => whnf) | (refine And.intro (by first | assumption | exact Exists.intro _ (by assumption) | exact ⟨rfl, rfl, by decide, by decide⟩ | exact Nat.le_of_ble_eq_true rfl | exact rfl) ?_; with_reducible conv => whnf) | (rw [isLst_at (by assumption)]; with_reducible conv => whnf) | (refine ifT rfl ?_; with_reducible conv => whnf) | (refine ifF rfl ?_; with_reducible conv => whnf) | (refine it_at (by assumption) ?_; with_reducible conv => whnf)))
  refine ⟨[3, 4, 5], rfl, by decide, fun S5 s5 => ?_⟩
  rw [show hm [3, 4, 5] = some (0, 1) by decide]
  ((with_reducible conv => whnf); repeat (first | (rw [natD_len]; with_reducible conv => whnf) | (rw [intD_len]; with_reducible conv => whnf) | (refine Exists.intro _ (And.intro (rfl : _ = some _) ?_); with_reducible conv => whnf) | (refine And.intro (okII _ _) ?_; rw [eqD_ii]; with_reducible conv => whnf) | (refine And.intro (by first | assumption | exact Exists.intro _ (by assumption) | exact ⟨rfl, rfl, by decide, by decide⟩ | exact Nat.le_of_ble_eq_true rfl | exact rfl) ?_; with_reducible conv => whnf) | (rw [isLst_at (by assumption)]; with_reducible conv => whnf) | (refine ifT rfl ?_; with_reducible conv => whnf) | (refine ifF rfl ?_; with_reducible conv => whnf) | (refine it_at (by assumption) ?_; with_reducible conv => whnf)))
  refine ⟨.tup [.int 0, .int 1], rfl, rfl, rfl, by show max 0 (max 0 0) + 1 ≤ 3; decide, fun S6 s6 => ?_⟩
  ((with_reducible conv => whnf); repeat (first | (rw [natD_len]; with_reducible conv => whnf) | (rw [intD_len]; with_reducible conv => whnf) | (refine Exists.intro _ (And.intro (rfl : _ = some _) ?_); with_reducible conv => whnf) | (refine And.intro (okII _ _) ?_; rw [eqD_ii]; with_reducible conv => whnf) | (refine And.intro (by first | assumption | exact Exists.intro _ (by assumption) | exact ⟨rfl, rfl, by decide, by decide⟩ | exact Nat.le_of_ble_eq_true rfl | exact rfl) ?_; with_reducible conv => whnf) | (rw [isLst_at (by assumption)]; with_reducible conv => whnf) | (refine ifT rfl ?_; with_reducible conv => whnf) | (refine ifF rfl ?_; with_reducible conv => whnf) | (refine it_at (by assumption) ?_; with_reducible conv => whnf)))
  refine ⟨[2, 2], rfl, by decide, fun S7 s7 => ?_⟩
  rw [show hm [2, 2] = none by decide]
  ((with_reducible conv => whnf); repeat (first | (rw [natD_len]; with_reducible conv => whnf) | (rw [intD_len]; with_reducible conv => whnf) | (refine Exists.intro _ (And.intro (rfl : _ = some _) ?_); with_reducible conv => whnf) | (refine And.intro (okII _ _) ?_; rw [eqD_ii]; with_reducible conv => whnf) | (refine And.intro (by first | assumption | exact Exists.intro _ (by assumption) | exact ⟨rfl, rfl, by decide, by decide⟩ | exact Nat.le_of_ble_eq_true rfl | exact rfl) ?_; with_reducible conv => whnf) | (rw [isLst_at (by assumption)]; with_reducible conv => whnf) | (refine ifT rfl ?_; with_reducible conv => whnf) | (refine ifF rfl ?_; with_reducible conv => whnf) | (refine it_at (by assumption) ?_; with_reducible conv => whnf)))
  refine ⟨[], rfl, by decide, fun S8 s8 => ?_⟩
  rw [show hm [] = none by decide]
  ((with_reducible conv => whnf); repeat (first | (rw [natD_len]; with_reducible conv => whnf) | (rw [intD_len]; with_reducible conv => whnf) | (refine Exists.intro _ (And.intro (rfl : _ = some _) ?_); with_reducible conv => whnf) | (refine And.intro (okII _ _) ?_; rw [eqD_ii]; with_reducible conv => whnf) | (refine And.intro (by first | assumption | exact Exists.intro _ (by assumption) | exact ⟨rfl, rfl, by decide, by decide⟩ | exact Nat.le_of_ble_eq_true rfl | exact rfl) ?_; with_reducible conv => whnf) | (rw [isLst_at (by assumption)]; with_reducible conv => whnf) | (refine ifT rfl ?_; with_reducible conv => whnf) | (refine ifF rfl ?_; with_reducible conv => whnf) | (refine it_at (by assumption) ?_; with_reducible conv => whnf)))
  refine ⟨[1, 1], rfl, by decide, fun S9 s9 => ?_⟩
  rw [show F false [1, 1] = true by decide]
  ((with_reducible conv => whnf); repeat (first | (rw [natD_len]; with_reducible conv => whnf) | (rw [intD_len]; with_reducible conv => whnf) | (refine Exists.intro _ (And.intro (rfl : _ = some _) ?_); with_reducible conv => whnf) | (refine And.intro (okII _ _) ?_; rw [eqD_ii]; with_reducible conv => whnf) | (refine And.intro (by first | assumption | exact Exists.intro _ (by assumption) | exact ⟨rfl, rfl, by decide, by decide⟩ | exact Nat.le_of_ble_eq_true rfl | exact rfl) ?_; with_reducible conv => whnf) | (rw [isLst_at (by assumption)]; with_reducible conv => whnf) | (refine ifT rfl ?_; with_reducible conv => whnf) | (refine ifF rfl ?_; with_reducible conv => whnf) | (refine it_at (by assumption) ?_; with_reducible conv => whnf)))
  refine ⟨.bl true, rfl, rfl, rfl, Nat.zero_le _, fun S10 s10 => ?_⟩
  ((with_reducible conv => whnf); repeat (first | (rw [natD_len]; with_reducible conv => whnf) | (rw [intD_len]; with_reducible conv => whnf) | (refine Exists.intro _ (And.intro (rfl : _ = some _) ?_); with_reducible conv => whnf) | (refine And.intro (okII _ _) ?_; rw [eqD_ii]; with_reducible conv => whnf) | (refine And.intro (by first | assumption | exact Exists.intro _ (by assumption) | exact ⟨rfl, rfl, by decide, by decide⟩ | exact Nat.le_of_ble_eq_true rfl | exact rfl) ?_; with_reducible conv => whnf) | (rw [isLst_at (by assumption)]; with_reducible conv => whnf) | (refine ifT rfl ?_; with_reducible conv => whnf) | (refine ifF rfl ?_; with_reducible conv => whnf) | (refine it_at (by assumption) ?_; with_reducible conv => whnf)))
  refine ⟨[1, 1, 1], rfl, by decide, fun S11 s11 => ?_⟩
  rw [show F false [1, 1, 1] = false by decide]
  ((with_reducible conv => whnf); repeat (first | (rw [natD_len]; with_reducible conv => whnf) | (rw [intD_len]; with_reducible conv => whnf) | (refine Exists.intro _ (And.intro (rfl : _ = some _) ?_); with_reducible conv => whnf) | (refine And.intro (okII _ _) ?_; rw [eqD_ii]; with_reducible conv => whnf) | (refine And.intro (by first | assumption | exact Exists.intro _ (by assumption) | exact ⟨rfl, rfl, by decide, by decide⟩ | exact Nat.le_of_ble_eq_true rfl | exact rfl) ?_; with_reducible conv => whnf) | (rw [isLst_at (by assumption)]; with_reducible conv => whnf) | (refine ifT rfl ?_; with_reducible conv => whnf) | (refine ifF rfl ?_; with_reducible conv => whnf) | (refine it_at (by assumption) ?_; with_reducible conv => whnf)))
  refine ⟨.bl false, rfl, rfl, rfl, Nat.zero_le _, fun S12 s12 => ?_⟩
  ((with_reducible conv => whnf); repeat (first | (rw [natD_len]; with_reducible conv => whnf) | (rw [intD_len]; with_reducible conv => whnf) | (refine Exists.intro _ (And.intro (rfl : _ = some _) ?_); with_reducible conv => whnf) | (refine And.intro (okII _ _) ?_; rw [eqD_ii]; with_reducible conv => whnf) | (refine And.intro (by first | assumption | exact Exists.intro _ (by assumption) | exact ⟨rfl, rfl, by decide, by decide⟩ | exact Nat.le_of_ble_eq_true rfl | exact rfl) ?_; with_reducible conv => whnf) | (rw [isLst_at (by assumption)]; with_reducible conv => whnf) | (refine ifT rfl ?_; with_reducible conv => whnf) | (refine ifF rfl ?_; with_reducible conv => whnf) | (refine it_at (by assumption) ?_; with_reducible conv => whnf)))
  refine ⟨[2, 2], rfl, by decide, fun S13 s13 => ?_⟩
  rw [show F false [2, 2] = false by decide]
  ((with_reducible conv => whnf); repeat (first | (rw [natD_len]; with_reducible conv => whnf) | (rw [intD_len]; with_reducible conv => whnf) | (refine Exists.intro _ (And.intro (rfl : _ = some _) ?_); with_reducible conv => whnf) | (refine And.intro (okII _ _) ?_; rw [eqD_ii]; with_reducible conv => whnf) | (refine And.intro (by first | assumption | exact Exists.intro _ (by assumption) | exact ⟨rfl, rfl, by decide, by decide⟩ | exact Nat.le_of_ble_eq_true rfl | exact rfl) ?_; with_reducible conv => whnf) | (rw [isLst_at (by assumption)]; with_reducible conv => whnf) | (refine ifT rfl ?_; with_reducible conv => whnf) | (refine ifF rfl ?_; with_reducible conv => whnf) | (refine it_at (by assumption) ?_; with_reducible conv => whnf)))
  refine ⟨.bl false, rfl, rfl, rfl, Nat.zero_le _, fun S14 s14 => ?_⟩
  ((with_reducible conv => whnf); repeat (first | (rw [natD_len]; with_reducible conv => whnf) | (rw [intD_len]; with_reducible conv => whnf) | (refine Exists.intro _ (And.intro (rfl : _ = some _) ?_); with_reducible conv => whnf) | (refine And.intro (okII _ _) ?_; rw [eqD_ii]; with_reducible conv => whnf) | (refine And.intro (by first | assumption | exact Exists.intro _ (by assumption) | exact ⟨rfl, rfl, by decide, by decide⟩ | exact Nat.le_of_ble_eq_true rfl | exact rfl) ?_; with_reducible conv => whnf) | (rw [isLst_at (by assumption)]; with_reducible conv => whnf) | (refine ifT rfl ?_; with_reducible conv => whnf) | (refine ifF rfl ?_; with_reducible conv => whnf) | (refine it_at (by assumption) ?_; with_reducible conv => whnf)))
  refine ⟨[1, 2], 3, rfl, by decide, ⟨by decide, by decide, by decide⟩, fun S15 s15 => ?_⟩
  rw [show first (rep (rowN [1, 2] (4 * 3 + 1))) 3 = some (0, 3) by decide +kernel]
  ((with_reducible conv => whnf); repeat (first | (rw [natD_len]; with_reducible conv => whnf) | (rw [intD_len]; with_reducible conv => whnf) | (refine Exists.intro _ (And.intro (rfl : _ = some _) ?_); with_reducible conv => whnf) | (refine And.intro (okII _ _) ?_; rw [eqD_ii]; with_reducible conv => whnf) | (refine And.intro (by first | assumption | exact Exists.intro _ (by assumption) | exact ⟨rfl, rfl, by decide, by decide⟩ | exact Nat.le_of_ble_eq_true rfl | exact rfl) ?_; with_reducible conv => whnf) | (rw [isLst_at (by assumption)]; with_reducible conv => whnf) | (refine ifT rfl ?_; with_reducible conv => whnf) | (refine ifF rfl ?_; with_reducible conv => whnf) | (refine it_at (by assumption) ?_; with_reducible conv => whnf)))
  refine ⟨.tup [.int 0, .int 3], rfl, rfl, rfl, by show max 0 (max 0 0) + 1 ≤ 3; decide, fun S16 s16 => ?_⟩
  ((with_reducible conv => whnf); repeat (first | (rw [natD_len]; with_reducible conv => whnf) | (rw [intD_len]; with_reducible conv => whnf) | (refine Exists.intro _ (And.intro (rfl : _ = some _) ?_); with_reducible conv => whnf) | (refine And.intro (okII _ _) ?_; rw [eqD_ii]; with_reducible conv => whnf) | (refine And.intro (by first | assumption | exact Exists.intro _ (by assumption) | exact ⟨rfl, rfl, by decide, by decide⟩ | exact Nat.le_of_ble_eq_true rfl | exact rfl) ?_; with_reducible conv => whnf) | (rw [isLst_at (by assumption)]; with_reducible conv => whnf) | (refine ifT rfl ?_; with_reducible conv => whnf) | (refine ifF rfl ?_; with_reducible conv => whnf) | (refine it_at (by assumption) ?_; with_reducible conv => whnf)))
  refine ⟨[2, 3], 4, rfl, by decide, ⟨by decide, by decide, by decide⟩, fun S17 s17 => ?_⟩
  rw [show first (rep (rowN [2, 3] (4 * 4 + 1))) 4 = none by decide +kernel]
  ((with_reducible conv => whnf); repeat (first | (rw [natD_len]; with_reducible conv => whnf) | (rw [intD_len]; with_reducible conv => whnf) | (refine Exists.intro _ (And.intro (rfl : _ = some _) ?_); with_reducible conv => whnf) | (refine And.intro (okII _ _) ?_; rw [eqD_ii]; with_reducible conv => whnf) | (refine And.intro (by first | assumption | exact Exists.intro _ (by assumption) | exact ⟨rfl, rfl, by decide, by decide⟩ | exact Nat.le_of_ble_eq_true rfl | exact rfl) ?_; with_reducible conv => whnf) | (rw [isLst_at (by assumption)]; with_reducible conv => whnf) | (refine ifT rfl ?_; with_reducible conv => whnf) | (refine ifF rfl ?_; with_reducible conv => whnf) | (refine it_at (by assumption) ?_; with_reducible conv => whnf)))
  refine ⟨[2, 3], 5, rfl, by decide, ⟨by decide, by decide, by decide⟩, fun S18 s18 => ?_⟩
  rw [show first (rep (rowN [2, 3] (4 * 5 + 1))) 5 = some (0, 5) by decide +kernel]
  ((with_reducible conv => whnf); repeat (first | (rw [natD_len]; with_reducible conv => whnf) | (rw [intD_len]; with_reducible conv => whnf) | (refine Exists.intro _ (And.intro (rfl : _ = some _) ?_); with_reducible conv => whnf) | (refine And.intro (okII _ _) ?_; rw [eqD_ii]; with_reducible conv => whnf) | (refine And.intro (by first | assumption | exact Exists.intro _ (by assumption) | exact ⟨rfl, rfl, by decide, by decide⟩ | exact Nat.le_of_ble_eq_true rfl | exact rfl) ?_; with_reducible conv => whnf) | (rw [isLst_at (by assumption)]; with_reducible conv => whnf) | (refine ifT rfl ?_; with_reducible conv => whnf) | (refine ifF rfl ?_; with_reducible conv => whnf) | (refine it_at (by assumption) ?_; with_reducible conv => whnf)))
  refine ⟨.tup [.int 0, .int 5], rfl, rfl, rfl, by show max 0 (max 0 0) + 1 ≤ 3; decide, fun S19 s19 => ?_⟩
  ((with_reducible conv => whnf); repeat (first | (rw [natD_len]; with_reducible conv => whnf) | (rw [intD_len]; with_reducible conv => whnf) | (refine Exists.intro _ (And.intro (rfl : _ = some _) ?_); with_reducible conv => whnf) | (refine And.intro (okII _ _) ?_; rw [eqD_ii]; with_reducible conv => whnf) | (refine And.intro (by first | assumption | exact Exists.intro _ (by assumption) | exact ⟨rfl, rfl, by decide, by decide⟩ | exact Nat.le_of_ble_eq_true rfl | exact rfl) ?_; with_reducible conv => whnf) | (rw [isLst_at (by assumption)]; with_reducible conv => whnf) | (refine ifT rfl ?_; with_reducible conv => whnf) | (refine ifF rfl ?_; with_reducible conv => whnf) | (refine it_at (by assumption) ?_; with_reducible conv => whnf)))
  refine ⟨2, [2], rfl, by decide, ⟨by decide, by decide, by decide⟩, fun S20 s20 => ?_⟩
  rw [show gameN (2 + 1) [2] = [[], [], [0]] by decide]
  ((with_reducible conv => whnf); repeat (first | (rw [natD_len]; with_reducible conv => whnf) | (rw [intD_len]; with_reducible conv => whnf) | (refine Exists.intro _ (And.intro (rfl : _ = some _) ?_); with_reducible conv => whnf) | (refine And.intro (okII _ _) ?_; rw [eqD_ii]; with_reducible conv => whnf) | (refine And.intro (by first | assumption | exact Exists.intro _ (by assumption) | exact ⟨rfl, rfl, by decide, by decide⟩ | exact Nat.le_of_ble_eq_true rfl | exact rfl) ?_; with_reducible conv => whnf) | (rw [isLst_at (by assumption)]; with_reducible conv => whnf) | (refine ifT rfl ?_; with_reducible conv => whnf) | (refine ifF rfl ?_; with_reducible conv => whnf) | (refine it_at (by assumption) ?_; with_reducible conv => whnf)))
  refine ⟨.tup [.tup [], .tup [], .tup [.int 0]], rfl, rfl, rfl, by show max (0 + 1) (max (0 + 1) (max (max 0 0 + 1) 0)) + 1 ≤ 3; decide, fun S21 s21 => ?_⟩
  ((with_reducible conv => whnf); repeat (first | (rw [natD_len]; with_reducible conv => whnf) | (rw [intD_len]; with_reducible conv => whnf) | (refine Exists.intro _ (And.intro (rfl : _ = some _) ?_); with_reducible conv => whnf) | (refine And.intro (okII _ _) ?_; rw [eqD_ii]; with_reducible conv => whnf) | (refine And.intro (by first | assumption | exact Exists.intro _ (by assumption) | exact ⟨rfl, rfl, by decide, by decide⟩ | exact Nat.le_of_ble_eq_true rfl | exact rfl) ?_; with_reducible conv => whnf) | (rw [isLst_at (by assumption)]; with_reducible conv => whnf) | (refine ifT rfl ?_; with_reducible conv => whnf) | (refine ifF rfl ?_; with_reducible conv => whnf) | (refine it_at (by assumption) ?_; with_reducible conv => whnf)))
  refine ⟨[1], 2, rfl, by decide, ⟨by decide, by decide, by decide⟩, fun S22 s22 => ?_⟩
  rw [show first (rep (rowN [1] (4 * 2 + 1))) 2 = some (0, 2) by decide +kernel]
  ((with_reducible conv => whnf); repeat (first | (rw [natD_len]; with_reducible conv => whnf) | (rw [intD_len]; with_reducible conv => whnf) | (refine Exists.intro _ (And.intro (rfl : _ = some _) ?_); with_reducible conv => whnf) | (refine And.intro (okII _ _) ?_; rw [eqD_ii]; with_reducible conv => whnf) | (refine And.intro (by first | assumption | exact Exists.intro _ (by assumption) | exact ⟨rfl, rfl, by decide, by decide⟩ | exact Nat.le_of_ble_eq_true rfl | exact rfl) ?_; with_reducible conv => whnf) | (rw [isLst_at (by assumption)]; with_reducible conv => whnf) | (refine ifT rfl ?_; with_reducible conv => whnf) | (refine ifF rfl ?_; with_reducible conv => whnf) | (refine it_at (by assumption) ?_; with_reducible conv => whnf)))
  exact ⟨.tup [.int 0, .int 2], rfl, rfl, rfl, by show max 0 (max 0 0) + 1 ≤ 3; decide, fun S23 s23 => kk _⟩
theorem body_law : Body 10 1 (w_law sp_draws sp_cell sp_small sp_great sp_take sp_some (sp_same 3) sp_row sp_nums sp_again sp_again sp_move sp_loses) sp_law := by
  rintro ds S Q _ ⟨ns, rfl, hl, kk⟩
  unfold w_law
  (simp only [start, List.map_cons, List.map_nil, List.length_cons, List.length_nil, Nat.reduceAdd, Nat.reduceSub, List.replicate_succ, List.replicate_zero, List.cons_append, List.nil_append, Nat.sub_self, Nat.zero_add])
  ((with_reducible conv => whnf); repeat (first | (rw [natD_len]; with_reducible conv => whnf) | (rw [intD_len]; with_reducible conv => whnf) | (refine Exists.intro _ (And.intro (rfl : _ = some _) ?_); with_reducible conv => whnf) | (refine And.intro (okII _ _) ?_; rw [eqD_ii]; with_reducible conv => whnf) | (refine And.intro (by first | assumption | exact Exists.intro _ (by assumption) | exact ⟨rfl, rfl, by decide, by decide⟩ | exact Nat.le_of_ble_eq_true rfl | exact rfl) ?_; with_reducible conv => whnf) | (rw [isLst_at (by assumption)]; with_reducible conv => whnf) | (refine ifT rfl ?_; with_reducible conv => whnf) | (refine ifF rfl ?_; with_reducible conv => whnf) | (refine it_at (by assumption) ?_; with_reducible conv => whnf)))
  refine ⟨ns, 120, rfl, hl, by decide, by decide, fun n S1 d1 s1 l1 => ?_⟩
  ((with_reducible conv => whnf); repeat (first | (rw [natD_len]; with_reducible conv => whnf) | (rw [intD_len]; with_reducible conv => whnf) | (refine Exists.intro _ (And.intro (rfl : _ = some _) ?_); with_reducible conv => whnf) | (refine And.intro (okII _ _) ?_; rw [eqD_ii]; with_reducible conv => whnf) | (refine And.intro (by first | assumption | exact Exists.intro _ (by assumption) | exact ⟨rfl, rfl, by decide, by decide⟩ | exact Nat.le_of_ble_eq_true rfl | exact rfl) ?_; with_reducible conv => whnf) | (rw [isLst_at (by assumption)]; with_reducible conv => whnf) | (refine ifT rfl ?_; with_reducible conv => whnf) | (refine ifF rfl ?_; with_reducible conv => whnf) | (refine it_at (by assumption) ?_; with_reducible conv => whnf)))
  refine ⟨ns, n, rfl, hl, d1, fun x S2 d2 c2 => ?_⟩
  ((with_reducible conv => whnf); repeat (first | (rw [natD_len]; with_reducible conv => whnf) | (rw [intD_len]; with_reducible conv => whnf) | (refine Exists.intro _ (And.intro (rfl : _ = some _) ?_); with_reducible conv => whnf) | (refine And.intro (okII _ _) ?_; rw [eqD_ii]; with_reducible conv => whnf) | (refine And.intro (by first | assumption | exact Exists.intro _ (by assumption) | exact ⟨rfl, rfl, by decide, by decide⟩ | exact Nat.le_of_ble_eq_true rfl | exact rfl) ?_; with_reducible conv => whnf) | (rw [isLst_at (by assumption)]; with_reducible conv => whnf) | (refine ifT rfl ?_; with_reducible conv => whnf) | (refine ifF rfl ?_; with_reducible conv => whnf) | (refine it_at (by assumption) ?_; with_reducible conv => whnf)))
  refine ⟨⟨by decide, by decide, by decide⟩, ?_⟩
  ((with_reducible conv => whnf); repeat (first | (rw [natD_len]; with_reducible conv => whnf) | (rw [intD_len]; with_reducible conv => whnf) | (refine Exists.intro _ (And.intro (rfl : _ = some _) ?_); with_reducible conv => whnf) | (refine And.intro (okII _ _) ?_; rw [eqD_ii]; with_reducible conv => whnf) | (refine And.intro (by first | assumption | exact Exists.intro _ (by assumption) | exact ⟨rfl, rfl, by decide, by decide⟩ | exact Nat.le_of_ble_eq_true rfl | exact rfl) ?_; with_reducible conv => whnf) | (rw [isLst_at (by assumption)]; with_reducible conv => whnf) | (refine ifT rfl ?_; with_reducible conv => whnf) | (refine ifF rfl ?_; with_reducible conv => whnf) | (refine it_at (by assumption) ?_; with_reducible conv => whnf)))
  refine ⟨by decide, ?_⟩
  have h1060 : (10 : Int) ^ (60 : Int).toNat = ((10 ^ 60 : Nat) : Int) := by decide
  obtain ⟨c, hc, hc2⟩ : ∃ c : Nat, ((x.natAbs : Nat) : Int).fmod (10 ^ (60 : Int).toNat) = c ∧ c < 2 ^ 250 := by
    rw [h1060]
    have h60 : 0 < ((10 ^ 60 : Nat) : Int) := by decide
    obtain ⟨a, b⟩ := fmod_lt (a := ((x.natAbs : Nat) : Int)) h60
    have h3 : (10 : Nat) ^ 60 < 2 ^ 250 := by decide +kernel
    exact ⟨(((x.natAbs : Nat) : Int).fmod ((10 ^ 60 : Nat) : Int)).toNat, by omega, by omega⟩
  rw [hc]
  ((with_reducible conv => whnf); repeat (first | (rw [natD_len]; with_reducible conv => whnf) | (rw [intD_len]; with_reducible conv => whnf) | (refine Exists.intro _ (And.intro (rfl : _ = some _) ?_); with_reducible conv => whnf) | (refine And.intro (okII _ _) ?_; rw [eqD_ii]; with_reducible conv => whnf) | (refine And.intro (by first | assumption | exact Exists.intro _ (by assumption) | exact ⟨rfl, rfl, by decide, by decide⟩ | exact Nat.le_of_ble_eq_true rfl | exact rfl) ?_; with_reducible conv => whnf) | (rw [isLst_at (by assumption)]; with_reducible conv => whnf) | (refine ifT rfl ?_; with_reducible conv => whnf) | (refine ifF rfl ?_; with_reducible conv => whnf) | (refine it_at (by assumption) ?_; with_reducible conv => whnf)))
  refine ⟨n, rfl, d2, fun S3 d3 c3 => ?_⟩
  ((with_reducible conv => whnf); repeat (first | (rw [natD_len]; with_reducible conv => whnf) | (rw [intD_len]; with_reducible conv => whnf) | (refine Exists.intro _ (And.intro (rfl : _ = some _) ?_); with_reducible conv => whnf) | (refine And.intro (okII _ _) ?_; rw [eqD_ii]; with_reducible conv => whnf) | (refine And.intro (by first | assumption | exact Exists.intro _ (by assumption) | exact ⟨rfl, rfl, by decide, by decide⟩ | exact Nat.le_of_ble_eq_true rfl | exact rfl) ?_; with_reducible conv => whnf) | (rw [isLst_at (by assumption)]; with_reducible conv => whnf) | (refine ifT rfl ?_; with_reducible conv => whnf) | (refine ifF rfl ?_; with_reducible conv => whnf) | (refine it_at (by assumption) ?_; with_reducible conv => whnf)))
  refine ⟨n, rfl, d3, fun S4 d4 c4 => ?_⟩
  ((with_reducible conv => whnf); repeat (first | (rw [natD_len]; with_reducible conv => whnf) | (rw [intD_len]; with_reducible conv => whnf) | (refine Exists.intro _ (And.intro (rfl : _ = some _) ?_); with_reducible conv => whnf) | (refine And.intro (okII _ _) ?_; rw [eqD_ii]; with_reducible conv => whnf) | (refine And.intro (by first | assumption | exact Exists.intro _ (by assumption) | exact ⟨rfl, rfl, by decide, by decide⟩ | exact Nat.le_of_ble_eq_true rfl | exact rfl) ?_; with_reducible conv => whnf) | (rw [isLst_at (by assumption)]; with_reducible conv => whnf) | (refine ifT rfl ?_; with_reducible conv => whnf) | (refine ifF rfl ?_; with_reducible conv => whnf) | (refine it_at (by assumption) ?_; with_reducible conv => whnf)))
  refine ⟨n, c, rfl, hc2, d4, fun S5 d5 c5 => ?_⟩
  ((with_reducible conv => whnf); repeat (first | (rw [natD_len]; with_reducible conv => whnf) | (rw [intD_len]; with_reducible conv => whnf) | (refine Exists.intro _ (And.intro (rfl : _ = some _) ?_); with_reducible conv => whnf) | (refine And.intro (okII _ _) ?_; rw [eqD_ii]; with_reducible conv => whnf) | (refine And.intro (by first | assumption | exact Exists.intro _ (by assumption) | exact ⟨rfl, rfl, by decide, by decide⟩ | exact Nat.le_of_ble_eq_true rfl | exact rfl) ?_; with_reducible conv => whnf) | (rw [isLst_at (by assumption)]; with_reducible conv => whnf) | (refine ifT rfl ?_; with_reducible conv => whnf) | (refine ifF rfl ?_; with_reducible conv => whnf) | (refine it_at (by assumption) ?_; with_reducible conv => whnf)))
  refine ⟨n, 4, rfl, by decide, d5, fun z S6 z0 z1 d6 c6 => ?_⟩
  ((with_reducible conv => whnf); repeat (first | (rw [natD_len]; with_reducible conv => whnf) | (rw [intD_len]; with_reducible conv => whnf) | (refine Exists.intro _ (And.intro (rfl : _ = some _) ?_); with_reducible conv => whnf) | (refine And.intro (okII _ _) ?_; rw [eqD_ii]; with_reducible conv => whnf) | (refine And.intro (by first | assumption | exact Exists.intro _ (by assumption) | exact ⟨rfl, rfl, by decide, by decide⟩ | exact Nat.le_of_ble_eq_true rfl | exact rfl) ?_; with_reducible conv => whnf) | (rw [isLst_at (by assumption)]; with_reducible conv => whnf) | (refine ifT rfl ?_; with_reducible conv => whnf) | (refine ifF rfl ?_; with_reducible conv => whnf) | (refine it_at (by assumption) ?_; with_reducible conv => whnf)))
  refine ⟨⟨by omega, by omega⟩, ?_⟩
  refine ⟨by rw [rangeD_len]; unfold szL; omega, fun i acc S' => ∃ hs : List Nat, acc = natD hs ∧ hs.length = i ∧ (∀ x ∈ hs, 0 < x ∧ x < 10) ∧ Dr n S', ⟨[], rfl, rfl, by simp, d6⟩, by intros; trivial, ?_, ?_⟩
  · rintro i d acc S' hi ⟨hs, rfl, h1, h2, h3⟩
    ((with_reducible conv => whnf); repeat (first | (rw [natD_len]; with_reducible conv => whnf) | (rw [intD_len]; with_reducible conv => whnf) | (refine Exists.intro _ (And.intro (rfl : _ = some _) ?_); with_reducible conv => whnf) | (refine And.intro (okII _ _) ?_; rw [eqD_ii]; with_reducible conv => whnf) | (refine And.intro (by first | assumption | exact Exists.intro _ (by assumption) | exact ⟨rfl, rfl, by decide, by decide⟩ | exact Nat.le_of_ble_eq_true rfl | exact rfl) ?_; with_reducible conv => whnf) | (rw [isLst_at (by assumption)]; with_reducible conv => whnf) | (refine ifT rfl ?_; with_reducible conv => whnf) | (refine ifF rfl ?_; with_reducible conv => whnf) | (refine it_at (by assumption) ?_; with_reducible conv => whnf)))
    refine ⟨n, 9, rfl, by decide, h3, fun y S8 y0 y1 d8 c8 => ?_⟩
    ((with_reducible conv => whnf); repeat (first | (rw [natD_len]; with_reducible conv => whnf) | (rw [intD_len]; with_reducible conv => whnf) | (refine Exists.intro _ (And.intro (rfl : _ = some _) ?_); with_reducible conv => whnf) | (refine And.intro (okII _ _) ?_; rw [eqD_ii]; with_reducible conv => whnf) | (refine And.intro (by first | assumption | exact Exists.intro _ (by assumption) | exact ⟨rfl, rfl, by decide, by decide⟩ | exact Nat.le_of_ble_eq_true rfl | exact rfl) ?_; with_reducible conv => whnf) | (rw [isLst_at (by assumption)]; with_reducible conv => whnf) | (refine ifT rfl ?_; with_reducible conv => whnf) | (refine ifF rfl ?_; with_reducible conv => whnf) | (refine it_at (by assumption) ?_; with_reducible conv => whnf)))
    refine ⟨hs ++ [(1 + y).toNat], ?_, by rw [List.length_append, h1]; rfl, fun x m => ?_, d8⟩
    · rw [← natD_app, show (1 : Int) + y = (((1 + y).toNat : Nat) : Int) by omega]
      rfl
    · rcases List.mem_append.mp m with m | m
      · exact h2 x m
      · rw [List.mem_singleton.mp m]; omega
  rintro acc S7 ⟨hs, rfl, h1, h2, d7⟩
  rw [rangeD_len] at h1
  have e7 := at_push S7 (.lst (natD hs))
  have d8 := d7.app [.lst (natD hs)]
  ((with_reducible conv => whnf); repeat (first | (rw [natD_len]; with_reducible conv => whnf) | (rw [intD_len]; with_reducible conv => whnf) | (refine Exists.intro _ (And.intro (rfl : _ = some _) ?_); with_reducible conv => whnf) | (refine And.intro (okII _ _) ?_; rw [eqD_ii]; with_reducible conv => whnf) | (refine And.intro (by first | assumption | exact Exists.intro _ (by assumption) | exact ⟨rfl, rfl, by decide, by decide⟩ | exact Nat.le_of_ble_eq_true rfl | exact rfl) ?_; with_reducible conv => whnf) | (rw [isLst_at (by assumption)]; with_reducible conv => whnf) | (refine ifT rfl ?_; with_reducible conv => whnf) | (refine ifF rfl ?_; with_reducible conv => whnf) | (refine it_at (by assumption) ?_; with_reducible conv => whnf)))
  generalize S7 ++ [.lst (natD hs)] = S8 at *
  refine ⟨_, by show (match S8[S7.length]? with | some (.lst xs) => some xs | _ => none) = _; rw [e7], by rw [List.length_map]; omega, fun ms pw mem => ?_⟩
  obtain ⟨steps, rfl⟩ : ∃ steps : List Nat, ms = steps.map fun (k : Nat) => (k : Int) := by
    refine ⟨ms.map Int.toNat, ?_⟩
    rw [List.map_map]
    conv => lhs; rw [← List.map_id ms]
    apply List.map_congr_left
    intro x hx
    obtain ⟨y, hy, e⟩ := List.mem_map.mp ((mem x).mp hx)
    show x = ((x.toNat : Nat) : Int)
    omega
  have hmem : ∀ x ∈ steps, 0 < x ∧ x < 10 := fun x hx => by
    obtain ⟨y, hy, e⟩ := List.mem_map.mp ((mem (x : Int)).mp (List.mem_map.mpr ⟨x, hx, rfl⟩))
    have := h2 y hy
    omega
  have hasc : steps.Pairwise (· < ·) := by
    rw [List.pairwise_map] at pw
    exact pw.imp fun {a b} h => by omega
  have hst : Stp steps := ⟨hasc, fun x hx => (hmem x hx).1, by
    have hnd : steps.Nodup := hasc.imp fun {a b} h => by omega
    have := hnd.length_le_of_subset (l₂ := List.range 10) fun x hx => List.mem_range.mpr (hmem x hx).2
    rw [List.length_range] at this
    omega⟩
  have e8 := at_push S8 (.lst (natD steps))
  have d9 := d8.app [.lst (natD steps)]
  ((with_reducible conv => whnf); repeat (first | (rw [natD_len]; with_reducible conv => whnf) | (rw [intD_len]; with_reducible conv => whnf) | (refine Exists.intro _ (And.intro (rfl : _ = some _) ?_); with_reducible conv => whnf) | (refine And.intro (okII _ _) ?_; rw [eqD_ii]; with_reducible conv => whnf) | (refine And.intro (by first | assumption | exact Exists.intro _ (by assumption) | exact ⟨rfl, rfl, by decide, by decide⟩ | exact Nat.le_of_ble_eq_true rfl | exact rfl) ?_; with_reducible conv => whnf) | (rw [isLst_at (by assumption)]; with_reducible conv => whnf) | (refine ifT rfl ?_; with_reducible conv => whnf) | (refine ifF rfl ?_; with_reducible conv => whnf) | (refine it_at (by assumption) ?_; with_reducible conv => whnf)))
  generalize S8 ++ [.lst (natD steps)] = S9 at *
  refine ⟨n, 61, rfl, by decide, d9, fun m S10 m0 m1 d10 c10 => ?_⟩
  obtain ⟨m, rfl⟩ : ∃ k : Nat, m = k := ⟨m.toNat, by omega⟩
  ((with_reducible conv => whnf); repeat (first | (rw [natD_len]; with_reducible conv => whnf) | (rw [intD_len]; with_reducible conv => whnf) | (refine Exists.intro _ (And.intro (rfl : _ = some _) ?_); with_reducible conv => whnf) | (refine And.intro (okII _ _) ?_; rw [eqD_ii]; with_reducible conv => whnf) | (refine And.intro (by first | assumption | exact Exists.intro _ (by assumption) | exact ⟨rfl, rfl, by decide, by decide⟩ | exact Nat.le_of_ble_eq_true rfl | exact rfl) ?_; with_reducible conv => whnf) | (rw [isLst_at (by assumption)]; with_reducible conv => whnf) | (refine ifT rfl ?_; with_reducible conv => whnf) | (refine ifF rfl ?_; with_reducible conv => whnf) | (refine it_at (by assumption) ?_; with_reducible conv => whnf)))
  refine ⟨⟨by omega, by omega⟩, ?_⟩
  rw [show (m : Int) + 1 = ((m + 1 : Nat) : Int) by omega]
  have h50 := hst.len
  refine Lc_rm (fun st => ordD (goTo st steps)) (by unfold szL; omega) (by intros; trivial) (fun st S1 R hs h1 hR => ?_) fun S11 s11 => ?_
  · (with_reducible conv => whnf)
    refine ifT rfl ?_
    (with_reducible conv => whnf)
    rw [natD_map steps]
    refine Lc_lf (xs := steps) (e := fun (t : Nat) => D.int (t : Int)) (fun x => decide (x ≤ st)) (fun x => .int ((st - x : Nat) : Int)) (by unfold szL; omega) (by intros; trivial) (fun x S2 R2 m h hR2 => ?_) fun S2 s2 => ?_
    · ((with_reducible conv => whnf); repeat (first | (rw [natD_len]; with_reducible conv => whnf) | (rw [intD_len]; with_reducible conv => whnf) | (refine Exists.intro _ (And.intro (rfl : _ = some _) ?_); with_reducible conv => whnf) | (refine And.intro (okII _ _) ?_; rw [eqD_ii]; with_reducible conv => whnf) | (refine And.intro (by first | assumption | exact Exists.intro _ (by assumption) | exact ⟨rfl, rfl, by decide, by decide⟩ | exact Nat.le_of_ble_eq_true rfl | exact rfl) ?_; with_reducible conv => whnf) | (rw [isLst_at (by assumption)]; with_reducible conv => whnf) | (refine ifT rfl ?_; with_reducible conv => whnf) | (refine ifF rfl ?_; with_reducible conv => whnf) | (refine it_at (by assumption) ?_; with_reducible conv => whnf)))
      have := hR2 S2 (Sub.refl _)
      refine ite_d (fun hc => ?_) fun hc => ?_
      · rw [if_pos (decide_eq_true (by omega))] at this
        ((with_reducible conv => whnf); repeat (first | (rw [natD_len]; with_reducible conv => whnf) | (rw [intD_len]; with_reducible conv => whnf) | (refine Exists.intro _ (And.intro (rfl : _ = some _) ?_); with_reducible conv => whnf) | (refine And.intro (okII _ _) ?_; rw [eqD_ii]; with_reducible conv => whnf) | (refine And.intro (by first | assumption | exact Exists.intro _ (by assumption) | exact ⟨rfl, rfl, by decide, by decide⟩ | exact Nat.le_of_ble_eq_true rfl | exact rfl) ?_; with_reducible conv => whnf) | (rw [isLst_at (by assumption)]; with_reducible conv => whnf) | (refine ifT rfl ?_; with_reducible conv => whnf) | (refine ifF rfl ?_; with_reducible conv => whnf) | (refine it_at (by assumption) ?_; with_reducible conv => whnf)))
        rw [show (st : Int) - x = ((st - x : Nat) : Int) by omega]
        exact this
      · rw [if_neg (by rw [decide_eq_true_eq]; omega)] at this
        exact this
    have em2 : (steps.filter fun x => decide (x ≤ st)).map (fun x => D.int ((st - x : Nat) : Int)) = natD ((steps.filter fun x => decide (x ≤ st)).map fun x => st - x) := natD_mapL _ _
    rw [em2]
    have e2 := at_push S2 (.lst (natD ((steps.filter fun x => decide (x ≤ st)).map fun x => st - x)))
    have s3 := s2.app [.lst (natD ((steps.filter fun x => decide (x ≤ st)).map fun x => st - x))]
    ((with_reducible conv => whnf); repeat (first | (rw [natD_len]; with_reducible conv => whnf) | (rw [intD_len]; with_reducible conv => whnf) | (refine Exists.intro _ (And.intro (rfl : _ = some _) ?_); with_reducible conv => whnf) | (refine And.intro (okII _ _) ?_; rw [eqD_ii]; with_reducible conv => whnf) | (refine And.intro (by first | assumption | exact Exists.intro _ (by assumption) | exact ⟨rfl, rfl, by decide, by decide⟩ | exact Nat.le_of_ble_eq_true rfl | exact rfl) ?_; with_reducible conv => whnf) | (rw [isLst_at (by assumption)]; with_reducible conv => whnf) | (refine ifT rfl ?_; with_reducible conv => whnf) | (refine ifF rfl ?_; with_reducible conv => whnf) | (refine it_at (by assumption) ?_; with_reducible conv => whnf)))
    refine ⟨sortOk_int _, fun ys hp hw => ?_⟩
    rw [sort_goTo hst hp hw]
    have e3 := at_push (S2 ++ [.lst (natD ((steps.filter fun x => decide (x ≤ st)).map fun x => st - x))]) (.lst (natD (goTo st steps)))
    have s4 := s3.app [.lst (natD (goTo st steps))]
    ((with_reducible conv => whnf); repeat (first | (rw [natD_len]; with_reducible conv => whnf) | (rw [intD_len]; with_reducible conv => whnf) | (refine Exists.intro _ (And.intro (rfl : _ = some _) ?_); with_reducible conv => whnf) | (refine And.intro (okII _ _) ?_; rw [eqD_ii]; with_reducible conv => whnf) | (refine And.intro (by first | assumption | exact Exists.intro _ (by assumption) | exact ⟨rfl, rfl, by decide, by decide⟩ | exact Nat.le_of_ble_eq_true rfl | exact rfl) ?_; with_reducible conv => whnf) | (rw [isLst_at (by assumption)]; with_reducible conv => whnf) | (refine ifT rfl ?_; with_reducible conv => whnf) | (refine ifF rfl ?_; with_reducible conv => whnf) | (refine it_at (by assumption) ?_; with_reducible conv => whnf)))
    exact hR _ s4
  have em : (List.range (m + 1)).map (fun st => ordD (goTo st steps)) = (gameN (m + 1) steps).map ordD := by unfold gameN; rw [List.map_map]; rfl
  rw [em]
  have e11 := at_push S11 (.lst ((gameN (m + 1) steps).map ordD))
  have d11 := (d10.sub s11).app [.lst ((gameN (m + 1) steps).map ordD)]
  ((with_reducible conv => whnf); repeat (first | (rw [natD_len]; with_reducible conv => whnf) | (rw [intD_len]; with_reducible conv => whnf) | (refine Exists.intro _ (And.intro (rfl : _ = some _) ?_); with_reducible conv => whnf) | (refine And.intro (okII _ _) ?_; rw [eqD_ii]; with_reducible conv => whnf) | (refine And.intro (by first | assumption | exact Exists.intro _ (by assumption) | exact ⟨rfl, rfl, by decide, by decide⟩ | exact Nat.le_of_ble_eq_true rfl | exact rfl) ?_; with_reducible conv => whnf) | (rw [isLst_at (by assumption)]; with_reducible conv => whnf) | (refine ifT rfl ?_; with_reducible conv => whnf) | (refine ifF rfl ?_; with_reducible conv => whnf) | (refine it_at (by assumption) ?_; with_reducible conv => whnf)))
  generalize S11 ++ [.lst ((gameN (m + 1) steps).map ordD)] = S12 at *
  refine ⟨m, steps, rfl, by omega, hst, fun S13 s13 => ?_⟩
  ((with_reducible conv => whnf); repeat (first | (rw [natD_len]; with_reducible conv => whnf) | (rw [intD_len]; with_reducible conv => whnf) | (refine Exists.intro _ (And.intro (rfl : _ = some _) ?_); with_reducible conv => whnf) | (refine And.intro (okII _ _) ?_; rw [eqD_ii]; with_reducible conv => whnf) | (refine And.intro (by first | assumption | exact Exists.intro _ (by assumption) | exact ⟨rfl, rfl, by decide, by decide⟩ | exact Nat.le_of_ble_eq_true rfl | exact rfl) ?_; with_reducible conv => whnf) | (rw [isLst_at (by assumption)]; with_reducible conv => whnf) | (refine ifT rfl ?_; with_reducible conv => whnf) | (refine ifF rfl ?_; with_reducible conv => whnf) | (refine it_at (by assumption) ?_; with_reducible conv => whnf)))
  obtain ⟨w1, w2, w3⟩ := same_game (gameN (m + 1) steps) (by rw [gameN_len]; omega) (fun o ho => by
    obtain ⟨st, _, rfl⟩ := List.mem_map.mp ho
    have := goTo_len st steps
    omega)
  refine ⟨_, rfl, w1, w2, w3, fun S14 s14 => ?_⟩
  ((with_reducible conv => whnf); repeat (first | (rw [natD_len]; with_reducible conv => whnf) | (rw [intD_len]; with_reducible conv => whnf) | (refine Exists.intro _ (And.intro (rfl : _ = some _) ?_); with_reducible conv => whnf) | (refine And.intro (okII _ _) ?_; rw [eqD_ii]; with_reducible conv => whnf) | (refine And.intro (by first | assumption | exact Exists.intro _ (by assumption) | exact ⟨rfl, rfl, by decide, by decide⟩ | exact Nat.le_of_ble_eq_true rfl | exact rfl) ?_; with_reducible conv => whnf) | (rw [isLst_at (by assumption)]; with_reducible conv => whnf) | (refine ifT rfl ?_; with_reducible conv => whnf) | (refine ifF rfl ?_; with_reducible conv => whnf) | (refine it_at (by assumption) ?_; with_reducible conv => whnf)))
  refine ⟨_, rfl, by rw [gameN_len]; omega, game_ok hst, fun S15 s15 => ?_⟩
  rw [gameN_len, rowN_nums steps _ _ (Nat.le_refl _)]
  ((with_reducible conv => whnf); repeat (first | (rw [natD_len]; with_reducible conv => whnf) | (rw [intD_len]; with_reducible conv => whnf) | (refine Exists.intro _ (And.intro (rfl : _ = some _) ?_); with_reducible conv => whnf) | (refine And.intro (okII _ _) ?_; rw [eqD_ii]; with_reducible conv => whnf) | (refine And.intro (by first | assumption | exact Exists.intro _ (by assumption) | exact ⟨rfl, rfl, by decide, by decide⟩ | exact Nat.le_of_ble_eq_true rfl | exact rfl) ?_; with_reducible conv => whnf) | (rw [isLst_at (by assumption)]; with_reducible conv => whnf) | (refine ifT rfl ?_; with_reducible conv => whnf) | (refine ifF rfl ?_; with_reducible conv => whnf) | (refine it_at (by assumption) ?_; with_reducible conv => whnf)))
  refine ⟨steps, m + 1, rfl, by omega, hst, fun p S16 hp16 e16 s16 => ?_⟩
  ((with_reducible conv => whnf); repeat (first | (rw [natD_len]; with_reducible conv => whnf) | (rw [intD_len]; with_reducible conv => whnf) | (refine Exists.intro _ (And.intro (rfl : _ = some _) ?_); with_reducible conv => whnf) | (refine And.intro (okII _ _) ?_; rw [eqD_ii]; with_reducible conv => whnf) | (refine And.intro (by first | assumption | exact Exists.intro _ (by assumption) | exact ⟨rfl, rfl, by decide, by decide⟩ | exact Nat.le_of_ble_eq_true rfl | exact rfl) ?_; with_reducible conv => whnf) | (rw [isLst_at (by assumption)]; with_reducible conv => whnf) | (refine ifT rfl ?_; with_reducible conv => whnf) | (refine ifF rfl ?_; with_reducible conv => whnf) | (refine it_at (by assumption) ?_; with_reducible conv => whnf)))
  obtain ⟨w1, w2, w3⟩ := same_ord (rowN steps (m + 1)) (by rw [rowN_len]; omega)
  refine ⟨_, rfl, w1, w2, w3, fun S17 s17 => ?_⟩
  exact law_B hst (fun x hx => (hmem x hx).2) kk (d11.sub ((s13.trans s14).trans ((s15.trans s16).trans s17)))
end K79
set_option Elab.async false
set_option linter.all false
set_option maxRecDepth 100000
set_option maxHeartbeats 8000000
/-! the end: oddsweighed_k79_heaps_and_what_may_be_ta -/
namespace K79
open PySem PySem.Spec DL
theorem all_mk {l : PySem.W.OpenLaw} {w : World} {K : PySem.W.Frag} {h : Heap} {mg : Str → Option Value} {fa f_least_missing f_numbers_of f_added_two f_added f_heaps_move f_last_loses f_take_some f_repeats f_comes_again f_law_draws f_law_take f_law_cell f_law_same f_law_binary f_law_without_carrying f_law_won f_law_small f_law_great f_law_row f_law_again f_law : Addr} (X : K.In h) (G : h.Ns mainGlobals mg) (hfa : mg "law" = some (.ref fa))
    {od_least_missing an_least_missing : Option Addr} {sl_least_missing : Array (Option Value)} {oc_least_missing kV_least_missing dc_least_missing pm_least_missing cd_least_missing ct_least_missing : Value}
    (a_least_missing : PySem.W.nsIn K mainGlobals "least_missing" = some (some (.ref f_least_missing))) (l_least_missing : K.lookup f_least_missing = some ⟨oc_least_missing, od_least_missing, .func (PySem.W.fnOf "least_missing" "least_missing" (L2.defArgs s_least_missing) (L2.defBody s_least_missing) (L2.defScope s_least_missing) .none kV_least_missing dc_least_missing pm_least_missing an_least_missing cd_least_missing ct_least_missing), sl_least_missing⟩) (c_least_missing : PySem.W.codeIn K cd_least_missing "least_missing" = true) (k_least_missing : PySem.W.keepIn K (.ref f_least_missing) = true)
    {od_numbers_of an_numbers_of : Option Addr} {sl_numbers_of : Array (Option Value)} {oc_numbers_of kV_numbers_of dc_numbers_of pm_numbers_of cd_numbers_of ct_numbers_of : Value}
    (a_numbers_of : PySem.W.nsIn K mainGlobals "numbers_of" = some (some (.ref f_numbers_of))) (l_numbers_of : K.lookup f_numbers_of = some ⟨oc_numbers_of, od_numbers_of, .func (PySem.W.fnOf "numbers_of" "numbers_of" (L2.defArgs s_numbers_of) (L2.defBody s_numbers_of) (L2.defScope s_numbers_of) .none kV_numbers_of dc_numbers_of pm_numbers_of an_numbers_of cd_numbers_of ct_numbers_of), sl_numbers_of⟩) (c_numbers_of : PySem.W.codeIn K cd_numbers_of "numbers_of" = true) (k_numbers_of : PySem.W.keepIn K (.ref f_numbers_of) = true)
    {od_added_two an_added_two : Option Addr} {sl_added_two : Array (Option Value)} {oc_added_two kV_added_two dc_added_two pm_added_two cd_added_two ct_added_two : Value}
    (a_added_two : PySem.W.nsIn K mainGlobals "added_two" = some (some (.ref f_added_two))) (l_added_two : K.lookup f_added_two = some ⟨oc_added_two, od_added_two, .func (PySem.W.fnOf "added_two" "added_two" (L2.defArgs s_added_two) (L2.defBody s_added_two) (L2.defScope s_added_two) .none kV_added_two dc_added_two pm_added_two an_added_two cd_added_two ct_added_two), sl_added_two⟩) (c_added_two : PySem.W.codeIn K cd_added_two "added_two" = true) (k_added_two : PySem.W.keepIn K (.ref f_added_two) = true)
    {od_added an_added : Option Addr} {sl_added : Array (Option Value)} {oc_added kV_added dc_added pm_added cd_added ct_added : Value}
    (a_added : PySem.W.nsIn K mainGlobals "added" = some (some (.ref f_added))) (l_added : K.lookup f_added = some ⟨oc_added, od_added, .func (PySem.W.fnOf "added" "added" (L2.defArgs s_added) (L2.defBody s_added) (L2.defScope s_added) .none kV_added dc_added pm_added an_added cd_added ct_added), sl_added⟩) (c_added : PySem.W.codeIn K cd_added "added" = true) (k_added : PySem.W.keepIn K (.ref f_added) = true)
    {od_heaps_move an_heaps_move : Option Addr} {sl_heaps_move : Array (Option Value)} {oc_heaps_move kV_heaps_move dc_heaps_move pm_heaps_move cd_heaps_move ct_heaps_move : Value}
    (a_heaps_move : PySem.W.nsIn K mainGlobals "heaps_move" = some (some (.ref f_heaps_move))) (l_heaps_move : K.lookup f_heaps_move = some ⟨oc_heaps_move, od_heaps_move, .func (PySem.W.fnOf "heaps_move" "heaps_move" (L2.defArgs s_heaps_move) (L2.defBody s_heaps_move) (L2.defScope s_heaps_move) .none kV_heaps_move dc_heaps_move pm_heaps_move an_heaps_move cd_heaps_move ct_heaps_move), sl_heaps_move⟩) (c_heaps_move : PySem.W.codeIn K cd_heaps_move "heaps_move" = true) (k_heaps_move : PySem.W.keepIn K (.ref f_heaps_move) = true)
    {od_last_loses an_last_loses : Option Addr} {sl_last_loses : Array (Option Value)} {oc_last_loses kV_last_loses dc_last_loses pm_last_loses cd_last_loses ct_last_loses : Value}
    (a_last_loses : PySem.W.nsIn K mainGlobals "last_loses" = some (some (.ref f_last_loses))) (l_last_loses : K.lookup f_last_loses = some ⟨oc_last_loses, od_last_loses, .func (PySem.W.fnOf "last_loses" "last_loses" (L2.defArgs s_last_loses) (L2.defBody s_last_loses) (L2.defScope s_last_loses) .none kV_last_loses dc_last_loses pm_last_loses an_last_loses cd_last_loses ct_last_loses), sl_last_loses⟩) (c_last_loses : PySem.W.codeIn K cd_last_loses "last_loses" = true) (k_last_loses : PySem.W.keepIn K (.ref f_last_loses) = true)
    {od_take_some an_take_some : Option Addr} {sl_take_some : Array (Option Value)} {oc_take_some kV_take_some dc_take_some pm_take_some cd_take_some ct_take_some : Value}
    (a_take_some : PySem.W.nsIn K mainGlobals "take_some" = some (some (.ref f_take_some))) (l_take_some : K.lookup f_take_some = some ⟨oc_take_some, od_take_some, .func (PySem.W.fnOf "take_some" "take_some" (L2.defArgs s_take_some) (L2.defBody s_take_some) (L2.defScope s_take_some) .none kV_take_some dc_take_some pm_take_some an_take_some cd_take_some ct_take_some), sl_take_some⟩) (c_take_some : PySem.W.codeIn K cd_take_some "take_some" = true) (k_take_some : PySem.W.keepIn K (.ref f_take_some) = true)
    {od_repeats an_repeats : Option Addr} {sl_repeats : Array (Option Value)} {oc_repeats kV_repeats dc_repeats pm_repeats cd_repeats ct_repeats : Value}
    (a_repeats : PySem.W.nsIn K mainGlobals "repeats" = some (some (.ref f_repeats))) (l_repeats : K.lookup f_repeats = some ⟨oc_repeats, od_repeats, .func (PySem.W.fnOf "repeats" "repeats" (L2.defArgs s_repeats) (L2.defBody s_repeats) (L2.defScope s_repeats) .none kV_repeats dc_repeats pm_repeats an_repeats cd_repeats ct_repeats), sl_repeats⟩) (c_repeats : PySem.W.codeIn K cd_repeats "repeats" = true) (k_repeats : PySem.W.keepIn K (.ref f_repeats) = true)
    {od_comes_again an_comes_again : Option Addr} {sl_comes_again : Array (Option Value)} {oc_comes_again kV_comes_again dc_comes_again pm_comes_again cd_comes_again ct_comes_again : Value}
    (a_comes_again : PySem.W.nsIn K mainGlobals "comes_again" = some (some (.ref f_comes_again))) (l_comes_again : K.lookup f_comes_again = some ⟨oc_comes_again, od_comes_again, .func (PySem.W.fnOf "comes_again" "comes_again" (L2.defArgs s_comes_again) (L2.defBody s_comes_again) (L2.defScope s_comes_again) .none kV_comes_again dc_comes_again pm_comes_again an_comes_again cd_comes_again ct_comes_again), sl_comes_again⟩) (c_comes_again : PySem.W.codeIn K cd_comes_again "comes_again" = true) (k_comes_again : PySem.W.keepIn K (.ref f_comes_again) = true)
    {od_law_draws an_law_draws : Option Addr} {sl_law_draws : Array (Option Value)} {oc_law_draws kV_law_draws dc_law_draws pm_law_draws cd_law_draws ct_law_draws : Value}
    (a_law_draws : PySem.W.nsIn K mainGlobals "_law_draws" = some (some (.ref f_law_draws))) (l_law_draws : K.lookup f_law_draws = some ⟨oc_law_draws, od_law_draws, .func (PySem.W.fnOf "_law_draws" "_law_draws" (L2.defArgs s_law_draws) (L2.defBody s_law_draws) (L2.defScope s_law_draws) .none kV_law_draws dc_law_draws pm_law_draws an_law_draws cd_law_draws ct_law_draws), sl_law_draws⟩) (c_law_draws : PySem.W.codeIn K cd_law_draws "_law_draws" = true) (k_law_draws : PySem.W.keepIn K (.ref f_law_draws) = true)
    {od_law_take an_law_take : Option Addr} {sl_law_take : Array (Option Value)} {oc_law_take kV_law_take dc_law_take pm_law_take cd_law_take ct_law_take : Value}
    (a_law_take : PySem.W.nsIn K mainGlobals "_law_take" = some (some (.ref f_law_take))) (l_law_take : K.lookup f_law_take = some ⟨oc_law_take, od_law_take, .func (PySem.W.fnOf "_law_take" "_law_take" (L2.defArgs s_law_take) (L2.defBody s_law_take) (L2.defScope s_law_take) .none kV_law_take dc_law_take pm_law_take an_law_take cd_law_take ct_law_take), sl_law_take⟩) (c_law_take : PySem.W.codeIn K cd_law_take "_law_take" = true) (k_law_take : PySem.W.keepIn K (.ref f_law_take) = true)
    {od_law_cell an_law_cell : Option Addr} {sl_law_cell : Array (Option Value)} {oc_law_cell kV_law_cell dc_law_cell pm_law_cell cd_law_cell ct_law_cell : Value}
    (a_law_cell : PySem.W.nsIn K mainGlobals "_law_cell" = some (some (.ref f_law_cell))) (l_law_cell : K.lookup f_law_cell = some ⟨oc_law_cell, od_law_cell, .func (PySem.W.fnOf "_law_cell" "_law_cell" (L2.defArgs s_law_cell) (L2.defBody s_law_cell) (L2.defScope s_law_cell) .none kV_law_cell dc_law_cell pm_law_cell an_law_cell cd_law_cell ct_law_cell), sl_law_cell⟩) (c_law_cell : PySem.W.codeIn K cd_law_cell "_law_cell" = true) (k_law_cell : PySem.W.keepIn K (.ref f_law_cell) = true)
    {od_law_same an_law_same : Option Addr} {sl_law_same : Array (Option Value)} {oc_law_same kV_law_same dc_law_same pm_law_same cd_law_same ct_law_same : Value}
    (a_law_same : PySem.W.nsIn K mainGlobals "_law_same" = some (some (.ref f_law_same))) (l_law_same : K.lookup f_law_same = some ⟨oc_law_same, od_law_same, .func (PySem.W.fnOf "_law_same" "_law_same" (L2.defArgs s_law_same) (L2.defBody s_law_same) (L2.defScope s_law_same) .none kV_law_same dc_law_same pm_law_same an_law_same cd_law_same ct_law_same), sl_law_same⟩) (c_law_same : PySem.W.codeIn K cd_law_same "_law_same" = true) (k_law_same : PySem.W.keepIn K (.ref f_law_same) = true)
    {od_law_binary an_law_binary : Option Addr} {sl_law_binary : Array (Option Value)} {oc_law_binary kV_law_binary dc_law_binary pm_law_binary cd_law_binary ct_law_binary : Value}
    (a_law_binary : PySem.W.nsIn K mainGlobals "_law_binary" = some (some (.ref f_law_binary))) (l_law_binary : K.lookup f_law_binary = some ⟨oc_law_binary, od_law_binary, .func (PySem.W.fnOf "_law_binary" "_law_binary" (L2.defArgs s_law_binary) (L2.defBody s_law_binary) (L2.defScope s_law_binary) .none kV_law_binary dc_law_binary pm_law_binary an_law_binary cd_law_binary ct_law_binary), sl_law_binary⟩) (c_law_binary : PySem.W.codeIn K cd_law_binary "_law_binary" = true) (k_law_binary : PySem.W.keepIn K (.ref f_law_binary) = true)
    {od_law_without_carrying an_law_without_carrying : Option Addr} {sl_law_without_carrying : Array (Option Value)} {oc_law_without_carrying kV_law_without_carrying dc_law_without_carrying pm_law_without_carrying cd_law_without_carrying ct_law_without_carrying : Value}
    (a_law_without_carrying : PySem.W.nsIn K mainGlobals "_law_without_carrying" = some (some (.ref f_law_without_carrying))) (l_law_without_carrying : K.lookup f_law_without_carrying = some ⟨oc_law_without_carrying, od_law_without_carrying, .func (PySem.W.fnOf "_law_without_carrying" "_law_without_carrying" (L2.defArgs s_law_without_carrying) (L2.defBody s_law_without_carrying) (L2.defScope s_law_without_carrying) .none kV_law_without_carrying dc_law_without_carrying pm_law_without_carrying an_law_without_carrying cd_law_without_carrying ct_law_without_carrying), sl_law_without_carrying⟩) (c_law_without_carrying : PySem.W.codeIn K cd_law_without_carrying "_law_without_carrying" = true) (k_law_without_carrying : PySem.W.keepIn K (.ref f_law_without_carrying) = true)
    {od_law_won an_law_won : Option Addr} {sl_law_won : Array (Option Value)} {oc_law_won kV_law_won dc_law_won pm_law_won cd_law_won ct_law_won : Value}
    (a_law_won : PySem.W.nsIn K mainGlobals "_law_won" = some (some (.ref f_law_won))) (l_law_won : K.lookup f_law_won = some ⟨oc_law_won, od_law_won, .func (PySem.W.fnOf "_law_won" "_law_won" (L2.defArgs s_law_won) (L2.defBody s_law_won) (L2.defScope s_law_won) .none kV_law_won dc_law_won pm_law_won an_law_won cd_law_won ct_law_won), sl_law_won⟩) (c_law_won : PySem.W.codeIn K cd_law_won "_law_won" = true) (k_law_won : PySem.W.keepIn K (.ref f_law_won) = true)
    {od_law_small an_law_small : Option Addr} {sl_law_small : Array (Option Value)} {oc_law_small kV_law_small dc_law_small pm_law_small cd_law_small ct_law_small : Value}
    (a_law_small : PySem.W.nsIn K mainGlobals "_law_small" = some (some (.ref f_law_small))) (l_law_small : K.lookup f_law_small = some ⟨oc_law_small, od_law_small, .func (PySem.W.fnOf "_law_small" "_law_small" (L2.defArgs s_law_small) (L2.defBody s_law_small) (L2.defScope s_law_small) .none kV_law_small dc_law_small pm_law_small an_law_small cd_law_small ct_law_small), sl_law_small⟩) (c_law_small : PySem.W.codeIn K cd_law_small "_law_small" = true) (k_law_small : PySem.W.keepIn K (.ref f_law_small) = true)
    {od_law_great an_law_great : Option Addr} {sl_law_great : Array (Option Value)} {oc_law_great kV_law_great dc_law_great pm_law_great cd_law_great ct_law_great : Value}
    (a_law_great : PySem.W.nsIn K mainGlobals "_law_great" = some (some (.ref f_law_great))) (l_law_great : K.lookup f_law_great = some ⟨oc_law_great, od_law_great, .func (PySem.W.fnOf "_law_great" "_law_great" (L2.defArgs s_law_great) (L2.defBody s_law_great) (L2.defScope s_law_great) .none kV_law_great dc_law_great pm_law_great an_law_great cd_law_great ct_law_great), sl_law_great⟩) (c_law_great : PySem.W.codeIn K cd_law_great "_law_great" = true) (k_law_great : PySem.W.keepIn K (.ref f_law_great) = true)
    {od_law_row an_law_row : Option Addr} {sl_law_row : Array (Option Value)} {oc_law_row kV_law_row dc_law_row pm_law_row cd_law_row ct_law_row : Value}
    (a_law_row : PySem.W.nsIn K mainGlobals "_law_row" = some (some (.ref f_law_row))) (l_law_row : K.lookup f_law_row = some ⟨oc_law_row, od_law_row, .func (PySem.W.fnOf "_law_row" "_law_row" (L2.defArgs s_law_row) (L2.defBody s_law_row) (L2.defScope s_law_row) .none kV_law_row dc_law_row pm_law_row an_law_row cd_law_row ct_law_row), sl_law_row⟩) (c_law_row : PySem.W.codeIn K cd_law_row "_law_row" = true) (k_law_row : PySem.W.keepIn K (.ref f_law_row) = true)
    {od_law_again an_law_again : Option Addr} {sl_law_again : Array (Option Value)} {oc_law_again kV_law_again dc_law_again pm_law_again cd_law_again ct_law_again : Value}
    (a_law_again : PySem.W.nsIn K mainGlobals "_law_again" = some (some (.ref f_law_again))) (l_law_again : K.lookup f_law_again = some ⟨oc_law_again, od_law_again, .func (PySem.W.fnOf "_law_again" "_law_again" (L2.defArgs s_law_again) (L2.defBody s_law_again) (L2.defScope s_law_again) .none kV_law_again dc_law_again pm_law_again an_law_again cd_law_again ct_law_again), sl_law_again⟩) (c_law_again : PySem.W.codeIn K cd_law_again "_law_again" = true) (k_law_again : PySem.W.keepIn K (.ref f_law_again) = true)
    {od_law an_law : Option Addr} {sl_law : Array (Option Value)} {oc_law kV_law dc_law pm_law cd_law ct_law : Value}
    (a_law : PySem.W.nsIn K mainGlobals "law" = some (some (.ref f_law))) (l_law : K.lookup f_law = some ⟨oc_law, od_law, .func (PySem.W.fnOf "law" "law" (L2.defArgs s_law) (L2.defBody s_law) (L2.defScope s_law) .none kV_law dc_law pm_law an_law cd_law ct_law), sl_law⟩) (c_law : PySem.W.codeIn K cd_law "law" = true) (k_law : PySem.W.keepIn K (.ref f_law) = true)
    (z_tuple : PySem.W.nsIn K mainGlobals "tuple" = some none)
    (z_len : PySem.W.nsIn K mainGlobals "len" = some none)
    (z_range : PySem.W.nsIn K mainGlobals "range" = some none)
    (z_all : PySem.W.nsIn K mainGlobals "all" = some none)
    (z_sum : PySem.W.nsIn K mainGlobals "sum" = some none)
    (z_sorted : PySem.W.nsIn K mainGlobals "sorted" = some none)
    (z_int : PySem.W.nsIn K mainGlobals "int" = some none)
    (z_list : PySem.W.nsIn K mainGlobals "list" = some none)
    (z_bool : PySem.W.nsIn K mainGlobals "bool" = some none)
    (z_isinstance : PySem.W.nsIn K mainGlobals "isinstance" = some none)
    (z_str : PySem.W.nsIn K mainGlobals "str" = some none)
    (z_max : PySem.W.nsIn K mainGlobals "max" = some none)
    (z_abs : PySem.W.nsIn K mainGlobals "abs" = some none)
    (z_set : PySem.W.nsIn K mainGlobals "set" = some none)
    : ∃ fd : FuncData, (∀ (s : Shared) (v : Value), BindsTo s fd ⟨[v], []⟩ [("script", v)]) ∧ ∀ base : Heap, K.In base → base.Ns mainGlobals mg → L2.FnOk l.prog w K mg base L2.CX0 27 fa fd ["script"] (spOf K 1 (sp_law)) := by
  have e := hfa.symm.trans (PySem.W.mg_of X G a_law)
  cases e
  have F_least_missing := L2.fun_mk (st := s_least_missing) l_least_missing c_least_missing k_least_missing
  have m_least_missing : mg "least_missing" = some (.ref f_least_missing) := PySem.W.mg_of X G a_least_missing
  have F_numbers_of := L2.fun_mk (st := s_numbers_of) l_numbers_of c_numbers_of k_numbers_of
  have m_numbers_of : mg "numbers_of" = some (.ref f_numbers_of) := PySem.W.mg_of X G a_numbers_of
  have F_added_two := L2.fun_mk (st := s_added_two) l_added_two c_added_two k_added_two
  have m_added_two : mg "added_two" = some (.ref f_added_two) := PySem.W.mg_of X G a_added_two
  have F_added := L2.fun_mk (st := s_added) l_added c_added k_added
  have m_added : mg "added" = some (.ref f_added) := PySem.W.mg_of X G a_added
  have F_heaps_move := L2.fun_mk (st := s_heaps_move) l_heaps_move c_heaps_move k_heaps_move
  have m_heaps_move : mg "heaps_move" = some (.ref f_heaps_move) := PySem.W.mg_of X G a_heaps_move
  have F_last_loses := L2.fun_mk (st := s_last_loses) l_last_loses c_last_loses k_last_loses
  have m_last_loses : mg "last_loses" = some (.ref f_last_loses) := PySem.W.mg_of X G a_last_loses
  have F_take_some := L2.fun_mk (st := s_take_some) l_take_some c_take_some k_take_some
  have m_take_some : mg "take_some" = some (.ref f_take_some) := PySem.W.mg_of X G a_take_some
  have F_repeats := L2.fun_mk (st := s_repeats) l_repeats c_repeats k_repeats
  have m_repeats : mg "repeats" = some (.ref f_repeats) := PySem.W.mg_of X G a_repeats
  have F_comes_again := L2.fun_mk (st := s_comes_again) l_comes_again c_comes_again k_comes_again
  have m_comes_again : mg "comes_again" = some (.ref f_comes_again) := PySem.W.mg_of X G a_comes_again
  have F_law_draws := L2.fun_mk (st := s_law_draws) l_law_draws c_law_draws k_law_draws
  have m_law_draws : mg "_law_draws" = some (.ref f_law_draws) := PySem.W.mg_of X G a_law_draws
  have F_law_take := L2.fun_mk (st := s_law_take) l_law_take c_law_take k_law_take
  have m_law_take : mg "_law_take" = some (.ref f_law_take) := PySem.W.mg_of X G a_law_take
  have F_law_cell := L2.fun_mk (st := s_law_cell) l_law_cell c_law_cell k_law_cell
  have m_law_cell : mg "_law_cell" = some (.ref f_law_cell) := PySem.W.mg_of X G a_law_cell
  have F_law_same := L2.fun_mk (st := s_law_same) l_law_same c_law_same k_law_same
  have m_law_same : mg "_law_same" = some (.ref f_law_same) := PySem.W.mg_of X G a_law_same
  have F_law_binary := L2.fun_mk (st := s_law_binary) l_law_binary c_law_binary k_law_binary
  have m_law_binary : mg "_law_binary" = some (.ref f_law_binary) := PySem.W.mg_of X G a_law_binary
  have F_law_without_carrying := L2.fun_mk (st := s_law_without_carrying) l_law_without_carrying c_law_without_carrying k_law_without_carrying
  have m_law_without_carrying : mg "_law_without_carrying" = some (.ref f_law_without_carrying) := PySem.W.mg_of X G a_law_without_carrying
  have F_law_won := L2.fun_mk (st := s_law_won) l_law_won c_law_won k_law_won
  have m_law_won : mg "_law_won" = some (.ref f_law_won) := PySem.W.mg_of X G a_law_won
  have F_law_small := L2.fun_mk (st := s_law_small) l_law_small c_law_small k_law_small
  have m_law_small : mg "_law_small" = some (.ref f_law_small) := PySem.W.mg_of X G a_law_small
  have F_law_great := L2.fun_mk (st := s_law_great) l_law_great c_law_great k_law_great
  have m_law_great : mg "_law_great" = some (.ref f_law_great) := PySem.W.mg_of X G a_law_great
  have F_law_row := L2.fun_mk (st := s_law_row) l_law_row c_law_row k_law_row
  have m_law_row : mg "_law_row" = some (.ref f_law_row) := PySem.W.mg_of X G a_law_row
  have F_law_again := L2.fun_mk (st := s_law_again) l_law_again c_law_again k_law_again
  have m_law_again : mg "_law_again" = some (.ref f_law_again) := PySem.W.mg_of X G a_law_again
  have F_law := L2.fun_mk (st := s_law) l_law c_law k_law
  have m_law : mg "law" = some (.ref _) := PySem.W.mg_of X G a_law
  have z_tuple := PySem.W.mg_none_of X G z_tuple
  have z_len := PySem.W.mg_none_of X G z_len
  have z_range := PySem.W.mg_none_of X G z_range
  have z_all := PySem.W.mg_none_of X G z_all
  have z_sum := PySem.W.mg_none_of X G z_sum
  have z_sorted := PySem.W.mg_none_of X G z_sorted
  have z_int := PySem.W.mg_none_of X G z_int
  have z_list := PySem.W.mg_none_of X G z_list
  have z_bool := PySem.W.mg_none_of X G z_bool
  have z_isinstance := PySem.W.mg_none_of X G z_isinstance
  have z_str := PySem.W.mg_none_of X G z_str
  have z_max := PySem.W.mg_none_of X G z_max
  have z_abs := PySem.W.mg_none_of X G z_abs
  have z_set := PySem.W.mg_none_of X G z_set
  refine ⟨PySem.W.fnOf "law" "law" (L2.defArgs s_law) (L2.defBody s_law) (L2.defScope s_law) .none kV_law dc_law pm_law an_law cd_law ct_law, fun s v => .of_eq rfl, fun base _ _ => ?_⟩
  have C_law_draws : Callee l.prog w K mg base "_law_draws" 1 2 (sp_draws) := ok_law_draws (k := 0) F_law_draws m_law_draws z_int z_len z_list z_range  body_law_draws
  have C_law_take : Callee l.prog w K mg base "_law_take" 1 2 (sp_take) := ok_law_take (k := 0) F_law_take m_law_take z_len z_int  body_law_take
  have C_law_cell : Callee l.prog w K mg base "_law_cell" 2 2 (sp_cell) := ok_law_cell (k := 1) F_law_cell m_law_cell z_len z_int C_law_take (by decide) body_law_cell
  have N_law_won : Callee l.prog w K mg base "_law_won" 0 3 spNo := callee_none F_law_won m_law_won (F_law_won.binds (ps := ["heaps", "known", "last_wins"]) fun _ _ _ _ _ _ us hl => match us, hl with | [_, _, _], _ => rfl) (fun _ _ _ h => h)
  have C_law_won_0 : Callee l.prog w K mg base "_law_won" 1 3 (sp_won 0) := ok_law_won (k := 0) F_law_won m_law_won z_sorted z_tuple z_sum z_len z_range N_law_won (by decide) (body_law_won _ 0 (.inl rfl))
  have C_law_won_1 : Callee l.prog w K mg base "_law_won" 2 3 (sp_won 1) := ok_law_won (k := 1) F_law_won m_law_won z_sorted z_tuple z_sum z_len z_range C_law_won_0 (by decide) (body_law_won _ 1 (.inr ⟨_, rfl, rfl⟩))
  have C_law_won_2 : Callee l.prog w K mg base "_law_won" 3 3 (sp_won 2) := ok_law_won (k := 2) F_law_won m_law_won z_sorted z_tuple z_sum z_len z_range C_law_won_1 (by decide) (body_law_won _ 2 (.inr ⟨_, rfl, rfl⟩))
  have C_law_won_3 : Callee l.prog w K mg base "_law_won" 4 3 (sp_won 3) := ok_law_won (k := 3) F_law_won m_law_won z_sorted z_tuple z_sum z_len z_range C_law_won_2 (by decide) (body_law_won _ 3 (.inr ⟨_, rfl, rfl⟩))
  have C_law_won_4 : Callee l.prog w K mg base "_law_won" 5 3 (sp_won 4) := ok_law_won (k := 4) F_law_won m_law_won z_sorted z_tuple z_sum z_len z_range C_law_won_3 (by decide) (body_law_won _ 4 (.inr ⟨_, rfl, rfl⟩))
  have C_law_won_5 : Callee l.prog w K mg base "_law_won" 6 3 (sp_won 5) := ok_law_won (k := 5) F_law_won m_law_won z_sorted z_tuple z_sum z_len z_range C_law_won_4 (by decide) (body_law_won _ 5 (.inr ⟨_, rfl, rfl⟩))
  have C_law_won_6 : Callee l.prog w K mg base "_law_won" 7 3 (sp_won 6) := ok_law_won (k := 6) F_law_won m_law_won z_sorted z_tuple z_sum z_len z_range C_law_won_5 (by decide) (body_law_won _ 6 (.inr ⟨_, rfl, rfl⟩))
  have C_law_won_7 : Callee l.prog w K mg base "_law_won" 8 3 (sp_won 7) := ok_law_won (k := 7) F_law_won m_law_won z_sorted z_tuple z_sum z_len z_range C_law_won_6 (by decide) (body_law_won _ 7 (.inr ⟨_, rfl, rfl⟩))
  have C_law_won_8 : Callee l.prog w K mg base "_law_won" 9 3 (sp_won 8) := ok_law_won (k := 8) F_law_won m_law_won z_sorted z_tuple z_sum z_len z_range C_law_won_7 (by decide) (body_law_won _ 8 (.inr ⟨_, rfl, rfl⟩))
  have C_law_won_9 : Callee l.prog w K mg base "_law_won" 10 3 (sp_won 9) := ok_law_won (k := 9) F_law_won m_law_won z_sorted z_tuple z_sum z_len z_range C_law_won_8 (by decide) (body_law_won _ 9 (.inr ⟨_, rfl, rfl⟩))
  have C_law_won_10 : Callee l.prog w K mg base "_law_won" 11 3 (sp_won 10) := ok_law_won (k := 10) F_law_won m_law_won z_sorted z_tuple z_sum z_len z_range C_law_won_9 (by decide) (body_law_won _ 10 (.inr ⟨_, rfl, rfl⟩))
  have C_law_won_11 : Callee l.prog w K mg base "_law_won" 12 3 (sp_won 11) := ok_law_won (k := 11) F_law_won m_law_won z_sorted z_tuple z_sum z_len z_range C_law_won_10 (by decide) (body_law_won _ 11 (.inr ⟨_, rfl, rfl⟩))
  have C_law_won_12 : Callee l.prog w K mg base "_law_won" 13 3 (sp_won 12) := ok_law_won (k := 12) F_law_won m_law_won z_sorted z_tuple z_sum z_len z_range C_law_won_11 (by decide) (body_law_won _ 12 (.inr ⟨_, rfl, rfl⟩))
  have C_law_won_13 : Callee l.prog w K mg base "_law_won" 14 3 (sp_won 13) := ok_law_won (k := 13) F_law_won m_law_won z_sorted z_tuple z_sum z_len z_range C_law_won_12 (by decide) (body_law_won _ 13 (.inr ⟨_, rfl, rfl⟩))
  have C_law_won_14 : Callee l.prog w K mg base "_law_won" 15 3 (sp_won 14) := ok_law_won (k := 14) F_law_won m_law_won z_sorted z_tuple z_sum z_len z_range C_law_won_13 (by decide) (body_law_won _ 14 (.inr ⟨_, rfl, rfl⟩))
  have C_law_won_15 : Callee l.prog w K mg base "_law_won" 16 3 (sp_won 15) := ok_law_won (k := 15) F_law_won m_law_won z_sorted z_tuple z_sum z_len z_range C_law_won_14 (by decide) (body_law_won _ 15 (.inr ⟨_, rfl, rfl⟩))
  have C_law_won_16 : Callee l.prog w K mg base "_law_won" 17 3 (sp_won 16) := ok_law_won (k := 16) F_law_won m_law_won z_sorted z_tuple z_sum z_len z_range C_law_won_15 (by decide) (body_law_won _ 16 (.inr ⟨_, rfl, rfl⟩))
  have C_law_won_17 : Callee l.prog w K mg base "_law_won" 18 3 (sp_won 17) := ok_law_won (k := 17) F_law_won m_law_won z_sorted z_tuple z_sum z_len z_range C_law_won_16 (by decide) (body_law_won _ 17 (.inr ⟨_, rfl, rfl⟩))
  have C_law_won_18 : Callee l.prog w K mg base "_law_won" 19 3 (sp_won 18) := ok_law_won (k := 18) F_law_won m_law_won z_sorted z_tuple z_sum z_len z_range C_law_won_17 (by decide) (body_law_won _ 18 (.inr ⟨_, rfl, rfl⟩))
  have C_law_won_19 : Callee l.prog w K mg base "_law_won" 20 3 (sp_won 19) := ok_law_won (k := 19) F_law_won m_law_won z_sorted z_tuple z_sum z_len z_range C_law_won_18 (by decide) (body_law_won _ 19 (.inr ⟨_, rfl, rfl⟩))
  have C_law_won_20 : Callee l.prog w K mg base "_law_won" 21 3 (sp_won 20) := ok_law_won (k := 20) F_law_won m_law_won z_sorted z_tuple z_sum z_len z_range C_law_won_19 (by decide) (body_law_won _ 20 (.inr ⟨_, rfl, rfl⟩))
  have C_law_won_21 : Callee l.prog w K mg base "_law_won" 22 3 (sp_won 21) := ok_law_won (k := 21) F_law_won m_law_won z_sorted z_tuple z_sum z_len z_range C_law_won_20 (by decide) (body_law_won _ 21 (.inr ⟨_, rfl, rfl⟩))
  have C_law_won_22 : Callee l.prog w K mg base "_law_won" 23 3 (sp_won 22) := ok_law_won (k := 22) F_law_won m_law_won z_sorted z_tuple z_sum z_len z_range C_law_won_21 (by decide) (body_law_won _ 22 (.inr ⟨_, rfl, rfl⟩))
  have C_law_won_23 : Callee l.prog w K mg base "_law_won" 24 3 (sp_won 23) := ok_law_won (k := 23) F_law_won m_law_won z_sorted z_tuple z_sum z_len z_range C_law_won_22 (by decide) (body_law_won _ 23 (.inr ⟨_, rfl, rfl⟩))
  have C_law_won : Callee l.prog w K mg base "_law_won" 25 3 (sp_won 24) := ok_law_won (k := 24) F_law_won m_law_won z_sorted z_tuple z_sum z_len z_range C_law_won_23 (by decide) (body_law_won _ 24 (.inr ⟨_, rfl, rfl⟩))
  have C_added_two : Callee l.prog w K mg base "added_two" 1 2 (sp_two) := ok_added_two (k := 0) F_added_two m_added_two   body_added_two
  have C_added : Callee l.prog w K mg base "added" 2 1 (sp_added) := ok_added (k := 1) F_added m_added  C_added_two (by decide) body_added
  have C_heaps_move : Callee l.prog w K mg base "heaps_move" 3 1 (sp_move) := ok_heaps_move (k := 2) F_heaps_move m_heaps_move z_len z_range C_added (by decide) C_added_two (by decide) body_heaps_move
  have N_law_same : Callee l.prog w K mg base "_law_same" 0 2 spNo := callee_none F_law_same m_law_same (F_law_same.binds (ps := ["actual", "due"]) fun _ _ _ _ _ _ us hl => match us, hl with | [_, _], _ => rfl) (fun _ _ _ h => h)
  have C_law_same_0 : Callee l.prog w K mg base "_law_same" 1 2 (sp_same 0) := ok_law_same (k := 0) F_law_same m_law_same z_bool z_isinstance z_int z_str z_tuple z_len z_range N_law_same (by decide) (body_law_same _ 0 (by decide) (.inl rfl))
  have C_law_same_1 : Callee l.prog w K mg base "_law_same" 2 2 (sp_same 1) := ok_law_same (k := 1) F_law_same m_law_same z_bool z_isinstance z_int z_str z_tuple z_len z_range C_law_same_0 (by decide) (body_law_same _ 1 (by decide) (.inr ⟨_, rfl, rfl⟩))
  have C_law_same_2 : Callee l.prog w K mg base "_law_same" 3 2 (sp_same 2) := ok_law_same (k := 2) F_law_same m_law_same z_bool z_isinstance z_int z_str z_tuple z_len z_range C_law_same_1 (by decide) (body_law_same _ 2 (by decide) (.inr ⟨_, rfl, rfl⟩))
  have C_law_same : Callee l.prog w K mg base "_law_same" 4 2 (sp_same 3) := ok_law_same (k := 3) F_law_same m_law_same z_bool z_isinstance z_int z_str z_tuple z_len z_range C_law_same_2 (by decide) (body_law_same _ 3 (by decide) (.inr ⟨_, rfl, rfl⟩))
  have C_last_loses : Callee l.prog w K mg base "last_loses" 3 1 (sp_loses) := ok_last_loses (k := 2) F_last_loses m_last_loses z_all z_sum C_added (by decide) body_last_loses
  have C_law_small : Callee l.prog w K mg base "_law_small" 26 1 (sp_small) := ok_law_small (k := 25) F_law_small m_law_small z_range z_tuple z_len z_sum C_law_take (by decide) C_law_won (by decide) C_heaps_move (by decide) C_law_same (by decide) C_last_loses (by decide) body_law_small
  have C_law_binary : Callee l.prog w K mg base "_law_binary" 1 1 (sp_bin) := ok_law_binary (k := 0) F_law_binary m_law_binary z_int  body_law_binary
  have C_law_without_carrying : Callee l.prog w K mg base "_law_without_carrying" 2 1 (sp_wc) := ok_law_without_carrying (k := 1) F_law_without_carrying m_law_without_carrying z_len z_max z_range z_int C_law_binary (by decide) body_law_without_carrying
  have C_law_great : Callee l.prog w K mg base "_law_great" 5 2 (sp_great) := ok_law_great (k := 4) F_law_great m_law_great z_range z_len z_max z_sum z_tuple C_law_take (by decide) C_law_without_carrying (by decide) C_heaps_move (by decide) C_law_same (by decide) C_last_loses (by decide) body_law_great
  have C_take_some : Callee l.prog w K mg base "take_some" 1 2 (sp_some) := ok_take_some (k := 0) F_take_some m_take_some z_range z_sorted z_tuple  body_take_some
  have C_law_row : Callee l.prog w K mg base "_law_row" 1 2 (sp_row) := ok_law_row (k := 0) F_law_row m_law_row z_range z_len  body_law_row
  have C_least_missing : Callee l.prog w K mg base "least_missing" 1 1 (sp_mex) := ok_least_missing (k := 0) F_least_missing m_least_missing   body_least_missing
  have C_numbers_of : Callee l.prog w K mg base "numbers_of" 2 1 (sp_nums) := ok_numbers_of (k := 1) F_numbers_of m_numbers_of z_tuple C_least_missing (by decide) body_numbers_of
  have C_law_again : Callee l.prog w K mg base "_law_again" 2 2 (sp_again) := ok_law_again (k := 1) F_law_again m_law_again z_range z_len C_law_row (by decide) body_law_again
  have C_repeats : Callee l.prog w K mg base "repeats" 1 3 (sp_rep) := ok_repeats (k := 0) F_repeats m_repeats z_len z_range z_all  body_repeats
  have C_comes_again : Callee l.prog w K mg base "comes_again" 3 2 (sp_again) := ok_comes_again (k := 2) F_comes_again m_comes_again z_range C_take_some (by decide) C_numbers_of (by decide) C_repeats (by decide) body_comes_again
  exact ok_law (k := 26) F_law m_law z_abs z_range z_sorted z_set z_tuple z_sum C_law_draws (by decide) C_law_cell (by decide) C_law_small (by decide) C_law_great (by decide) C_law_take (by decide) C_take_some (by decide) C_law_same (by decide) C_law_row (by decide) C_numbers_of (by decide) C_law_again (by decide) C_comes_again (by decide) C_heaps_move (by decide) C_last_loses (by decide) body_law
end K79
open PySem PySem.W PyProof.Rows in
set_option maxRecDepth 100000 in
set_option maxHeartbeats 0 in
theorem PySem.Challenge.cw_oddsweighed_k79_heaps_and_what_may_be_ta_holds : PySem.Challenge.rw_oddsweighed_k79_heaps_and_what_may_be_ta.Holds := by
  w_on; o_law; k_head; (case hw => w_witness2)
  k_fill
  refine L2.walk_of (l := PySem.Challenge.rw_oddsweighed_k79_heaps_and_what_may_be_ta) (n := 63) (k := 27) (x := "script") (CX := fun _ => L2.CX0) (sp := fun w => DL.spOf _ 1 (K79.sp_law)) rfl (by decide) rfl ⟨rfl, by decide, by decide⟩ (fun w h Y => PySem.W.kIn_of Y) ?F (fun _ _ a ns hl hO hS => DL.law_sp hO hS ⟨ns, rfl, hl, fun _ => rfl⟩) (fun _ _ _ _ _ h => h)
  case F =>
    intro w mg fa h KX G hmg
    refine' K79.all_mk KX G hmg ?a_least_missing ?l_least_missing ?c_least_missing ?k_least_missing ?a_numbers_of ?l_numbers_of ?c_numbers_of ?k_numbers_of ?a_added_two ?l_added_two ?c_added_two ?k_added_two ?a_added ?l_added ?c_added ?k_added ?a_heaps_move ?l_heaps_move ?c_heaps_move ?k_heaps_move ?a_last_loses ?l_last_loses ?c_last_loses ?k_last_loses ?a_take_some ?l_take_some ?c_take_some ?k_take_some ?a_repeats ?l_repeats ?c_repeats ?k_repeats ?a_comes_again ?l_comes_again ?c_comes_again ?k_comes_again ?a_law_draws ?l_law_draws ?c_law_draws ?k_law_draws ?a_law_take ?l_law_take ?c_law_take ?k_law_take ?a_law_cell ?l_law_cell ?c_law_cell ?k_law_cell ?a_law_same ?l_law_same ?c_law_same ?k_law_same ?a_law_binary ?l_law_binary ?c_law_binary ?k_law_binary ?a_law_without_carrying ?l_law_without_carrying ?c_law_without_carrying ?k_law_without_carrying ?a_law_won ?l_law_won ?c_law_won ?k_law_won ?a_law_small ?l_law_small ?c_law_small ?k_law_small ?a_law_great ?l_law_great ?c_law_great ?k_law_great ?a_law_row ?l_law_row ?c_law_row ?k_law_row ?a_law_again ?l_law_again ?c_law_again ?k_law_again ?a_law ?l_law ?c_law ?k_law ?z_tuple ?z_len ?z_range ?z_all ?z_sum ?z_sorted ?z_int ?z_list ?z_bool ?z_isinstance ?z_str ?z_max ?z_abs ?z_set
    (case a_least_missing => k_is)
    (case l_least_missing => k_is)
    (case c_least_missing => k_is)
    (case k_least_missing => k_is)
    (case a_numbers_of => k_is)
    (case l_numbers_of => k_is)
    (case c_numbers_of => k_is)
    (case k_numbers_of => k_is)
    (case a_added_two => k_is)
    (case l_added_two => k_is)
    (case c_added_two => k_is)
    (case k_added_two => k_is)
    (case a_added => k_is)
    (case l_added => k_is)
    (case c_added => k_is)
    (case k_added => k_is)
    (case a_heaps_move => k_is)
    (case l_heaps_move => k_is)
    (case c_heaps_move => k_is)
    (case k_heaps_move => k_is)
    (case a_last_loses => k_is)
    (case l_last_loses => k_is)
    (case c_last_loses => k_is)
    (case k_last_loses => k_is)
    (case a_take_some => k_is)
    (case l_take_some => k_is)
    (case c_take_some => k_is)
    (case k_take_some => k_is)
    (case a_repeats => k_is)
    (case l_repeats => k_is)
    (case c_repeats => k_is)
    (case k_repeats => k_is)
    (case a_comes_again => k_is)
    (case l_comes_again => k_is)
    (case c_comes_again => k_is)
    (case k_comes_again => k_is)
    (case a_law_draws => k_is)
    (case l_law_draws => k_is)
    (case c_law_draws => k_is)
    (case k_law_draws => k_is)
    (case a_law_take => k_is)
    (case l_law_take => k_is)
    (case c_law_take => k_is)
    (case k_law_take => k_is)
    (case a_law_cell => k_is)
    (case l_law_cell => k_is)
    (case c_law_cell => k_is)
    (case k_law_cell => k_is)
    (case a_law_same => k_is)
    (case l_law_same => k_is)
    (case c_law_same => k_is)
    (case k_law_same => k_is)
    (case a_law_binary => k_is)
    (case l_law_binary => k_is)
    (case c_law_binary => k_is)
    (case k_law_binary => k_is)
    (case a_law_without_carrying => k_is)
    (case l_law_without_carrying => k_is)
    (case c_law_without_carrying => k_is)
    (case k_law_without_carrying => k_is)
    (case a_law_won => k_is)
    (case l_law_won => k_is)
    (case c_law_won => k_is)
    (case k_law_won => k_is)
    (case a_law_small => k_is)
    (case l_law_small => k_is)
    (case c_law_small => k_is)
    (case k_law_small => k_is)
    (case a_law_great => k_is)
    (case l_law_great => k_is)
    (case c_law_great => k_is)
    (case k_law_great => k_is)
    (case a_law_row => k_is)
    (case l_law_row => k_is)
    (case c_law_row => k_is)
    (case k_law_row => k_is)
    (case a_law_again => k_is)
    (case l_law_again => k_is)
    (case c_law_again => k_is)
    (case k_law_again => k_is)
    (case a_law => k_is)
    (case l_law => k_is)
    (case c_law => k_is)
    (case k_law => k_is)
    (case z_tuple => k_is)
    (case z_len => k_is)
    (case z_range => k_is)
    (case z_all => k_is)
    (case z_sum => k_is)
    (case z_sorted => k_is)
    (case z_int => k_is)
    (case z_list => k_is)
    (case z_bool => k_is)
    (case z_isinstance => k_is)
    (case z_str => k_is)
    (case z_max => k_is)
    (case z_abs => k_is)
    (case z_set => k_is)
